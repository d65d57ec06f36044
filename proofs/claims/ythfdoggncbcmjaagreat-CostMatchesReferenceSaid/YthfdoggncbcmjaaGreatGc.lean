/- The evaluator's iterators and smaller builtins, and the model's. No conditions beyond those that each theorem states. -/
import Derived.Test.YthfdoggncbcmjaaGreatGb
import Derived.Laws.Build

set_option linter.unusedSimpArgs false
set_option linter.unusedVariables false
set_option linter.unusedSectionVars false

namespace Go.Ev

theorem lenA_run {P : Program} {σ : Sg} {h : H} {w : World} (hr : HR σ h w) {ats : Array TypeId} {T t : TypeId} {args : Array Value} {x r : AV} {v : Value} (hl : lenA P h t x = some r) (h0 : ats[0]? = some t) (h1 : args[0]? = some v) (hv : V σ x v) :
    ∃ z, (Builtin.len_ ats T args).run P w = .ok z w ∧ V σ r z := by
  have main : ∀ n : Nat, r = .int .i64 (Int.ofNat n) → (Builtin.len_ ats T args).run P w = .ok (goInt n) w → ∃ z, (Builtin.len_ ats T args).run P w = .ok z w ∧ V σ r z := by
    intro n hn hr'; subst hn; exact ⟨_, hr', .int _ _⟩
  unfold lenA at hl
  split at hl
  all_goals try (rename_i hu)
  all_goals try (simp only [Option.map_some, Option.some.injEq] at hl)
  · cases hv with
    | str hs => exact main _ hl.symm (by simp only [Builtin.len_, h0, h1, Sem.run_bind, run_und hu, Result.andThen_ok, Sem.run_pure, size_str hs])
  · exact main _ hl.symm (by simp only [Builtin.len_, h0, h1, Sem.run_bind, run_und hu, Result.andThen_ok, Sem.run_pure])
  · cases hv with
    | sliceN hl0 => subst hl0; exact main _ hl.symm (by simp only [Builtin.len_, h0, h1, Sem.run_bind, run_und hu, Result.andThen_ok, Sem.run_pure])
    | slice => exact main _ hl.symm (by simp only [Builtin.len_, h0, h1, Sem.run_bind, run_und hu, Result.andThen_ok, Sem.run_pure])
  · cases hv; exact main 0 hl.symm (by simp only [Builtin.len_, h0, h1, Sem.run_bind, run_und hu, Result.andThen_ok, Sem.run_pure]; rfl)
  · rename_i id
    cases hm : h.mapOf id with
    | none => simp [hm] at hl
    | some q =>
      obtain ⟨es, c⟩ := q
      simp only [hm, Option.map_some, Option.some.injEq] at hl
      cases hv with
      | map hp =>
        obtain ⟨_, es', g1, g2⟩ := hr.map hm hp
        refine main _ hl.symm ?_
        have := g2.1
        simp only [Builtin.len_, h0, h1, Sem.run_bind, run_und hu, Result.andThen_ok, run_getObj g1 (by simp), Sem.run_pure]
        simp at this; rw [this]
  · simp at hl

theorem minA_run {P : Program} {σ : Sg} {w : World} (isMax : Bool) {x y r : AV} {v u : Value} (h : minA isMax x y = some r) (hv : V σ x v) (hu : V σ y u) :
    ∃ z, (if isMax then Builtin.max2 v u else Builtin.min2 v u).run P w = .ok z w ∧ V σ r z := by
  unfold minA at h
  split at h
  · rename_i k a k' b
    simp only [Option.some.injEq] at h; subst h
    cases hv; cases hu
    cases isMax
    · refine ⟨.int k (if b < a then b else a), by simp [Builtin.min2], ?_⟩
      simp only [cond_ff, leI_iff]
      by_cases hab : a ≤ b
      · rw [if_neg (by omega)]; simp only [hab, decide_true, cond_tt]; exact .int _ _
      · rw [if_pos (by omega)]; simp only [hab, decide_false, cond_ff]; exact .int _ _
    · refine ⟨.int k (if b > a then b else a), by simp [Builtin.max2], ?_⟩
      rw [leI_iff]
      by_cases hab : b ≤ a
      · rw [if_neg (by omega)]; simp only [hab, decide_true, cond_tt]; exact .int _ _
      · rw [if_pos (by omega)]; simp only [hab, decide_false, cond_tt, cond_ff]; exact .int _ _
  · rename_i a b
    simp only [Option.some.injEq] at h; subst h
    cases hv with
    | @str _ s1 h1 => cases hu with
      | @str _ s2 h2 =>
        have e1 := eqL_bytes h1 h2
        have e2 : ltL a b = Op.bytesLess s1.toList s2.toList := by rw [← h1, ← h2, ByteArray.toList_eq, ByteArray.toList_eq]; exact ltL_bytes _ _
        cases isMax
        · refine ⟨.string (if (Op.bytesLess s1.toList s2.toList || (s1.toList == s2.toList)) = true then s1 else s2), by simp [Builtin.min2, Op.stringOp, asBool], ?_⟩
          rw [e1, e2]
          cases (Op.bytesLess s1.toList s2.toList || (s1.toList == s2.toList))
          · exact .str h2
          · exact .str h1
        · refine ⟨.string (if (!Op.bytesLess s1.toList s2.toList) = true then s1 else s2), by simp [Builtin.max2, Op.stringOp, asBool], ?_⟩
          rw [e2]
          cases (Op.bytesLess s1.toList s2.toList)
          · exact .str h1
          · exact .str h2
  · simp at h

theorem foldMin_run {P : Program} {σ : Sg} {w : World} (isMax : Bool) : ∀ (l : List AV) (x r : AV) (v : Value) (us : List Value), foldMin isMax x l = some r → V σ x v → VL σ l us →
    ∃ z, (us.foldlM (if isMax then Builtin.max2 else Builtin.min2) v).run P w = .ok z w ∧ V σ r z
  | [], x, r, v, us, h, hv, hu => by have := hu.inv_nil; subst this; simp [foldMin] at h; subst h; exact ⟨v, by simp, hv⟩
  | y :: l, x, r, v, us, h, hv, hu => by
    obtain ⟨u, us', rfl, h1, h2⟩ := hu.inv_cons
    simp only [foldMin] at h
    cases hm : minA isMax x y with
    | none => simp [hm] at h
    | some z =>
      simp only [hm, Option.bind_some] at h
      obtain ⟨zv, hz, hV⟩ := minA_run (P := P) (w := w) isMax hm hv h1
      obtain ⟨q, hq, hQ⟩ := foldMin_run isMax l z r zv us' h hV h2
      refine ⟨q, ?_, hQ⟩
      rw [List.foldlM_cons]
      have e : (if isMax = true then Builtin.max2 else Builtin.min2) v u = (if isMax = true then Builtin.max2 v u else Builtin.min2 v u) := by cases isMax <;> rfl
      simp only [Sem.run_bind, e, hz, Result.andThen_ok]
      exact hq

theorem copyA_run {P : Program} {σ : Sg} {h h' : H} {w : World} (hr : HR σ h w) {ats : Array TypeId} {T t : TypeId} {args : Array Value} {x y r : AV} {v u : Value} (hl : copyA P h t x y = some (r, h')) (h0 : ats[0]? = some t) (h1 : args[0]? = some v) (h2 : args[1]? = some u) (hv : V σ x v) (hu : V σ y u) :
    Yields P σ h h' w r (Builtin.copy_ ats T args) := by
  unfold copyA at hl
  split at hl
  · rename_i e o dl des dc o' sl ses sc hund
    cases hs : sizeA P e with
    | none => simp [hs] at hl
    | some s =>
      simp only [hs, Option.bind_some] at hl
      have hlen : (Builtin.lenOf u).run P w = .ok sl w := by cases hu with
        | sliceN h0 => subst h0; rfl
        | slice => rfl
      cases hn0 : Nat.beq (Nat.min sl dl) 0
      · rw [hn0, cond_ff] at hl
        have hn0 := beqN_ne hn0
        obtain ⟨hes, hl2⟩ := cond_some hl
        clear hl
        simp only [Bool.and_eq_true] at hes
        have e1 := beqN hes.1; have e2 := beqN hes.2
        subst e1; subst e2
        cases hsc : sliceCells h o' (Nat.min sl dl) ses with
        | none => simp [hsc] at hl2
        | some cs =>
          simp only [hsc, Option.bind_some] at hl2
          cases o with
          | none => simp at hl2
          | some q =>
            obtain ⟨id, off⟩ := q
            simp only at hl2
            cases hst : h.store id off cs with
            | none => simp [hst] at hl2
            | some h9 =>
              simp only [hst, Option.map_some, Option.some.injEq, Prod.mk.injEq] at hl2
              obtain ⟨rfl, rfl⟩ := hl2
              obtain ⟨vs, v1, v2, v3⟩ := sliceCells_run (P := P) hr hsc (.inl rfl) (Nat.min_le_left _ _) hu
              cases hv with
              | slice hp hl hroom hcap haddr =>
                have : Nat.min sl dl ≤ dl := Nat.min_le_right _ _
                have haddr := haddr.resolve_right (by omega)
                subst haddr
                obtain ⟨w', s1, s2, s3⟩ := hr.store_run (P := P) hst hp v1
                refine ⟨σ, goInt (Nat.min sl dl : Nat), w', ?_, .int _ _, s2, s3⟩
                simp only [Builtin.copy_, h0, h1, h2, Sem.run_bind, run_und hund, Result.andThen_ok, hlen, run_sizeOf' hs, v3 w rfl, s1, Sem.run_pure]
      · rw [hn0, cond_tt] at hl
        have hn0 := beqN hn0
        simp only [Option.some.injEq, Prod.mk.injEq] at hl
        obtain ⟨rfl, rfl⟩ := hl
        refine ⟨σ, goInt 0, w, ?_, .int _ _, hr, .refl _ _ _⟩
        have hfc : (Builtin.firstCells s 0 u).run P w = .ok #[] w := by
          cases hu with
          | sliceN => simp [Builtin.firstCells]
          | slice => simp [Builtin.firstCells, loadCells, loadCellsFrom]
        cases hv with
        | sliceN h00 =>
          subst h00
          simp only [Builtin.copy_, h0, h1, h2, Sem.run_bind, run_und hund, Result.andThen_ok, hlen, run_sizeOf' hs, hn0, hfc, Sem.run_pure]
          rfl
        | slice =>
          simp only [Builtin.copy_, h0, h1, h2, Sem.run_bind, run_und hund, Result.andThen_ok, hlen, run_sizeOf' hs, hn0, hfc, Sem.run_pure]
          simp [storeCells]
  · simp at hl

theorem EL.eraseIdx {σ : Sg} {es : List (AV × AV × Nat)} {l : List MapEntry} (h : EL σ es l) (i : Nat) : EL σ (es.eraseIdx i) (l.eraseIdx i) := by
  refine ⟨by rw [List.length_eraseIdx, List.length_eraseIdx, h.1], ?_⟩
  intro j e m he hm
  rw [List.getElem?_eraseIdx] at he hm
  split at he
  · rename_i hj; rw [if_pos hj] at hm; exact h.2 j e m he hm
  · rename_i hj; rw [if_neg hj] at hm; exact h.2 _ e m he hm

theorem setIfInBounds_self {w : World} {b : Nat} {o : Obj} (h : w.heap[b]? = some o) : ({ w with heap := w.heap.setIfInBounds b o } : World) = w := by
  have : w.heap.setIfInBounds b o = w.heap := by
    apply Array.ext_getElem?
    intro i
    rw [Array.getElem?_setIfInBounds]
    split
    · rename_i e; subst e
      rw [h, if_pos (lt_of_get (by rw [h]; simp))]
    · rfl
  rw [this]

theorem deleteA_run {P : Program} {σ : Sg} {h h' : H} {w : World} (hr : HR σ h w) {ats : Array TypeId} {T t : TypeId} {args : Array Value} {x k r : AV} {v u : Value} (hl : deleteA P h t x k = some (r, h')) (h0 : ats[0]? = some t) (h1 : args[0]? = some v) (h2 : args[1]? = some u) (hv : V σ x v) (hk : V σ k u) :
    Yields P σ h h' w r (Builtin.delete_ ats T args) := by
  unfold deleteA at hl
  cases hm : mapTypeA P t with
  | none => simp [hm] at hl
  | some q =>
    obtain ⟨kt, et⟩ := q
    simp only [hm, Option.bind_some] at hl
    obtain ⟨hka, hl9⟩ := cond_some hl
    clear hl
    have hu := mapTypeA_eq hm
    obtain ⟨kd, hkd⟩ := keyUnd hka
    split at hl9
    · cases hv
      simp only [Option.some.injEq, Prod.mk.injEq] at hl9
      obtain ⟨rfl, rfl⟩ := hl9
      refine ⟨σ, _, w, ?_, .mk_tup' (vs := #[]) .nil, hr, .refl _ _ _⟩
      simp only [Builtin.delete_, h0, h1, h2, Sem.run_bind, run_und hu, Result.andThen_ok, keyA_run hka hk, Sem.run_pure]
    · rename_i id
      cases hv with
      | @map _ p hp =>
        cases hmo : h.mapOf id with
        | none => simp [hmo] at hl9
        | some q =>
          obtain ⟨es, c⟩ := q
          simp only [hmo, Option.bind_some] at hl9
          obtain ⟨ho, es', g1, g2⟩ := hr.map hmo hp
          cases hf : findA P kt k es 0 with
          | none => simp [hf] at hl9
          | some r0 =>
            simp only [hf, Option.map_some, Option.some.injEq] at hl9
            have hfind := findKey_run (w := w) hkd hk hf g2
            cases r0 with
            | some i =>
              simp only [Prod.mk.injEq] at hl9
              obtain ⟨rfl, rfl⟩ := hl9
              have hi := findA_ge es 0 i hf
              obtain ⟨m, hm1, hm2, hfo⟩ := found_at g2 (e := es[i]'(by omega)) (List.getElem?_eq_getElem (by omega))
              have hel : EL σ (es.eraseIdx i) (es'.eraseIdxIfInBounds i).toList := by
                rw [Array.toList_eraseIdxIfInBounds]
                exact g2.eraseIdx i
              obtain ⟨k1, k2⟩ := hr.set_obj ho rfl rfl hp (OR_map (c := c) (p := p) hel)
              refine ⟨σ, _, _, ?_, .mk_tup' (vs := #[]) .nil, k1, k2⟩
              simp only [Builtin.delete_, h0, h1, h2, Sem.run_bind, run_und hu, Result.andThen_ok, run_getObj g1 (by simp), keyA_run hka hk, hfind, hfo, run_setObj g1 (by simp), Sem.run_pure]
            | none =>
              simp only [Prod.mk.injEq] at hl9
              obtain ⟨rfl, rfl⟩ := hl9
              refine ⟨σ, _, w, ?_, .mk_tup' (vs := #[]) .nil, hr, .refl _ _ _⟩
              simp only [Builtin.delete_, h0, h1, h2, Sem.run_bind, run_und hu, Result.andThen_ok, run_getObj g1 (by simp), keyA_run hka hk, hfind, found, run_setObj g1 (by simp), Sem.run_pure, setIfInBounds_self g1]
    · simp at hl9

theorem clearA_run {P : Program} {σ : Sg} {h h' : H} {w : World} (hr : HR σ h w) {ats : Array TypeId} {T t : TypeId} {args : Array Value} {x r : AV} {v : Value} (hl : clearA P h t x = some (r, h')) (h0 : ats[0]? = some t) (h1 : args[0]? = some v) (hv : V σ x v) :
    Yields P σ h h' w r (Builtin.clear_ ats T args) := by
  unfold clearA at hl
  split at hl
  · rename_i hu
    simp only [Option.some.injEq, Prod.mk.injEq] at hl
    obtain ⟨rfl, rfl⟩ := hl
    cases hv
    refine ⟨σ, _, w, ?_, .mk_tup' (vs := #[]) .nil, hr, .refl _ _ _⟩
    simp only [Builtin.clear_, h0, h1, Sem.run_bind, run_und hu, Result.andThen_ok, Sem.run_pure]
  · rename_i e id off n es cap hu
    cases hs : sizeA P e with
    | none => simp [hs] at hl
    | some s =>
      cases hz : zeroA P e with
      | none => simp [hs, hz] at hl
      | some z =>
        simp only [hs, hz, Option.bind_some] at hl
        cases hv with
        | @slice _ _ _ _ _ a p c hp hlen hroom hcap haddr =>
          cases hn0 : Nat.beq n 0
          · rw [hn0, cond_ff] at hl
            have hn0 := beqN_ne hn0
            obtain ⟨hc, hl2⟩ := cond_some hl
            clear hl
            simp only [Bool.and_eq_true] at hc
            have e1 := beqN hc.1; subst e1
            have e2 := beqN hc.2
            cases hst : h.store id off (rep z.cells n) with
            | none => simp [hst] at hl2
            | some h9 =>
              simp only [hst, Option.map_some, Option.some.injEq, Prod.mk.injEq] at hl2
              obtain ⟨rfl, rfl⟩ := hl2
              have haddr := haddr.resolve_right (by omega)
              subst haddr
              obtain ⟨zv, hzr, hzV, _⟩ := run_zero' (w := w) (σ := σ) hz
              have hzs : zv.cells.size = s := by have := hzV.cells.1; simp at this; omega
              have hv1 : VL σ (rep z.cells n) (Builtin.zeroCells zv.cells n).toList := by
                by_cases hs0 : s = 0
                · have hr0 : (rep z.cells n).length = 0 := by rw [rep_length, e2, hs0, Nat.mul_zero]
                  refine ⟨by simp [rep_length, Builtin.zeroCells, hzs, e2], ?_⟩
                  intro i a' v' ha'
                  rw [List.getElem?_eq_none (by omega)] at ha'; cases ha'
                · have := rep_VL hzV.cells (by omega) n
                  rw [e2] at this
                  simpa only [Builtin.zeroCells, hzs] using this
              obtain ⟨w', s1, s2, s3⟩ := hr.store_run (P := P) hst hp hv1
              refine ⟨σ, _, w', ?_, .mk_tup' (vs := #[]) .nil, s2, s3⟩
              cases n with
              | zero => exact absurd rfl hn0
              | succ n =>
                simp only [Builtin.clear_, h0, h1, Sem.run_bind, run_und hu, Result.andThen_ok, hzr, s1, Sem.run_pure]
          · rw [hn0, cond_tt] at hl
            have hn0 := beqN hn0; subst hn0
            simp only [Option.some.injEq, Prod.mk.injEq] at hl
            obtain ⟨rfl, rfl⟩ := hl
            refine ⟨σ, _, w, ?_, .mk_tup' (vs := #[]) .nil, hr, .refl _ _ _⟩
            simp only [Builtin.clear_, h0, h1, Sem.run_bind, run_und hu, Result.andThen_ok, Sem.run_pure]
  · simp at hl

/-! ### Iterators -/

theorem rangeA_run {P : Program} {σ : Sg} {h h' : H} {w : World} (hr : HR σ h w) {t : TypeId} {x r : AV} {v : Value} (hl : rangeA P h t x = some (r, h')) (hv : V σ x v) : Yields P σ h h' w r (Instr.range t v) := by
  have fin : ∀ (o : AO) (ob : Obj), (∀ cs f, o ≠ .cells cs f) → OR (up σ h.next ⟨w.heap.size, 0, 0⟩) o ⟨w.heap.size, 0, 0⟩ (some ob) → (Instr.range t v).run P w = .ok (.pointer (some ⟨w.heap.size, 0, none⟩)) { w with heap := w.heap.push ob } →
      (r, h') = (.ptr (some (h.next, 0)), { h with objs := h.objs.put h.next (some o), next := h.next + 1 }) → Yields P σ h h' w r (Instr.range t v) := by
    intro o ob hnc hor hrun he
    simp only [Prod.mk.injEq] at he
    obtain ⟨rfl, rfl⟩ := he
    obtain ⟨k1, k2⟩ := hr.new (r := 0) (o := o) (ob := ob) (w' := { w with heap := w.heap.push ob }) (fun cs f hf => absurd hf (hnc cs f)) hor rfl rfl rfl rfl
    have he : ({ h.lay h.next o with next := h.next + 1 } : H) = { h with objs := h.objs.put h.next (some o), next := h.next + 1 } := by
      unfold H.lay
      split
      · rename_i cs f; exact absurd rfl (hnc cs f)
      · rfl
    rw [he] at k1 k2
    exact ⟨_, _, _, hrun, .ptr (p := ⟨w.heap.size, 0, 0⟩) (up_same _ _ _), k1, k2⟩
  unfold rangeA at hl
  split at hl
  · rename_i s hu
    cases hv with
    | @str _ bs hs =>
      refine fin (.siter s 0) (.stringIter bs 0) (by simp) ⟨bs, rfl, hs, rfl⟩ ?_ (by simpa [H.newObj] using hl.symm)
      simp only [Instr.range, Sem.run_bind, run_und hu, Result.andThen_ok, Sem.run_pure, run_newObj]
  · rename_i hu
    cases hv
    refine fin (.miter none 0 [] 0) (.mapIter none 0 #[] 0) (by simp) ⟨none, rfl, rfl, rfl⟩ ?_ (by simpa [H.newObj] using hl.symm)
    simp only [Instr.range, Sem.run_bind, run_und hu, Result.andThen_ok, Sem.run_pure, run_newObj]
  · rename_i k e m hu
    cases hv with
    | @map _ p hp =>
      cases hm : h.mapOf m with
      | none => simp [hm] at hl
      | some q =>
        obtain ⟨es, c⟩ := q
        obtain ⟨_, es', g1, _⟩ := hr.map hm hp
        refine fin (.miter (some m) c [] c) (.mapIter (some p.b) c #[] c) (by simp) ⟨some p.b, rfl, rfl, p, up_le (hr.fresh _ (Nat.le_refl _)) _ _ hp, rfl⟩ ?_ (by simpa [H.newObj, hm] using hl.symm)
        simp only [Instr.range, Sem.run_bind, run_und hu, Result.andThen_ok, run_getObj g1 (by simp), Sem.run_pure, run_newObj]
  · simp at hl

end Go.Ev

/- The evaluator's steps over a map, checks, methods; every operation that calls nothing. No conditions beyond those that each theorem states. -/
namespace Go.Ev

theorem seenIn_iff (b : Nat) : ∀ l : List Nat, seenIn b l = l.contains b
  | [] => rfl
  | x :: l => by
    simp only [seenIn, List.contains_cons, seenIn_iff b l]
    congr 1
    cases h : Nat.beq x b
    · have := beqN_ne h; symm; simp; exact fun e => this e.symm
    · have := beqN h; subst this; simp

theorem EL.filter {σ : Sg} {f : AV × AV × Nat → Bool} {g : MapEntry → Bool} (hfg : ∀ e m, ER σ e m → f e = g m) : ∀ (es : List (AV × AV × Nat)) (l : List MapEntry), EL σ es l → EL σ (es.filter f) (l.filter g)
  | [], l, h => by have := h.nil; subst this; exact h
  | e :: es, l, h => by
    obtain ⟨m, l', rfl, he, hl⟩ := h.cons
    have ih := EL.filter hfg es l' hl
    simp only [List.filter_cons, hfg e m he]
    cases g m
    · exact ih
    · exact EL.append (EL.one he) ih

theorem EL.all {σ : Sg} {f : AV × AV × Nat → Bool} {g : MapEntry → Bool} (hfg : ∀ e m, ER σ e m → f e = g m) : ∀ (es : List (AV × AV × Nat)) (l : List MapEntry), EL σ es l → es.all f = l.all g
  | [], l, h => by have := h.nil; subst this; rfl
  | e :: es, l, h => by
    obtain ⟨m, l', rfl, he, hl⟩ := h.cons
    simp only [List.all_cons, hfg e m he, EL.all hfg es l' hl]

theorem EL.isEmpty {σ : Sg} {es : List (AV × AV × Nat)} {l : List MapEntry} (h : EL σ es l) : es.isEmpty = l.isEmpty := by
  have := h.1
  cases es <;> cases l <;> simp_all

theorem pick_k {P : Program} {w : World} {n : Nat} (hn : 0 < n) : ∃ k w', (choose (.mapNext n)).run P w = .ok k w' ∧ k < n ∧ w'.heap = w.heap ∧ w'.os = w.os ∧ w'.tape = w.tape ∧ w'.output = w.output := by
  rw [run_choose]
  by_cases h : n ≤ 1
  · have : (Question.mapNext n).forced = true := by simp [Question.forced, h]
    rw [if_pos this]
    exact ⟨0, w, rfl, hn, rfl, rfl, rfl, rfl⟩
  · have : ¬ (Question.mapNext n).forced = true := by simp [Question.forced]; omega
    rw [if_neg this]
    exact ⟨_, _, rfl, Nat.mod_lt _ hn, rfl, rfl, rfl, rfl⟩

theorem nextA_run {P : Program} {σ : Sg} {h : H} {w : World} (hr : HR σ h w) {x : AV} {v : Value} {isS : Bool} {T : TypeId} {outs : List (AV × H)} (hl : nextA h x isS = some outs) (hv : V σ x v) :
    ∃ r h', (r, h') ∈ outs ∧ Yields P σ h h' w r (Instr.next v isS T) := by
  unfold nextA at hl
  split at hl
  · rename_i id
    cases hv with
    | @ptr _ _ p hp =>
      split at hl
      · rename_i since seen st ho
        obtain ⟨q, hq, m', g1, g0, g2⟩ := hr.obj id _ ho
        rw [hp] at hq; cases hq
        simp only at g2
        subst g2
        simp only [one, Option.some.injEq] at hl
        subst hl
        refine ⟨_, _, List.mem_singleton.2 rfl, σ, .tuple #[.bool false], w, ?_, .mk_tup' (.cons (.bool _) .nil), hr, .refl _ _ _⟩
        rw [g0]
        simp only [Instr.next, Nat.zero_add, Sem.run_bind, run_getObj g1 (by simp), Result.andThen_ok, Sem.run_pure]
      · rename_i m since seen last ho
        obtain ⟨q, hq, m', g1, g0, g2⟩ := hr.obj id _ ho
        rw [hp] at hq; cases hq
        simp only at g2
        obtain ⟨pm, hpm, rfl⟩ := g2
        cases hm : h.mapOf m with
        | none => simp [hm] at hl
        | some q =>
          obtain ⟨es, clock⟩ := q
          simp only [hm, Option.bind_some] at hl
          obtain ⟨hom, es', k1, k2⟩ := hr.map hm hpm
          cases hgone : (!seen.isEmpty && (!es.isEmpty && es.all (fun e => Nat.ble last e.2.2)))
          · rw [hgone, cond_ff] at hl
            simp only [Option.some.injEq] at hl
            subst hl
            have hgone' : (!seen.toArray.isEmpty && !es'.isEmpty && es'.all (fun e => decide (e.born ≥ last))) = false := by
              have e1 : seen.toArray.isEmpty = seen.isEmpty := by simp
              have e2 : es'.isEmpty = es.isEmpty := by rw [k2.isEmpty]; simp
              have e3 : es'.all (fun e => decide (e.born ≥ last)) = es.all (fun e => Nat.ble last e.2.2) := by
                rw [← Array.all_toList, k2.all (g := fun e => decide (e.born ≥ last))]
                intro e mm he
                rw [he.2.2]
                cases hb : Nat.ble last mm.born
                · have := bleN_ne hb; symm; simp; omega
                · have := bleN hb; symm; simp; omega
              rw [e1, e2, e3, Bool.and_assoc]; exact hgone
            have hleft : EL σ (es.filter fun e => !(seenIn e.2.2 seen)) (es'.toList.filter fun e => !(seen.toArray.contains e.born)) :=
              EL.filter (fun e mm he => by rw [seenIn_iff, he.2.2]; simp) _ _ k2
            have hlt : ∀ (e : AV × AV × Nat) (mm : MapEntry), ER σ e mm → Nat.blt e.2.2 since = decide (mm.born < since) := by
              intro e mm he
              rw [he.2.2]
              cases hb : Nat.blt mm.born since
              · have := bltN_ne hb; symm; simp; omega
              · have := bltN hb; symm; simp; omega
            have hold : EL σ ((es.filter fun e => !(seenIn e.2.2 seen)).filter fun e => Nat.blt e.2.2 since) ((es'.toList.filter fun e => !(seen.toArray.contains e.born)).filter fun e => decide (e.born < since)) :=
              EL.filter hlt _ _ hleft
            have hnew : EL σ ((es.filter fun e => !(seenIn e.2.2 seen)).filter fun e => !(Nat.blt e.2.2 since)) ((es'.toList.filter fun e => !(seen.toArray.contains e.born)).filter fun e => decide (e.born ≥ since)) :=
              EL.filter (fun e mm he => by rw [hlt e mm he]; by_cases hx : mm.born < since <;> simp [hx] <;> omega) _ _ hleft
            generalize ((es.filter fun e => !(seenIn e.2.2 seen)).filter fun e => Nat.blt e.2.2 since) = Oa at hold ⊢
            generalize ((es.filter fun e => !(seenIn e.2.2 seen)).filter fun e => !(Nat.blt e.2.2 since)) = Na at hnew ⊢
            have hcand : ((if ((es'.filter fun e => !(seen.toArray.contains e.born)).filter fun e => decide (e.born < since)).isEmpty then #[none] else #[]) ++
                (((es'.filter fun e => !(seen.toArray.contains e.born)).filter fun e => decide (e.born < since)) ++ ((es'.filter fun e => !(seen.toArray.contains e.born)).filter fun e => decide (e.born ≥ since))).map some : Array (Option MapEntry)).toList =
                (if ((es'.toList.filter fun e => !(seen.toArray.contains e.born)).filter fun e => decide (e.born < since)).isEmpty then [none] else []) ++
                (((es'.toList.filter fun e => !(seen.toArray.contains e.born)).filter fun e => decide (e.born < since)) ++ ((es'.toList.filter fun e => !(seen.toArray.contains e.born)).filter fun e => decide (e.born ≥ since))).map some := by
              have e1 : ((es'.filter fun e => !(seen.toArray.contains e.born)).filter fun e => decide (e.born < since)).toList = (es'.toList.filter fun e => !(seen.toArray.contains e.born)).filter fun e => decide (e.born < since) := by
                simp only [Array.toList_filter]
              have e2 : ((es'.filter fun e => !(seen.toArray.contains e.born)).filter fun e => decide (e.born ≥ since)).toList = (es'.toList.filter fun e => !(seen.toArray.contains e.born)).filter fun e => decide (e.born ≥ since) := by
                simp only [Array.toList_filter]
              have e3 : ((es'.filter fun e => !(seen.toArray.contains e.born)).filter fun e => decide (e.born < since)).isEmpty = ((es'.toList.filter fun e => !(seen.toArray.contains e.born)).filter fun e => decide (e.born < since)).isEmpty := by
                rw [← e1, Array.isEmpty_toList]
              rw [Array.toList_append, Array.toList_map, Array.toList_append, e1, e2, e3]
              split <;> rfl
            revert hcand
            generalize hC : ((if ((es'.filter fun e => !(seen.toArray.contains e.born)).filter fun e => decide (e.born < since)).isEmpty then #[none] else #[]) ++
                (((es'.filter fun e => !(seen.toArray.contains e.born)).filter fun e => decide (e.born < since)) ++ ((es'.filter fun e => !(seen.toArray.contains e.born)).filter fun e => decide (e.born ≥ since))).map some : Array (Option MapEntry)) = C
            intro hcand
            generalize ((es'.toList.filter fun e => !(seen.toArray.contains e.born)).filter fun e => decide (e.born < since)) = O' at hold hcand
            generalize ((es'.toList.filter fun e => !(seen.toArray.contains e.born)).filter fun e => decide (e.born ≥ since)) = N' at hnew hcand
            have hON := hold.append hnew
            have hpos : 0 < C.size := by
              rw [← Array.length_toList, hcand]
              cases O' <;> simp
            obtain ⟨k, w1, hk, hkn, hw1, e1, e2, e3⟩ := pick_k (P := P) (w := w) hpos
            have hrun : ∀ c, C[k]? = some c → (Instr.next (.pointer (some ⟨p.b, p.d + 0, none⟩)) false T).run P w = (match c with
                | some e => ((setObj p.b (.mapIter (some pm.b) since (seen.toArray.push e.born) clock)).run P w1).andThen fun _ w2 => .ok (.tuple #[.bool true, e.key, e.val]) w2
                | none => .ok (.tuple #[.bool false]) w1) := by
              intro c hc
              rw [g0]
              simp only [Instr.next, Nat.zero_add, Sem.run_bind, run_getObj g1 (by simp), Result.andThen_ok, run_getObj k1 (by simp), hgone', Bool.false_eq_true, if_false]
              simp only [hC, hk, Result.andThen_ok, hc]
              cases c with
              | none => rfl
              | some e => simp only [Sem.run_bind, Sem.run_pure]
            have hCk : C[k]? = C.toList[k]? := by simp
            rw [hcand] at hCk
            have hgo : ∀ (j : Nat), (∀ mm, (O' ++ N')[j]? = some mm → C[k]? = some (some mm)) → j < (O' ++ N').length →
                (∀ e, (Oa ++ Na)[j]? = some e → ((.tup [.bool true, e.1, e.2.1], h.set id (.miter (some m) since (seen ++ [e.2.2]) clock)) : AV × H) ∈ candsA h id m since seen clock Oa Na) →
                ∃ r h', (r, h') ∈ candsA h id m since seen clock Oa Na ∧ Yields P σ h h' w r (Instr.next (.pointer (some ⟨p.b, p.d + 0, none⟩)) false T) := by
              intro j h1 hj h2
              have hja : j < (Oa ++ Na).length := by have := hON.1; omega
              have he := List.getElem?_eq_getElem hja
              obtain ⟨mm, hm1, hm2⟩ := hON.get he
              have hr1 := hr.congr hw1
              have ho1 : w1.heap[p.b]? = some (.mapIter (some pm.b) since seen.toArray last) := by rw [hw1]; exact g1
              obtain ⟨s1, s2⟩ := hr1.set_obj (o' := .miter (some m) since (seen ++ [(Oa ++ Na)[j].2.2]) clock) (ob := .mapIter (some pm.b) since (seen.toArray.push mm.born) clock) ho rfl rfl hp
                ⟨some pm.b, by rw [hm2.2.2]; simp, g0, pm, hpm, rfl⟩
              refine ⟨_, _, h2 _ he, σ, .tuple #[.bool true, mm.key, mm.val], _, ?_, .mk_tup' (.cons (.bool _) (.cons hm2.1 (.cons hm2.2.1 .nil))), s1, (Ext.of_eq hw1 e1 e2 e3).trans s2⟩
              rw [hrun _ (h1 mm hm1)]
              simp only [run_setObj ho1 (by simp), Result.andThen_ok]
            cases hO : O'.isEmpty
            · have hOa : Oa.isEmpty = false := by rw [hold.isEmpty]; exact hO
              rw [hO] at hCk
              simp only [Bool.false_eq_true, if_false, List.nil_append, List.getElem?_map] at hCk
              have hkl : k < (O' ++ N').length := by
                have := hkn; rw [← Array.length_toList, hcand, hO] at this; simpa using this
              refine hgo k (fun mm hmm => by rw [hCk, hmm]; rfl) hkl ?_
              intro e he
              simp only [candsA, hOa, cond_ff, List.nil_append]
              exact List.mem_map.2 ⟨e, List.mem_of_getElem? he, rfl⟩
            · have hOa : Oa.isEmpty = true := by rw [hold.isEmpty]; exact hO
              rw [hO] at hCk
              simp only [if_true] at hCk
              cases k with
              | zero =>
                simp only [List.singleton_append, List.getElem?_cons_zero] at hCk
                refine ⟨.tup [.bool false], h, ?_, σ, .tuple #[.bool false], w1, ?_, .mk_tup' (.cons (.bool _) .nil), hr.congr hw1, .of_eq hw1 e1 e2 e3⟩
                · simp [candsA, hOa]
                · rw [hrun _ hCk]
              | succ k =>
                simp only [List.singleton_append, List.getElem?_cons_succ, List.getElem?_map] at hCk
                have hkl : k < (O' ++ N').length := by
                  have := hkn; rw [← Array.length_toList, hcand, hO] at this; simp at this; simp; omega
                refine hgo k (fun mm hmm => by rw [hCk, hmm]; rfl) hkl ?_
                intro e he
                simp only [candsA]
                exact List.mem_append_right _ (List.mem_map.2 ⟨e, List.mem_of_getElem? he, rfl⟩)
          · simp [hgone] at hl
      · simp at hl
  · simp at hl

theorem find_of {b i : Nat} {σ : Sg} {es : List (AV × AV × Nat)} {l : Array MapEntry} (h : EL σ es l.toList) (hb : bornAt b es 0 = some i) : ∃ e m, es[i]? = some e ∧ l.find? (fun e => e.born == b) = some m ∧ ER σ e m := by
  obtain ⟨h1, h2, ⟨x, h3, h4⟩, h5⟩ := bornAt_get es 0 i hb
  obtain ⟨m, hm1, hm2⟩ := h.get (i := i) (by simpa using h3)
  refine ⟨x, m, by simpa using h3, ?_, hm2⟩
  have hi : i < l.size := by have := lt_of_some hm1; simpa using this
  have hm1' : l[i] = m := by
    have : l[i]? = some m := by simpa using hm1
    rw [Array.getElem?_eq_getElem hi] at this
    simpa using this
  rw [Array.find?_eq_some_iff_getElem]
  refine ⟨by have := hm2.2.2; simp; omega, i, hi, hm1', ?_⟩
  intro j hj
  have hjl : j < es.length := by have := h.1; simp at this; omega
  have := h5 j (by omega) _ (List.getElem?_eq_getElem hjl)
  have hr := (h.2 j _ (l[j]'(by omega)) (List.getElem?_eq_getElem hjl) (by simp)).2.2
  simp; omega

theorem entryA_run {P : Program} {σ : Sg} {h : H} {w : World} (hr : HR σ h w) {x r : AV} {v : Value} (hl : entryA h x = some r) (hv : V σ x v) : ∃ z, (Instr.entry v).run P w = .ok z w ∧ V σ r z := by
  unfold entryA at hl
  split at hl
  · rename_i id
    cases hv with
    | @ptr _ _ p hp =>
      split at hl
      · rename_i m since seen st ho
        obtain ⟨q, hq, m', g1, g0, g2⟩ := hr.obj id _ ho
        rw [hp] at hq; cases hq
        simp only at g2
        obtain ⟨pm, hpm, rfl⟩ := g2
        split at hl
        · rename_i stamp hst
          cases hm : h.mapOf m with
          | none => simp [hm] at hl
          | some q =>
            obtain ⟨es, c⟩ := q
            simp only [hm, Option.bind_some] at hl
            obtain ⟨_, es', k1, k2⟩ := hr.map hm hpm
            obtain ⟨hc, hl2⟩ := cond_some hl
            have hc := beqN hc
            subst hc
            cases hb : bornAt stamp es 0 with
            | none => simp [hb] at hl2
            | some i =>
              simp only [hb, Option.bind_some] at hl2
              obtain ⟨e, mm, f1, f2, f3⟩ := find_of k2 hb
              simp only [f1, Option.map_some, Option.some.injEq] at hl2
              subst hl2
              refine ⟨.tuple #[mm.key, mm.val], ?_, .mk_tup' (.cons f3.1 (.cons f3.2.1 .nil))⟩
              have hback : seen.toArray.back? = some stamp := by simpa using hst
              rw [g0]
              simp only [Instr.entry, Nat.zero_add, Sem.run_bind, run_getObj g1 (by simp), Result.andThen_ok, hback, run_getObj k1 (by simp), bne_self_eq_false, Bool.false_eq_true, if_false, f2, Sem.run_pure]
        · simp at hl
      · simp at hl
  · simp at hl

theorem methodA_run {P : Program} {t : TypeId} {name : String} {f : FuncId} (h : methodA P t name = some f) : ∃ (i : TypeInfo) (m : Method) (d : TypeDesc), P.info? t = some i ∧ i.methods.find? (·.name == name) = some m ∧ m.path.isEmpty = true ∧ m.func = some (f, false) ∧ P.underlying t = some d ∧ (∀ e, d ≠ .pointer e) := by
  unfold methodA at h
  cases hi : P.info? t with
  | none => simp [hi] at h
  | some i =>
    simp only [hi, Option.bind_some] at h
    cases hm : i.methods.find? (·.name == name) with
    | none => simp [hm] at h
    | some m =>
      simp only [hm, Option.bind_some] at h
      split at h
      · rename_i g hp hf
        split at h
        all_goals first
          | (rename_i hu; simp only [Option.some.injEq] at h; subst h; exact ⟨i, m, _, rfl, hm, hp, hf, hu, by simp⟩)
          | simp at h
      · simp at h

theorem nilCheckA_run {P : Program} {σ : Sg} {w : World} {ρ : Operand → Value} {X : Operand} {x r : AV} {o : Oper} (h : nilCheckA P x = some r) (hv : V σ x (ρ X)) (ho : o.op = .nilCheck X) :
    ∃ z, (execOp ρ o).run P w = .ok (.value z) w ∧ V σ r z := by
  unfold nilCheckA at h
  split at h
  · simp only [Option.some.injEq] at h; subst h
    generalize hg : ρ X = v at hv
    cases hv with
    | ptr hp => exact ⟨_, by simp only [execOp, ho, hg, Sem.run_pure], .ptr hp⟩
  · simp only [Option.some.injEq] at h; subst h
    generalize hg : ρ X = v at hv
    have hv' := hv
    cases hv with
    | fn hf h1 h2 h3 h4 => exact ⟨_, by simp only [execOp, ho, hg, Sem.run_pure], hv'⟩
  · rename_i name t a cap
    cases hm : methodA P t name with
    | none => simp [hm] at h
    | some f =>
      simp only [hm, Option.map_some, Option.some.injEq] at h; subst h
      obtain ⟨i, m, d, hi, hf, hp, hfu, hu, hd⟩ := methodA_run hm
      generalize hg : ρ X = v at hv
      have hv' := hv
      cases hv with
      | @fn _ _ _ fs' cs' hfy h1 h2 h3 h4 =>
        have hsz : fs'.size = 1 := by simpa using h1.symm
        have h00 : fs'[0]? = some (fs'[0]'(by omega)) := Array.getElem?_eq_getElem _
        have hV0 := h2 0 _ _ rfl h00
        generalize fs'[0]'(by omega) = v0 at hV0 h00
        cases hV0 with
        | @iface _ _ vv hva =>
          refine ⟨_, ?_, hv'⟩
          simp only [execOp, ho, hg, h00, Sem.run_bind, run_program, Result.andThen_ok]
          have hna : (nilAhead (P.types.size + Made.depth) t vv name).run P w = .ok (some false) w := by
            rw [show P.types.size + Made.depth = (P.types.size + 99) + 1 from rfl]
            generalize P.types.size + 99 = kk
            have hpath : m.path.toList = [] := by
              have := hp; simpa using this
            simp only [nilAhead, Sem.run_bind, run_typeInfo' hi, Result.andThen_ok, hf, hpath, followBlind, Sem.run_pure, hfu, run_und hu]
            cases d <;> first
              | rfl
              | exact absurd rfl (hd _)
          simp only [hna, Result.andThen_ok]
          rfl
  · simp only [Option.some.injEq] at h; subst h
    generalize hg : ρ X = v at hv
    have hv' := hv
    cases hv with
    | sliceN hl => exact ⟨_, by simp only [execOp, ho, hg, Sem.run_pure], hv'⟩
    | slice => exact ⟨_, by simp only [execOp, ho, hg, Sem.run_pure], hv'⟩
  · simp at h

end Go.Ev

/- Every operation of the evaluator that calls nothing, and the model's. No conditions beyond those that each theorem states. -/
namespace Go.Ev

/-- The result of an operation. -/
def Res (σ : Sg) (r : Option AV) (x : Next) : Prop := match r with
  | some a => ∃ v, x = .value v ∧ V σ a v
  | none => x = .skip

/-- An operation, run. -/
def Does (P : Program) (σ : Sg) (h h' : H) (w : World) (r : Option AV) (s : Sem Next) : Prop :=
  ∃ σ' x w', s.run P w = .ok x w' ∧ Res σ' r x ∧ HR σ' h' w' ∧ Ext σ σ' h h' w w'

theorem Does.pure {P : Program} {σ : Sg} {h : H} {w : World} (hr : HR σ h w) {a : AV} {s : Sem Value} (hs : ∃ z, s.run P w = .ok z w ∧ V σ a z) : Does P σ h h w (some a) (do Pure.pure (Next.value (← s))) := by
  obtain ⟨z, h1, h2⟩ := hs
  exact ⟨σ, .value z, w, by simp only [Sem.run_bind, h1, Result.andThen_ok, Sem.run_pure], ⟨z, rfl, h2⟩, hr, .refl _ _ _⟩

theorem Does.yield {P : Program} {σ : Sg} {h h' : H} {w : World} {a : AV} {s : Sem Value} (hs : Yields P σ h h' w a s) : Does P σ h h' w (some a) (do Pure.pure (Next.value (← s))) := by
  obtain ⟨σ', z, w', h1, h2, h3, h4⟩ := hs
  exact ⟨σ', .value z, w', by simp only [Sem.run_bind, h1, Result.andThen_ok, Sem.run_pure], ⟨z, rfl, h2⟩, h3, h4⟩

theorem Does.unit {P : Program} {σ : Sg} {h h' : H} {w : World} {s : Sem Unit} (hs : ∃ w', s.run P w = .ok () w' ∧ HR σ h' w' ∧ Ext σ σ h h' w w') : Does P σ h h' w none (do s; Pure.pure Next.skip) := by
  obtain ⟨w', h1, h2, h3⟩ := hs
  exact ⟨σ, .skip, w', by simp only [Sem.run_bind, h1, Result.andThen_ok, Sem.run_pure], rfl, h2, h3⟩

theorem map1 {α β : Type} {r : Option α} {f : α → β} {outs : List β} (h : r.map (fun x => [f x]) = some outs) : ∃ a, r = some a ∧ outs = [f a] := by
  cases r with
  | none => simp at h
  | some a => simp at h; exact ⟨a, rfl, h.symm⟩

theorem bind_some' {α β : Type} {r : Option α} {f : α → Option β} {y : β} (h : r.bind f = some y) : ∃ a, r = some a ∧ f a = some y := by
  cases r with
  | none => simp at h
  | some a => exact ⟨a, rfl, h⟩

theorem map_some' {α β : Type} {r : Option α} {f : α → β} {y : β} (h : r.map f = some y) : ∃ a, r = some a ∧ f a = y := by
  cases r with
  | none => simp at h
  | some a => simp at h; exact ⟨a, rfl, h⟩

/-- A new object, as an operation lays it: at whatever number, if it is free. -/
theorem allocA_run {P : Program} {σ : Sg} {h : H} {w : World} {t : Tr AV} {ρ : Operand → Value} (hρ : ∀ x a, ev t x = some a → V σ a (ρ x)) (hr : HR σ h w) {o : Oper} {id : Nat} {a : AV} {ob : AO} (hl : allocA P t o.op id = some (a, ob))
    (hid : σ id = none) (hlt : id < h.next) (hlow : h.low ≤ id) (hf : ∀ j cs, h.objs.get j ≠ some (.cells cs id)) :
    ∃ σ' v w', (execOp ρ o).run P w = .ok (.value v) w' ∧ V σ' a v ∧ HR σ' (h.lay id ob) w' ∧ Ext σ σ' { h with next := id } (h.lay id ob) w w' ∧ (∃ q, w.heap.size ≤ q.b ∧ σ' = up σ id q) := by
  have row : ∀ (as : List AV) (c : Array Value) (e : TypeId) (v : Value), ob = .cells as id → VL σ as c.toList → (execOp ρ o).run P w = .ok (.value v) { w with heap := w.heap.push (.cells c e (0, 0)) } →
      (∀ σ' : Sg, σ' id = some ⟨w.heap.size, 0, c.size⟩ → V σ' a v) → ∃ σ' v w', (execOp ρ o).run P w = .ok (.value v) w' ∧ V σ' a v ∧ HR σ' (h.lay id ob) w' ∧ Ext σ σ' { h with next := id } (h.lay id ob) w w' ∧ (∃ q, w.heap.size ≤ q.b ∧ σ' = up σ id q) := by
    intro as c e v e1 hvl hrun hV
    subst e1
    obtain ⟨k1, k2⟩ := hr.lay (r := c.size) (o := .cells as id) (ob := .cells c e (0, 0)) (w' := { w with heap := w.heap.push (.cells c e (0, 0)) }) hid hlt hlow hf (fun cs f hh => by cases hh; rfl)
      (OR_row (hvl.mono (up_le hid)) (List.take_of_length_le (Nat.le_refl _))) rfl rfl rfl rfl
    exact ⟨_, v, _, hrun, hV _ (up_same _ _ _), k1, k2, _, Nat.le_refl _, rfl⟩
  have mp : ob = .map [] 0 → a = .map (some id) → (execOp ρ o).run P w = .ok (.value (.map (some w.heap.size))) { w with heap := w.heap.push (.map #[] 0) } →
      ∃ σ' v w', (execOp ρ o).run P w = .ok (.value v) w' ∧ V σ' a v ∧ HR σ' (h.lay id ob) w' ∧ Ext σ σ' { h with next := id } (h.lay id ob) w w' ∧ (∃ q, w.heap.size ≤ q.b ∧ σ' = up σ id q) := by
    intro e1 e2 hrun
    subst e1; subst e2
    obtain ⟨k1, k2⟩ := hr.lay (r := 0) (o := .map [] 0) (ob := .map #[] 0) (w' := { w with heap := w.heap.push (.map #[] 0) }) hid hlt hlow hf (fun cs f hh => by cases hh)
      ⟨#[], rfl, rfl, fun i e m he _ => by simp at he⟩ rfl rfl rfl rfl
    exact ⟨_, _, _, hrun, .map (p := ⟨w.heap.size, 0, 0⟩) (up_same _ _ _), k1, k2, _, Nat.le_refl _, rfl⟩
  unfold allocA at hl
  split at hl
  · rename_i e ho
    obtain ⟨z, hz, he⟩ := map_some' hl
    simp only [Prod.mk.injEq] at he
    obtain ⟨rfl, rfl⟩ := he
    obtain ⟨zv, hzr, hzV, _⟩ := run_zero' (w := w) (σ := σ) hz
    refine row _ zv.cells e _ rfl hzV.cells ?_ (fun σ' hs => .ptr (p := ⟨w.heap.size, 0, zv.cells.size⟩) hs)
    simp only [execOp, ho, Instr.alloc, Sem.run_bind, hzr, Result.andThen_ok, newVar, newRow, run_newObj, Sem.run_pure]
  · rename_i e x ho
    obtain ⟨y, hy, he⟩ := map_some' hl
    simp only [Prod.mk.injEq] at he
    obtain ⟨rfl, rfl⟩ := he
    have hV := hρ _ _ hy
    refine row _ (ρ x).cells e _ rfl hV.cells ?_ (fun σ' hs => .ptr (p := ⟨w.heap.size, 0, (ρ x).cells.size⟩) hs)
    simp only [execOp, ho, Instr.box, Sem.run_bind, Result.andThen_ok, newVar, newRow, run_newObj, Sem.run_pure]
  · rename_i tt n ps ho
    obtain ⟨qs, hq, hl⟩ := bind_some' hl
    obtain ⟨⟨s, cs⟩, hb, he⟩ := map_some' hl
    simp only [Prod.mk.injEq] at he
    obtain ⟨rfl, rfl⟩ := he
    have hpr := parts_rel hρ ps.toList qs hq
    have hpr' : PL σ qs (ps.map fun (i, x) => (i, ρ x)).toList := by simpa using hpr
    obtain ⟨c, e, g1, g2, g3⟩ := buildSliceA_run (w := w) hb hpr'
    refine row _ c e _ rfl g2 ?_ (fun σ' hs => .slice (p := ⟨w.heap.size, 0, c.size⟩) hs (Nat.le_refl _) (by have := g2.1; simp at this; simp only; omega) (fun x hx => by simpa using hx.symm) (.inl rfl))
    simp only [execOp, ho, Sem.run_bind, g1, Result.andThen_ok, Sem.run_pure]
  · rename_i tt r ho
    split at hl
    · simp only [Option.some.injEq, Prod.mk.injEq] at hl
      obtain ⟨rfl, rfl⟩ := hl
      refine mp rfl rfl ?_
      simp only [execOp, ho, Option.map_none, Instr.makeMap, Sem.run_bind, Sem.run_pure, Result.andThen_ok, run_newObj]
    · rename_i x
      split at hl
      · rename_i k n q hx hm
        simp only [Option.some.injEq, Prod.mk.injEq] at hl
        obtain ⟨rfl, rfl⟩ := hl
        obtain ⟨kt, et⟩ := q
        refine mp rfl rfl ?_
        have hV := hρ _ _ hx
        generalize hg : ρ x = v at hV
        cases hV
        simp only [execOp, ho, Option.map_some, hg, Instr.makeMap, Sem.run_bind, run_und (mapTypeA_eq hm), asInt, asIntOf, Sem.run_pure, Result.andThen_ok, run_newObj]
      · simp at hl
  · rename_i tt l c ho
    obtain ⟨l', hl', hl⟩ := bind_some' hl
    obtain ⟨c', hc', hl⟩ := bind_some' hl
    obtain ⟨⟨n, s, m, cs⟩, hb, he⟩ := map_some' hl
    simp only [Prod.mk.injEq] at he
    obtain ⟨rfl, rfl⟩ := he
    obtain ⟨arr, e, g1, g2, g3, g4⟩ := makeSliceA_run (w := w) hb (hρ _ _ hl') (hρ _ _ hc')
    refine row _ arr e _ rfl g2 ?_ (fun σ' hs => .slice (p := ⟨w.heap.size, 0, arr.size⟩) hs g3 (by have := g2.1; simp at this; simp only; omega) (fun x hx => by simpa using hx.symm) (.inl rfl))
    simp only [execOp, ho, Sem.run_bind, g1, Result.andThen_ok, Sem.run_pure]
  · simp at hl

theorem builtinA_run {P : Program} {σ : Sg} {h h' : H} {w : World} (hr : HR σ h w) {b : Builtin} {ats : Array TypeId} {T : TypeId} {cn : Array Bool} {as : List AV} {args : Array Value} {r : AV} (hl : builtinA P h b ats.toList as = some (r, h'))
    (hv : VL σ as args.toList) : Does P σ h h' w (some r) (builtin b ats T cn args) := by
  have at0 : ∀ {t : TypeId} {l : List TypeId}, ats.toList = t :: l → ats[0]? = some t := fun e => by rw [← Array.getElem?_toList, e]; rfl
  have at1 : ∀ {t s : TypeId} {l : List TypeId}, ats.toList = t :: s :: l → ats[1]? = some s := fun e => by rw [← Array.getElem?_toList, e]; rfl
  have ar0 : ∀ {v : Value} {l : List Value}, args.toList = v :: l → args[0]? = some v := fun e => by rw [← Array.getElem?_toList, e]; rfl
  have ar1 : ∀ {v u : Value} {l : List Value}, args.toList = v :: u :: l → args[1]? = some u := fun e => by rw [← Array.getElem?_toList, e]; rfl
  unfold builtinA at hl
  split at hl
  · rename_i st xt _ x y hats
    obtain ⟨v, l, e1, hV, hl1⟩ := hv.inv_cons
    obtain ⟨u, l2, e2, hU, _⟩ := hl1.inv_cons
    subst e2
    exact .yield (appendA_run hr hl (at0 hats) (at1 hats) (ar0 e1) (ar1 e1) hV hU)
  · rename_i t _ x _ hats
    obtain ⟨v, l, e1, hV, _⟩ := hv.inv_cons
    obtain ⟨q, hq, he⟩ := map_some' hl
    simp only [Prod.mk.injEq] at he; obtain ⟨rfl, rfl⟩ := he
    exact .pure hr (lenA_run hr hq (at0 hats) (ar0 e1) hV)
  · rename_i t _ o n es c hats
    obtain ⟨v, l, e1, hV, _⟩ := hv.inv_cons
    split at hl
    · rename_i e hu
      simp only [Option.some.injEq, Prod.mk.injEq] at hl
      obtain ⟨rfl, rfl⟩ := hl
      have a0 := ar0 e1
      refine .pure hr ⟨goInt c, ?_, .int _ _⟩
      cases hV with
      | sliceN h0 => simp only [Builtin.cap_, at0 hats, a0, Sem.run_bind, run_und hu, Result.andThen_ok, Sem.run_pure]
      | slice hp hl hroom hcap haddr =>
        have := hcap c rfl; subst this
        simp only [Builtin.cap_, at0 hats, a0, Sem.run_bind, run_und hu, Result.andThen_ok, Sem.run_pure]
    · simp at hl
  · rename_i dt _ x y _ hats
    obtain ⟨v, l, e1, hV, hl1⟩ := hv.inv_cons
    obtain ⟨u, l2, e2, hU, _⟩ := hl1.inv_cons
    subst e2
    exact .yield (copyA_run hr hl (at0 hats) (ar0 e1) (ar1 e1) hV hU)
  · rename_i x l
    obtain ⟨v, us, e1, hV, hus⟩ := hv.inv_cons
    obtain ⟨q, hq, he⟩ := map_some' hl
    simp only [Prod.mk.injEq] at he; obtain ⟨rfl, rfl⟩ := he
    obtain ⟨z, hz, hZ⟩ := foldMin_run (P := P) (w := w) false l x q v us hq hV hus
    exact .pure hr ⟨z, by simp only [Builtin.min_, e1]; exact hz, hZ⟩
  · rename_i x l
    obtain ⟨v, us, e1, hV, hus⟩ := hv.inv_cons
    obtain ⟨q, hq, he⟩ := map_some' hl
    simp only [Prod.mk.injEq] at he; obtain ⟨rfl, rfl⟩ := he
    obtain ⟨z, hz, hZ⟩ := foldMin_run (P := P) (w := w) true l x q v us hq hV hus
    exact .pure hr ⟨z, by simp only [Builtin.max_, e1]; exact hz, hZ⟩
  · rename_i t _ x k _ hats
    obtain ⟨v, l, e1, hV, hl1⟩ := hv.inv_cons
    obtain ⟨u, l2, e2, hU, _⟩ := hl1.inv_cons
    subst e2
    exact .yield (deleteA_run hr hl (at0 hats) (ar0 e1) (ar1 e1) hV hU)
  · rename_i t _ x _ hats
    obtain ⟨v, l, e1, hV, _⟩ := hv.inv_cons
    exact .yield (clearA_run hr hl (at0 hats) (ar0 e1) hV)
  · simp at hl

/-- An operation that calls nothing. -/
theorem opA_run {P : Program} {σ : Sg} {h : H} {w : World} {t : Tr AV} {ρ : Operand → Value} (hρ : ∀ x a, ev t x = some a → V σ a (ρ x)) (hr : HR σ h w) {o : Oper} {outs : List (Option AV × H)} (hl : opA P t h o.op = some outs) :
    ∃ r h', (r, h') ∈ outs ∧ Does P σ h h' w r (execOp ρ o) := by
  have pv : ∀ (q : Option AV) (s : Sem Value), q.map (fun x => [(some x, h)]) = some outs → (∀ a, q = some a → ∃ z, s.run P w = .ok z w ∧ V σ a z) → execOp ρ o = (do Pure.pure (Next.value (← s))) → ∃ r h', (r, h') ∈ outs ∧ Does P σ h h' w r (execOp ρ o) := by
    intro q s hq hs he
    obtain ⟨a, ha, rfl⟩ := map1 hq
    exact ⟨_, _, List.mem_singleton.2 rfl, he ▸ .pure hr (hs a ha)⟩
  have pvh : ∀ (q : Option (AV × H)) (s : Sem Value), q.map (fun x => [(some x.1, x.2)]) = some outs → (∀ a h', q = some (a, h') → Yields P σ h h' w a s) → execOp ρ o = (do Pure.pure (Next.value (← s))) → ∃ r h', (r, h') ∈ outs ∧ Does P σ h h' w r (execOp ρ o) := by
    intro q s hq hs he
    obtain ⟨⟨a, h'⟩, ha, rfl⟩ := map1 hq
    exact ⟨_, _, List.mem_singleton.2 rfl, he ▸ .yield (hs a h' ha)⟩
  have pu : ∀ (q : Option H) (s : Sem Unit), q.map (fun x => [((none : Option AV), x)]) = some outs → (∀ h', q = some h' → ∃ w', s.run P w = .ok () w' ∧ HR σ h' w' ∧ Ext σ σ h h' w w') → execOp ρ o = (do s; Pure.pure Next.skip) → ∃ r h', (r, h') ∈ outs ∧ Does P σ h h' w r (execOp ρ o) := by
    intro q s hq hs he
    obtain ⟨h', ha, rfl⟩ := map1 hq
    exact ⟨_, _, List.mem_singleton.2 rfl, he ▸ .unit (hs h' ha)⟩
  have al : ∀ q : Option (AV × H), q.map (fun x => [(some x.1, x.2)]) = some outs → q = (allocA P t o.op h.next).map (fun (v, ob) => (v, ({ h.lay h.next ob with next := h.next + 1 } : H))) → ∃ r h', (r, h') ∈ outs ∧ Does P σ h h' w r (execOp ρ o) := by
    intro q hq he
    obtain ⟨⟨a, h'⟩, ha, rfl⟩ := map1 hq
    rw [he] at ha
    obtain ⟨⟨v, ob⟩, hv, hx⟩ := map_some' ha
    simp only [Prod.mk.injEq] at hx
    obtain ⟨rfl, rfl⟩ := hx
    obtain ⟨σ', z, w', k1, k2, k3, k4, _⟩ := allocA_run hρ (hr.more (h.next + 1) (by omega)) (id := h.next) hv (hr.fresh _ (Nat.le_refl _)) (by simp) hr.lown (fun j cs hj => by have := (hr.fam j cs _ hj).1; omega)
    rw [← lay_more] at k3 k4
    exact ⟨_, _, List.mem_singleton.2 rfl, σ', .value z, w', k1, ⟨z, rfl, k2⟩, k3, k4.more (by omega)⟩
  have bnd : ∀ {α β : Type} {q : Option α} {f : α → Option β} {y : β}, q.bind f = some y → ∃ a, q = some a ∧ f a = some y := fun h => bind_some' h
  cases ho : o.op with
  | move x =>
    rw [ho] at hl; simp only [opA] at hl
    exact pv _ (Pure.pure (ρ x)) hl (fun a ha => ⟨_, rfl, hρ _ _ ha⟩) (by simp only [execOp, ho]; rfl)
  | assign x =>
    rw [ho] at hl; simp only [opA] at hl
    exact pv _ (Pure.pure (ρ x)) hl (fun a ha => ⟨_, rfl, hρ _ _ ha⟩) (by simp only [execOp, ho]; rfl)
  | pick c a b =>
    rw [ho] at hl; simp only [opA] at hl
    obtain ⟨a', ha, hl⟩ := bnd hl
    obtain ⟨b', hb, hl⟩ := bnd hl
    split at hl
    · rename_i hc
      have hcV := hρ _ _ hc
      generalize hg : ρ c = v at hcV
      cases hcV
      exact pv _ (do Pure.pure (if ← asBool (ρ c) then ρ a else ρ b)) hl (fun x hx => ⟨ρ a, by simp [hg, asBool], by simp only [Option.some.injEq] at hx; subst hx; exact hρ _ _ ha⟩) (by simp only [execOp, ho, bind_assoc, pure_bind])
    · rename_i hc
      have hcV := hρ _ _ hc
      generalize hg : ρ c = v at hcV
      cases hcV
      exact pv _ (do Pure.pure (if ← asBool (ρ c) then ρ a else ρ b)) hl (fun x hx => ⟨ρ b, by simp [hg, asBool], by simp only [Option.some.injEq] at hx; subst hx; exact hρ _ _ hb⟩) (by simp only [execOp, ho, bind_assoc, pure_bind])
    · simp at hl
  | alloc e => rw [ho] at hl; simp only [opA] at hl; exact al _ hl (by rw [ho])
  | box e x => rw [ho] at hl; simp only [opA] at hl; exact al _ hl (by rw [ho])
  | buildSlice tt n ps => rw [ho] at hl; simp only [opA] at hl; exact al _ hl (by rw [ho])
  | makeMap tt r => rw [ho] at hl; simp only [opA] at hl; exact al _ hl (by rw [ho])
  | makeSlice tt l c => rw [ho] at hl; simp only [opA] at hl; exact al _ hl (by rw [ho])
  | build tt ps =>
    rw [ho] at hl; simp only [opA] at hl
    refine pv _ (Instr.build tt (ps.map fun (i, x) => (i, ρ x))) hl (fun a ha => ?_) (by simp only [execOp, ho])
    obtain ⟨qs, hq, hb⟩ := bnd ha
    exact buildA_run hb (by simpa using parts_rel hρ ps.toList qs hq)
  | load tt a =>
    rw [ho] at hl; simp only [opA] at hl
    split at hl
    · rename_i id off ha
      have hV := hρ _ _ ha
      generalize hg : ρ a = v at hV
      cases hV with
      | ptr hp =>
        refine pv _ (Instr.loadAt tt (ρ a)) hl (fun r hr' => ?_) (by simp only [execOp, ho])
        obtain ⟨z, h1, h2⟩ := hr.load_run (P := P) hr' hp
        exact ⟨z, by simp only [Instr.loadAt, hg, Instr.sureAddr, Sem.run_bind, Sem.run_pure, Result.andThen_ok]; exact h1, h2⟩
    · simp at hl
  | store tt a x =>
    rw [ho] at hl; simp only [opA] at hl
    split at hl
    · rename_i id off y ha hx
      have hV := hρ _ _ ha
      generalize hg : ρ a = v at hV
      cases hV with
      | ptr hp =>
        refine pu _ (Instr.storeAt tt (ρ a) (ρ x)) hl (fun h' hh => ?_) (by simp only [execOp, ho])
        obtain ⟨w', h1, h2, h3⟩ := hr.storeVar_run (P := P) hh hp (hρ _ _ hx)
        exact ⟨w', by simp only [Instr.storeAt, hg, Instr.sureAddr, Sem.run_bind, Sem.run_pure, Result.andThen_ok]; exact h1, h2, h3⟩
    · simp at hl
  | nilCheck x =>
    rw [ho] at hl; simp only [opA] at hl
    obtain ⟨a, ha, rfl⟩ := map1 hl
    obtain ⟨y, hy, hn⟩ := bnd ha
    obtain ⟨z, h1, h2⟩ := nilCheckA_run (P := P) (w := w) (ρ := ρ) (o := o) hn (hρ _ _ hy) ho
    exact ⟨_, _, List.mem_singleton.2 rfl, σ, _, w, h1, ⟨z, rfl, h2⟩, hr, .refl _ _ _⟩
  | binOp op xt x y yt =>
    rw [ho] at hl; simp only [opA] at hl
    refine pv _ (do eqGuard op xt x y (ρ x) (ρ y); binOp op xt (ρ x) (ρ y)) hl (fun a ha => ?_) (by simp only [execOp, ho])
    obtain ⟨x', hx, ha⟩ := bnd ha
    obtain ⟨y', hy, ha⟩ := bnd ha
    obtain ⟨z, h1, h2⟩ := binA_run (P := P) (w := w) ha (hρ _ _ hx) (hρ _ _ hy)
    exact ⟨z, by simp only [Sem.run_bind, eqGuard_run ha (hρ _ _ hx) (hρ _ _ hy), Result.andThen_ok]; exact h1, h2⟩
  | unOp op tt x =>
    rw [ho] at hl; simp only [opA] at hl
    refine pv _ (Op.unary op (ρ x)) hl (fun a ha => ?_) (by simp only [execOp, ho])
    obtain ⟨x', hx, ha⟩ := bnd ha
    exact unA_run ha (hρ _ _ hx)
  | convert s d x =>
    rw [ho] at hl; simp only [opA] at hl
    refine pv _ (convert s d (ρ x)) hl (fun a ha => ?_) (by simp only [execOp, ho])
    obtain ⟨x', hx, ha⟩ := bnd ha
    exact convA_run ha (hρ _ _ hx)
  | makeInterface xt x =>
    rw [ho] at hl; simp only [opA] at hl
    split at hl
    · simp at hl
    · rename_i d hni hu
      refine pv _ (Instr.makeInterface xt (ρ x)) hl (fun a ha => ?_) (by simp only [execOp, ho])
      obtain ⟨x', hx, rfl⟩ := map_some' ha
      refine ⟨.iface xt (ρ x), ?_, .iface (hρ _ _ hx)⟩
      simp only [Instr.makeInterface, Sem.run_bind, run_und hu, Result.andThen_ok]
      cases d <;> first
        | rfl
        | exact absurd rfl (hni _)
    · simp at hl
  | makeFunc f first cap =>
    rw [ho] at hl; simp only [opA] at hl
    have hny : ∀ l, f ≠ .yield l := by intro l e; subst e; simp at hl
    have hl2 : ((evs t first.toList).bind fun a => (evs t cap.toList).map fun b => AV.fn f a b).map (fun x => [(some x, h)]) = some outs := by
      cases f <;> first
        | exact hl
        | simp at hl
    refine pv _ (Instr.makeFunc f (first.map ρ) (cap.map ρ)) hl2 (fun a ha => ?_) (by simp only [execOp, ho])
    obtain ⟨as, h1, ha⟩ := bnd ha
    obtain ⟨bs, h2, rfl⟩ := map_some' ha
    have r1 := evs_rel hρ _ _ h1
    have r2 := evs_rel hρ _ _ h2
    refine ⟨.func f (first.map ρ) (cap.map ρ), rfl, .fn hny (by have := r1.1; simpa using this) (fun i a v x y => r1.2 i a v x ?_) (by have := r2.1; simpa using this) (fun i a v x y => r2.2 i a v x ?_)⟩
    · rw [← Array.getElem?_toList, Array.toList_map] at y; exact y
    · rw [← Array.getElem?_toList, Array.toList_map] at y; exact y
  | slice tt x lo hi mx =>
    rw [ho] at hl; simp only [opA] at hl
    refine pv _ (Instr.sliceAt tt (ρ x) (lo.map ρ) (hi.map ρ) (mx.map ρ)) hl (fun a ha => ?_) (by simp only [execOp, ho])
    obtain ⟨x', hx, ha⟩ := bnd ha
    obtain ⟨lo', h1, ha⟩ := bnd ha
    obtain ⟨hi', h2, ha⟩ := bnd ha
    obtain ⟨mx', h3, ha⟩ := bnd ha
    have vo : ∀ (y : Option Operand) (y' : Option AV), evo t y = some y' → VO σ y' (y.map ρ) := by
      intro y y' hy
      cases y with
      | none => simp [evo] at hy; subst hy; exact trivial
      | some y =>
        simp only [evo] at hy
        obtain ⟨z, hz, rfl⟩ := map_some' hy
        exact hρ _ _ hz
    exact sliceA_run hr ha (hρ _ _ hx) (vo _ _ h1) (vo _ _ h2) (vo _ _ h3)
  | fieldAddr s x f =>
    rw [ho] at hl; simp only [opA] at hl
    refine pv _ (Instr.fieldAt s (ρ x) f) hl (fun a ha => ?_) (by simp only [execOp, ho])
    obtain ⟨x', hx, ha⟩ := bnd ha
    exact fieldAddrA_run ha (hρ _ _ hx)
  | field s x f =>
    rw [ho] at hl; simp only [opA] at hl
    refine pv _ (Instr.field s (ρ x) f) hl (fun a ha => ?_) (by simp only [execOp, ho])
    obtain ⟨x', hx, ha⟩ := bnd ha
    exact fieldA_run ha (hρ _ _ hx)
  | indexAddr tt x i =>
    rw [ho] at hl; simp only [opA] at hl
    refine pv _ (Instr.indexAt tt (ρ x) (ρ i)) hl (fun a ha => ?_) (by simp only [execOp, ho])
    obtain ⟨x', hx, ha⟩ := bnd ha
    obtain ⟨i', hi, ha⟩ := bnd ha
    exact indexAddrA_run ha (hρ _ _ hx) (hρ _ _ hi)
  | index tt x i =>
    rw [ho] at hl; simp only [opA] at hl
    refine pv _ (Instr.index tt (ρ x) (ρ i)) hl (fun a ha => ?_) (by simp only [execOp, ho])
    obtain ⟨x', hx, ha⟩ := bnd ha
    obtain ⟨i', hi, ha⟩ := bnd ha
    exact indexA_run ha (hρ _ _ hx) (hρ _ _ hi)
  | lookup tt x k ok =>
    rw [ho] at hl; simp only [opA] at hl
    refine pv _ (Instr.lookup tt (ρ x) (ρ k) ok) hl (fun a ha => ?_) (by simp only [execOp, ho])
    obtain ⟨x', hx, ha⟩ := bnd ha
    obtain ⟨k', hk, ha⟩ := bnd ha
    exact lookupA_run hr ha (hρ _ _ hx) (hρ _ _ hk)
  | mapUpdate tt m k x =>
    rw [ho] at hl; simp only [opA] at hl
    refine pu _ (Instr.mapUpdate tt (ρ m) (ρ k) (ρ x)) hl (fun h' hh => ?_) (by simp only [execOp, ho])
    obtain ⟨m', hm, hh⟩ := bnd hh
    obtain ⟨k', hk, hh⟩ := bnd hh
    obtain ⟨x', hx, hh⟩ := bnd hh
    exact mapUpdateA_run hr hh (hρ _ _ hm) (hρ _ _ hk) (hρ _ _ hx)
  | insert tt m k x =>
    rw [ho] at hl; simp only [opA] at hl
    refine pu _ (Instr.mapUpdate tt (ρ m) (ρ k) (ρ x)) hl (fun h' hh => ?_) (by simp only [execOp, ho])
    obtain ⟨m', hm, hh⟩ := bnd hh
    obtain ⟨k', hk, hh⟩ := bnd hh
    obtain ⟨x', hx, hh⟩ := bnd hh
    exact mapUpdateA_run hr hh (hρ _ _ hm) (hρ _ _ hk) (hρ _ _ hx)
  | mapEntry tt m k =>
    rw [ho] at hl; simp only [opA] at hl
    refine pvh _ (Instr.mapEntry tt (ρ m) (ρ k)) hl (fun a h' hh => ?_) (by simp only [execOp, ho])
    obtain ⟨m', hm, hh⟩ := bnd hh
    obtain ⟨k', hk, hh⟩ := bnd hh
    obtain ⟨z, w', h1, h2, h3, h4⟩ := mapEntryA_run (P := P) hr hh (hρ _ _ hm) (hρ _ _ hk)
    exact ⟨σ, z, w', h1, h2, h3, h4⟩
  | entryStore tt m s x =>
    rw [ho] at hl; simp only [opA] at hl
    refine pu _ (Instr.entryStore tt (ρ m) (ρ s) (ρ x)) hl (fun h' hh => ?_) (by simp only [execOp, ho])
    obtain ⟨m', hm, hh⟩ := bnd hh
    obtain ⟨s', hs, hh⟩ := bnd hh
    obtain ⟨x', hx, hh⟩ := bnd hh
    exact entryStoreA_run hr hh (hρ _ _ hm) (hρ _ _ hs) (hρ _ _ hx)
  | range tt x =>
    rw [ho] at hl; simp only [opA] at hl
    refine pvh _ (Instr.range tt (ρ x)) hl (fun a h' hh => ?_) (by simp only [execOp, ho])
    obtain ⟨x', hx, hh⟩ := bnd hh
    exact rangeA_run hr hh (hρ _ _ hx)
  | next it isS =>
    rw [ho] at hl; simp only [opA] at hl
    split at hl
    · rename_i x hx
      obtain ⟨l, h1, rfl⟩ := map_some' hl
      obtain ⟨r, h', h2, h3⟩ := nextA_run (P := P) (T := o.type) hr h1 (hρ _ _ hx)
      refine ⟨some r, h', List.mem_map.2 ⟨(r, h'), h2, rfl⟩, ?_⟩
      have : execOp ρ o = (do Pure.pure (Next.value (← Instr.next (ρ it) isS o.type))) := by simp only [execOp, ho]
      rw [this]
      exact .yield h3
    · simp at hl
  | entry it =>
    rw [ho] at hl; simp only [opA] at hl
    refine pv _ (Instr.entry (ρ it)) hl (fun a ha => ?_) (by simp only [execOp, ho])
    obtain ⟨x', hx, ha⟩ := bnd ha
    exact entryA_run hr ha (hρ _ _ hx)
  | extract x i =>
    rw [ho] at hl; simp only [opA] at hl
    split at hl
    · rename_i vs hx
      refine pv _ (Instr.extract (ρ x) i) hl (fun a ha => ?_) (by simp only [execOp, ho])
      obtain ⟨us, hg, hus⟩ := (hρ _ _ hx).of_tup
      obtain ⟨z, h1, h2⟩ := hus.get ha
      refine ⟨z, ?_, h2⟩
      have : us[i]? = some z := by rw [← Array.getElem?_toList]; exact h1
      simp only [hg, Instr.extract, this, Sem.run_pure]
    · simp at hl
  | typeAssert x xt as ok =>
    rw [ho] at hl; simp only [opA] at hl
    split at hl
    · simp at hl
    · rename_i d hni hu
      split at hl
      · rename_i dt y hx
        obtain ⟨hd, hl2⟩ := cond_some hl
        clear hl
        have := beqN hd
        subst this
        refine pv _ (Instr.typeAssert (ρ x) xt dt ok) hl2 (fun a ha => ?_) (by simp only [execOp, ho])
        simp only [Option.some.injEq] at ha
        subst ha
        have hV := hρ _ _ hx
        generalize hg : ρ x = v at hV
        cases hV with
        | @iface _ _ z hz =>
          refine ⟨if ok then .tuple #[z, .bool true] else z, ?_, ?_⟩
          · simp only [Instr.typeAssert, Sem.run_bind, run_und hu, Result.andThen_ok]
            cases d <;> first
              | (simp; done)
              | exact absurd rfl (hni _)
          · cases ok
            · exact hz
            · exact .mk_tup' (.cons hz (.cons (.bool _) .nil))
      · simp at hl
    · simp at hl
  | call c =>
    rw [ho] at hl
    obtain ⟨callee, args, argTypes⟩ := c
    cases callee with
    | builtin b =>
      simp only [opA] at hl
      obtain ⟨⟨a, h'⟩, ha, rfl⟩ := map1 hl
      obtain ⟨xs, hx, hb⟩ := bnd ha
      refine ⟨_, _, List.mem_singleton.2 rfl, ?_⟩
      have := evs_rel hρ args.toList xs hx
      have hd := builtinA_run (T := o.type) (cn := args.map fun | .const _ => true | _ => false) (args := args.map ρ) hr hb (by simpa using this)
      obtain ⟨σ', x, w', h1, h2, h3, h4⟩ := hd
      refine ⟨σ', x, w', ?_, h2, h3, h4⟩
      simp only [execOp, ho, resolve, Sem.run_bind, Sem.run_pure, Result.andThen_ok, invoke]
      exact h1
    | value f => simp [opA] at hl
    | invoke r m => simp [opA] at hl
  | ready g => rw [ho] at hl; simp [opA] at hl
  | waits g => rw [ho] at hl; simp [opA] at hl
  | sliceToArrayPointer d x => rw [ho] at hl; simp [opA] at hl
  | makeChan tt s => rw [ho] at hl; simp [opA] at hl
  | go c => rw [ho] at hl; simp [opA] at hl
  | defer c => rw [ho] at hl; simp [opA] at hl
  | panic x => rw [ho] at hl; simp [opA] at hl
  | send ch x => rw [ho] at hl; simp [opA] at hl
  | recv ct ch ok => rw [ho] at hl; simp [opA] at hl
  | select cs b => rw [ho] at hl; simp [opA] at hl

end Go.Ev

/- One operation, a list of operations, in the walk's own words. No conditions beyond those that each theorem states. -/
namespace Go.Ev

/-! ### Lists of outcomes -/

theorem joinR_mem {α β : Type} {f : α → R β} : ∀ (l : List α) (outs : List β), joinR f l = some outs → ∀ x ∈ l, ∃ os, f x = some os ∧ ∀ y ∈ os, y ∈ outs
  | [], outs, h, x, hx => by simp at hx
  | [a], outs, h, x, hx => by
    simp only [joinR] at h
    simp only [List.mem_singleton] at hx; subst hx
    exact ⟨outs, h, fun y hy => hy⟩
  | a :: b :: l, outs, h, x, hx => by
    simp only [joinR] at h
    cases h1 : f a with
    | none => simp [h1] at h
    | some o1 =>
      cases h2 : joinR f (b :: l) with
      | none => simp [h1, h2] at h
      | some o2 =>
        simp only [h1, h2, Option.some.injEq] at h; subst h
        rcases List.mem_cons.1 hx with rfl | hx
        · exact ⟨o1, h1, fun y hy => List.mem_append_left _ hy⟩
        · obtain ⟨os, k1, k2⟩ := joinR_mem (b :: l) o2 h2 x hx
          exact ⟨os, k1, fun y hy => List.mem_append_right _ (k2 y hy)⟩

theorem bindR_mem {α β : Type} {r : R α} {f : α → R β} {outs : List β} (h : bindR r f = some outs) : ∃ l, r = some l ∧ ∀ x ∈ l, ∃ os, f x = some os ∧ ∀ y ∈ os, y ∈ outs := by
  cases r with
  | none => simp [bindR] at h
  | some l => exact ⟨l, rfl, joinR_mem l outs h⟩

/-! ### States -/

def DfR (σ : Sg) (d : ADf) (d' : Deferred) : Prop := match d.fn with
  | none => ∃ q, σ d.blk = some q ∧ d' = { target := .collected q.b, args := #[] }
  | some f => ∃ g cap', f = .func g ∧ d'.target = .fn (.func g) cap' ∧ VL σ d.args d'.args.toList ∧ VL σ d.cap cap'.toList

def DsR (σ : Sg) : List ADf → List Deferred → Prop
  | [], [] => True
  | d :: ds, d' :: ds' => DfR σ d d' ∧ DsR σ ds ds'
  | _, _ => False

theorem DfR.mono {σ σ' : Sg} (hle : ∀ id p, σ id = some p → σ' id = some p) {d : ADf} {d' : Deferred} (h : DfR σ d d') : DfR σ' d d' := by
  unfold DfR at *
  revert h
  cases d.fn with
  | none => intro h; obtain ⟨q, h1, h2⟩ := h; exact ⟨q, hle _ _ h1, h2⟩
  | some f => intro h; obtain ⟨g, cap', h1, h2, h3, h4⟩ := h; exact ⟨g, cap', h1, h2, h3.mono hle, h4.mono hle⟩

theorem DsR.mono {σ σ' : Sg} (hle : ∀ id p, σ id = some p → σ' id = some p) : ∀ {ds : List ADf} {ds' : List Deferred}, DsR σ ds ds' → DsR σ' ds ds'
  | [], [], _ => trivial
  | _ :: _, _ :: _, h => ⟨h.1.mono hle, DsR.mono hle h.2⟩

structure SR (σ : Sg) (st : St) (a : Act) (w : World) : Prop where
  t : TR σ st.t st.n a.tmps
  h : HR σ st.h w
  ds : DsR σ st.ds a.defers

theorem TR.ev {σ : Sg} {t : Tr AV} {n : Nat} {a : Act} (h : TR σ t n a.tmps) : ∀ x y, ev t x = some y → V σ y (a.eval x) := by
  intro x y hx
  cases x with
  | tmp i =>
    simp only [Ev.ev, Option.some.injEq] at hx
    have := h.2 i
    simp only [Act.eval]
    cases hg : t.get i with
    | none => rw [hg] at hx this; subst hx; exact this
    | some v => rw [hg] at hx this; subst hx; exact this
  | const v => exact absV_V _ _ _ hx
  | func f =>
    simp only [Ev.ev, Option.some.injEq] at hx; subst hx
    exact .fn (by simp) rfl (fun i a v x _ => by simp at x) rfl (fun i a v x _ => by simp at x)
  | global g => simp [Ev.ev] at hx

theorem TR.put {σ : Sg} {t : Tr AV} {n : Nat} {a : Act} (h : TR σ t n a.tmps) {d : Nat} {x : AV} {v : Value} (hd : d < n) (hv : V σ x v) : TR σ (t.put d (some x)) n (a.put (some d) v).tmps := by
  refine ⟨by simp [Act.put, h.1], ?_⟩
  intro i
  rw [put_get]
  simp only [Act.put, Array.getD_eq_getD_getElem?, Array.getElem?_setIfInBounds]
  by_cases hi : i = d
  · subst hi
    rw [if_pos rfl, if_pos rfl, if_pos (by rw [h.1]; exact hd)]
    exact hv
  · rw [if_neg hi, if_neg (fun e => hi e.symm)]
    have := h.2 i
    rw [Array.getD_eq_getD_getElem?] at this
    exact this

theorem put_defers (a : Act) (d : Option Tmp) (v : Value) : (a.put d v).defers = a.defers := by cases d <;> rfl

theorem St.put_eq {st st' : St} {dst : Option Tmp} {x : AV} (h : st.put dst x = some st') : st'.h = st.h ∧ st'.ds = st.ds ∧ st'.n = st.n ∧ ∀ {σ : Sg} {a : Act} {v : Value}, TR σ st.t st.n a.tmps → V σ x v → TR σ st'.t st'.n (a.put dst v).tmps := by
  unfold St.put at h
  cases dst with
  | none => simp only [Option.some.injEq] at h; subst h; exact ⟨rfl, rfl, rfl, fun ht _ => ht⟩
  | some d =>
    obtain ⟨h1, h2⟩ := cond_some h
    simp only [Option.some.injEq] at h2; subst h2
    exact ⟨rfl, rfl, rfl, fun ht hv => ht.put (bltN h1) hv⟩

/-- What is asked of whatever serves the calls. -/
def Fine (P : Program) (r : Result Next) (R : Value → World → Prop) : Prop := match r with
  | .ok (.value v) w' => R v w'
  | .ok (.enter f args) w' => Calls P f args w' (fun e w'' => ∃ v, e = .returned v ∧ R v w'')
  | .ok (.round l f tmps a b) w' => ∀ n, RoundIn Fence.wide n P l f tmps a b w' (fun e w'' => ∃ v, e = .returned v ∧ R v w'')
  | _ => False

def Got (σ : Sg) (h : H) (w : World) (outs : List (AV × H)) (v : Value) (w' : World) : Prop := ∃ a h', (a, h') ∈ outs ∧ ∃ σ', V σ' a v ∧ HR σ' h' w' ∧ Ext σ σ' h h' w w'

structure CVok (P : Program) (cv : CV) : Prop where
  func : ∀ g args h outs, cv (.func g) args h = some outs → ∀ σ w (args' : Array Value), VL σ args args'.toList → HR σ h w → Fine P ((callFunc g args').run P w) (Got σ h w outs)
  yield : ∀ id args h outs, cv (.yield id) args h = some outs → ∀ σ w p (args' : Array Value), σ id = some p → VL σ args args'.toList → HR σ h w → Fine P ((Instr.yield p.b args').run P w) (Got σ h w outs)
  only : ∀ f args h outs, cv f args h = some outs → (∃ g, f = .func g) ∨ (∃ id, f = .yield id)

theorem callsIn_round {F : Fence} {n l : Nat} {P : Program} {f : FuncId} {args : Array Value} {w : World} {R : Ending → World → Prop} (h : CallsIn F n P f args w R) : CallsIn (F.inRound l) n P f args w R := h
theorem roundIn_round {F : Fence} {n l k : Nat} {P : Program} {f : FuncId} {t : Array Value} {a b : Code} {w : World} {R : Ending → World → Prop} (h : RoundIn F n P k f t a b w R) : RoundIn (F.inRound l) n P k f t a b w R := h

/-- The fence of a frame: none; in a round, the round's own. -/
def FOf (σ : Sg) (ro : Option Nat) (F : Fence) : Prop := match ro with
  | none => F = Fence.wide
  | some id => ∃ p, σ id = some p ∧ F = Fence.wide.inRound p.b

theorem FOf.mono {σ σ' : Sg} (hle : ∀ id p, σ id = some p → σ' id = some p) {ro : Option Nat} {F : Fence} (h : FOf σ ro F) : FOf σ' ro F := by
  cases ro with
  | none => exact h
  | some id => obtain ⟨p, h1, h2⟩ := h; exact ⟨p, hle _ _ h1, h2⟩

theorem FOf.fn {σ : Sg} {ro : Option Nat} {F : Fence} (h : FOf σ ro F) (f : FuncId) : F.fn f := by
  cases ro with
  | none => rw [show F = Fence.wide from h]; trivial
  | some id => obtain ⟨p, _, rfl⟩ := h; trivial

theorem FOf.depth {σ : Sg} {ro : Option Nat} {F : Fence} (h : FOf σ ro F) : F.depth = none := by
  cases ro with
  | none => rw [show F = Fence.wide from h]; rfl
  | some id => obtain ⟨p, _, rfl⟩ := h; rfl

theorem FOf.calls {σ : Sg} {ro : Option Nat} {F : Fence} (h : FOf σ ro F) {n : Nat} {P : Program} {f : FuncId} {args : Array Value} {w : World} {R : Ending → World → Prop} (hc : Calls P f args w R) : CallsIn F n P f args w R := by
  cases ro with
  | none => rw [show F = Fence.wide from h]; exact callsIn_wide.2 hc
  | some id => obtain ⟨p, _, rfl⟩ := h; exact callsIn_round (callsIn_wide.2 hc)

theorem FOf.rounds {σ : Sg} {ro : Option Nat} {F : Fence} (h : FOf σ ro F) {n k : Nat} {P : Program} {f : FuncId} {t : Array Value} {a b : Code} {w : World} {R : Ending → World → Prop} (hc : RoundIn Fence.wide n P k f t a b w R) : RoundIn F n P k f t a b w R := by
  cases ro with
  | none => rw [show F = Fence.wide from h]; exact hc
  | some id => obtain ⟨p, _, rfl⟩ := h; exact roundIn_round hc

/-- A result of an operation, in the walk's words. -/
theorem upon_of {P : Program} {σ : Sg} {ro : Option Nat} {F : Fence} (hF : FOf σ ro F) {n : Nat} {o : Oper} {a : Act} {next : Act → World → Prop} {Q : Exit → Act → World → Prop} {r : Result Next} {R : Value → World → Prop}
    (hf : Fine P r R) (hn : ∀ v w', R v w' → next (a.put o.dst v) w') : o.uponIn F n P a next Q r := by
  cases r with
  | halt h w => exact hf.elim
  | ok x w' =>
    cases x with
    | value v => exact hn v w' hf
    | enter f args =>
      have h2 := hF.calls (n := n - 1) hf
      refine ⟨fun h => by rw [hF.depth] at h; simp at h, h2.1, fun cs hr => ?_⟩
      obtain ⟨e, w'', fr, ⟨v, rfl, hR⟩, h3⟩ := h2.2 cs hr
      exact ⟨.returned v, w'', fr, hn v w'' hR, h3⟩
    | round l f tmps as b =>
      refine ⟨fun h => by rw [hF.depth] at h; simp at h, ?_⟩
      exact (hF.rounds (hf (n - 1))).mono fun e w'' ⟨v, he, hR⟩ => by subst he; exact hn v w'' hR
    | _ => exact hf.elim

theorem callOf_dyn {P : Program} {t : Tr AV} {c : Call} {f : Fn} {xs cap : List AV} (h : callOf P t c = some (f, xs, cap)) {σ : Sg} {ρ : Operand → Value} (hρ : ∀ x a, ev t x = some a → V σ a (ρ x)) (T : TypeId) {w : World} :
    (∃ g args', f = .func g ∧ VL σ (xs ++ cap) args'.toList ∧ ((do let d ← resolve ρ c T; invoke d.target d.args) : Sem Next).run P w = (callFunc g args').run P w) ∨
    (∃ id p args', f = .yield id ∧ σ id = some p ∧ VL σ (xs ++ cap) args'.toList ∧ ((do let d ← resolve ρ c T; invoke d.target d.args) : Sem Next).run P w = (Instr.yield p.b args').run P w) ∨
    (∀ g, f ≠ .func g) ∧ (∀ id, f ≠ .yield id) := by
  unfold callOf at h
  obtain ⟨callee, args, ats⟩ := c
  simp only at h
  cases callee with
  | builtin b => simp at h
  | value g =>
    simp only at h
    split at h
    · rename_i fn first cp hg
      obtain ⟨ys, hy, he⟩ := map_some' h
      simp only [Prod.mk.injEq] at he
      obtain ⟨rfl, rfl, rfl⟩ := he
      have hys := evs_rel hρ _ _ hy
      have hV := hρ _ _ hg
      generalize hgv : ρ g = v at hV
      cases hV with
      | @fn _ _ _ fs' cs' hfy h1 h2 h3 h4 =>
        have hfs : VL σ first fs'.toList := ⟨by simpa using h1, fun i a v x y => h2 i a v x (by simpa using y)⟩
        have hcs : VL σ cp cs'.toList := ⟨by simpa using h3, fun i a v x y => h4 i a v x (by simpa using y)⟩
        cases fn with
        | func k =>
          refine .inl ⟨k, fs' ++ args.map ρ ++ cs', rfl, ?_, ?_⟩
          · simp only [Array.toList_append, Array.toList_map]; exact (hfs.append hys).append hcs
          · simp only [resolve, hgv, Deferred.ofValue, Sem.run_bind, Sem.run_pure, Result.andThen_ok, invoke]
        | yield l => exact absurd rfl (hfy l)
        | method nm => exact .inr (.inr ⟨by simp, by simp⟩)
        | methodOf tt nm => exact .inr (.inr ⟨by simp, by simp⟩)
        | via tt p q b => exact .inr (.inr ⟨by simp, by simp⟩)
      | @yield id p hp =>
        refine .inr (.inl ⟨id, p, #[] ++ args.map ρ, rfl, hp, ?_, ?_⟩)
        · simp only [Array.toList_append, Array.toList_map, List.nil_append, List.append_nil]; exact hys
        · simp only [resolve, hgv, Deferred.ofValue, Sem.run_bind, Sem.run_pure, Result.andThen_ok, invoke]
    · simp at h
  | invoke r name =>
    simp only at h
    split at h
    · rename_i tt v hr
      obtain ⟨g, hg, h⟩ := bind_some' h
      obtain ⟨ys, hy, he⟩ := map_some' h
      simp only [Prod.mk.injEq] at he
      obtain ⟨rfl, rfl, rfl⟩ := he
      have hys := evs_rel hρ _ _ hy
      have hV := hρ _ _ hr
      generalize hgv : ρ r = rv at hV
      cases hV with
      | @iface _ _ vv hva =>
        obtain ⟨i, m, d, hi, hf, hp, hfu, hu, hd⟩ := methodA_run hg
        refine .inl ⟨g, #[vv] ++ args.map ρ, rfl, ?_, ?_⟩
        · simp only [Array.toList_append, Array.toList_map, List.append_nil]; exact .cons hva hys
        · have hpath : m.path.toList = [] := by
            have := hp; simpa using this
          have hm : (method (P.types.size + Made.depth) tt vv name).run P w = .ok (g, vv) w := by
            rw [show P.types.size + Made.depth = (P.types.size + 99) + 1 from rfl]
            generalize P.types.size + 99 = kk
            simp only [method, Sem.run_bind, run_typeInfo' hi, Result.andThen_ok, hf, hpath, follow, Sem.run_pure, hfu, receiverAt, run_und hu]
            cases d <;> first
              | rfl
              | exact absurd rfl (hd _)
          have he0 : (#[Value.iface tt vv] ++ args.map ρ)[0]? = some (Value.iface tt vv) := by rw [Array.getElem?_append_left (by simp)]; rfl
          have he1 : (#[Value.iface tt vv] ++ args.map ρ).extract 1 (#[Value.iface tt vv] ++ args.map ρ).size = args.map ρ := by
            apply Array.ext'
            simp
            exact List.take_of_length_le (by simp)
          simp only [resolve, hgv, Sem.run_bind, Sem.run_pure, Result.andThen_ok, invoke, he0, he1, callMethod, run_program, hm]
    · simp at h

theorem isDyn_not {op : Op} (h : isDyn op = true) : ∃ c, op = .call c := by
  cases op <;> simp [isDyn] at h
  exact ⟨_, rfl⟩

/-- One operation. -/
theorem oneA_ok {P : Program} {cv : CV} (hcv : CVok P cv) {ro : Option Nat} {F : Fence} {n : Nat} {o : Oper} {st : St} {outs : List St} (ho : oneA P cv ro o st = some outs) {σ : Sg} {a : Act} {w : World} (hs : SR σ st a w) (hF : FOf σ ro F)
    (next : Act → World → Prop) (Q : Exit → Act → World → Prop) (hnext : ∀ st' a' w' σ', st' ∈ outs → SR σ' st' a' w' → Ext σ σ' st.h st'.h w w' → st'.n = st.n → next a' w') :
    o.wpIn F n P a w next Q := by
  refine ⟨fun f _ => hF.fn f, ?_⟩
  have hρ := hs.t.ev
  unfold oneA at ho
  split at ho
  · rename_i c hop
    cases ro with
    | some l => simp at ho
    | none =>
      have hF' : F = Fence.wide := hF
      subst hF'
      simp only at ho
      split at ho
      · rename_i g hcal
        split at ho
        · rename_i f first cap hg
          split at ho
          · rename_i xs hx
            obtain ⟨st', hp, rfl⟩ := map1 ho
            obtain ⟨q1, q2, q3, q4⟩ := St.put_eq hp
            have hxs := evs_rel hρ _ _ hx
            have hV := hρ _ _ hg
            generalize hgv : a.eval g = v at hV
            cases hV with
            | @fn _ _ _ fs' cs' hfy h1 h2 h3 h4 =>
              have hfs : VL σ first fs'.toList := ⟨by simpa using h1, fun i a v x y => h2 i a v x (by simpa using y)⟩
              have hcs : VL σ cap cs'.toList := ⟨by simpa using h3, fun i a v x y => h4 i a v x (by simpa using y)⟩
              have hrun : (o.semAt none a.eval).run P w = .ok (.defer { target := .fn (.func f) cs', args := fs' ++ c.args.map a.eval }) w := by
                simp only [Oper.semAt_none, execOp, hop, resolve, hcal, hgv, Deferred.ofValue, Sem.run_bind, Sem.run_pure, Result.andThen_ok]
              show o.uponIn Fence.wide n P a next Q ((o.semAt none a.eval).run P w)
              rw [hrun]
              refine hnext st' _ w σ (List.mem_singleton.2 rfl) ⟨q4 (a := { a with defers := _ :: a.defers }) hs.t V.und, q1 ▸ hs.h, ?_⟩ (q1 ▸ .refl _ _ _) q3
              rw [q2, put_defers]
              refine ⟨⟨f, cs', rfl, rfl, ?_, hcs⟩, hs.ds⟩
              simp only [Array.toList_append, Array.toList_map]
              exact hfs.append hxs
          · simp at ho
        · simp at ho
      · simp at ho
  · rename_i hnd
    have hsem : o.semAt F.round a.eval = execOp a.eval o := Oper.semAt_eq _ _ _ (fun c hc => hnd c (by rw [← hc]))
    rw [hsem]
    cases hdy : isDyn o.op
    · rw [hdy, cond_ff] at ho
      obtain ⟨l, hl, hall⟩ := bindR_mem ho
      obtain ⟨r, h', hm, σ', x, w', hrun, hres, hh', hext⟩ := opA_run (P := P) hρ hs.h hl
      obtain ⟨os, h1, h2⟩ := hall _ hm
      obtain ⟨st', hp, rfl⟩ := map1 h1
      obtain ⟨q1, q2, q3, q4⟩ := St.put_eq hp
      rw [hrun]
      have ht : TR σ' st.t st.n a.tmps := hs.t.mono hext.le
      cases r with
      | some av =>
        obtain ⟨v, rfl, hV⟩ := hres
        refine hnext st' _ w' σ' (h2 _ (List.mem_singleton.2 rfl)) ⟨q4 ht hV, q1 ▸ hh', ?_⟩ (q1 ▸ hext) q3
        rw [q2, put_defers]; exact hs.ds.mono hext.le
      | none =>
        have hres : x = .skip := hres
        subst hres
        refine hnext st' _ w' σ' (h2 _ (List.mem_singleton.2 rfl)) ⟨q4 ht V.und, q1 ▸ hh', ?_⟩ (q1 ▸ hext) q3
        rw [q2, put_defers]; exact hs.ds.mono hext.le
    · rw [hdy, cond_tt] at ho
      split at ho
      · rename_i c hopc
        split at ho
        · rename_i fn xs cap hc
          obtain ⟨l, hl, hall⟩ := bindR_mem ho
          have hexec : (execOp a.eval o).run P w = ((do let d ← resolve a.eval c o.type; invoke d.target d.args) : Sem Next).run P w := by simp only [execOp, hopc]
          have fin : ∀ r, Fine P r (Got σ st.h w l) → o.uponIn F n P a next Q r := by
            intro r hf
            refine upon_of hF hf ?_
            rintro v w' ⟨av, h', hm, σ', hV, hh', hext⟩
            obtain ⟨os, h1, h2⟩ := hall _ hm
            obtain ⟨st', hp, rfl⟩ := map1 h1
            obtain ⟨q1, q2, q3, q4⟩ := St.put_eq hp
            have ht : TR σ' st.t st.n a.tmps := hs.t.mono hext.le
            refine hnext st' _ w' σ' (h2 _ (List.mem_singleton.2 rfl)) ⟨q4 ht hV, q1 ▸ hh', ?_⟩ (q1 ▸ hext) q3
            rw [q2, put_defers]; exact hs.ds.mono hext.le
          rw [hexec]
          rcases callOf_dyn hc hρ o.type (w := w) with ⟨g, args', rfl, hv, he⟩ | ⟨id, p, args', rfl, hp, hv, he⟩ | ⟨h1, h2⟩
          · rw [he]; exact fin _ (hcv.func _ _ _ _ hl _ _ _ hv hs.h)
          · rw [he]; exact fin _ (hcv.yield _ _ _ _ hl _ _ _ _ hp hv hs.h)
          · rcases hcv.only _ _ _ _ hl with ⟨g, e⟩ | ⟨id, e⟩
            · exact absurd e (h1 g)
            · exact absurd e (h2 id)
        · simp at ho
      · simp at ho

end Go.Ev

/- Code, in the walk's own words. No conditions beyond those that each theorem states. -/
namespace Go.Ev

theorem wantedA_ok {ops : Array Oper} {σ : Sg} {t : Tr AV} {n : Nat} {a : Act} {o : Oper} {b : Bool} (h : wantedA ops.toList t n o = some b) (ht : TR σ t n a.tmps) : Region.wanted o (yielded ops a.tmps) = b := by
  unfold wantedA at h
  unfold Region.wanted
  split at h
  · rename_i hg; rw [hg]; simpa using h
  · rename_i j want hg
    rw [hg]
    simp only
    split at h
    · rename_i d hd
      obtain ⟨hlt, h2⟩ := cond_some h
      have hlt := bltN hlt
      have hd' : (ops[j]?).bind (·.dst) = some d := by rw [← Array.getElem?_toList]; exact hd
      have hsz : d < a.tmps.size := by rw [ht.1]; exact hlt
      have hv := ht.2 d
      have hget : a.tmps[d]? = some (a.tmps[d]) := Array.getElem?_eq_getElem hsz
      rw [Array.getD_eq_getD_getElem?, hget] at hv
      simp only [Option.getD_some] at hv
      have hy : yielded ops a.tmps j = match a.tmps[d] with | .bool b => some b | _ => none := by
        unfold yielded
        rw [hd']
        simp only [Option.bind_some, hget]
        cases a.tmps[d] <;> rfl
      rw [hy]
      generalize a.tmps[d] = v at hv
      split at h2
      · rename_i x hx
        rw [hx] at hv
        simp only [Option.getD_some] at hv
        cases hv
        simp only [Option.some.injEq] at h2
        subst h2
        cases x <;> cases want <;> rfl
      · rename_i hx
        rw [hx] at hv
        simp only [Option.getD_some] at hv
        obtain ⟨vs, rfl, _⟩ := hv.of_tup
        simp only [Option.some.injEq] at h2; subst h2
        rfl
      · rename_i hx
        rw [hx] at hv
        obtain ⟨vs, rfl, _⟩ := V.of_tup (cs := []) hv
        simp only [Option.some.injEq] at h2; subst h2
        rfl
      · simp at h2
    · simp at h

theorem opsA_ok {P : Program} {cv : CV} (hcv : CVok P cv) {ro : Option Nat} {F : Fence} {n : Nat} {ops : Array Oper} {Q : Exit → Act → World → Prop} {σ0 : Sg} {h0 : H} {w0 : World} {N : Nat} : ∀ (l : List Oper) (i : Nat) (st : St) (outs : List St),
    ops.toList.drop i = l → opsA P cv ro ops.toList l st = some outs → ∀ (σ : Sg) (a : Act) (w : World), SR σ st a w → FOf σ ro F → Ext σ0 σ h0 st.h w0 w → st.n = N →
    (∀ st' a' w' σ', st' ∈ outs → SR σ' st' a' w' → Ext σ0 σ' h0 st'.h w0 w' → st'.n = N → Q .normal a' w') → wpOpsIn F n P ops Q (List.range' i l.length) a w
  | [], i, st, outs, hd, ho, σ, a, w, hs, hF, hE, hN, hQ => by
    simp only [opsA, one, Option.some.injEq] at ho; subst ho
    exact hQ st a w σ (List.mem_singleton.2 rfl) hs hE hN
  | o :: l, i, st, outs, hd, ho, σ, a, w, hs, hF, hE, hN, hQ => by
    have hoi : ops[i]? = some o := by
      rw [← Array.getElem?_toList]
      have := congrArg (fun l => l[0]?) hd
      simpa using this
    have hdr : ops.toList.drop (i + 1) = l := by
      have := congrArg List.tail hd
      simpa [List.tail_drop] using this
    simp only [opsA] at ho
    rw [List.length_cons, List.range'_succ]
    simp only [wpOpsIn, hoi]
    cases hw : wantedA ops.toList st.t st.n o with
    | none => simp [hw] at ho
    | some b =>
      have hwt := wantedA_ok hw hs.t
      cases b
      · simp only [hw] at ho
        rw [hwt]
        simp only [Bool.false_eq_true, if_false]
        split at ho
        · rename_i st' hp
          obtain ⟨q1, q2, q3, q4⟩ := St.put_eq hp
          refine ⟨fun f _ => hF.fn f, ?_⟩
          refine opsA_ok hcv l (i + 1) st' outs hdr ho σ _ w ⟨q4 hs.t V.und, q1 ▸ hs.h, by rw [q2, put_defers]; exact hs.ds⟩ hF (q1 ▸ hE) (q3.trans hN) hQ
        · simp at ho
      · simp only [hw] at ho
        rw [hwt]
        simp only [if_true]
        obtain ⟨l1, hl1, hall⟩ := bindR_mem ho
        refine oneA_ok hcv hl1 hs hF _ _ ?_
        intro st' a' w' σ' hm hs' hE' hn'
        obtain ⟨os, h1, h2⟩ := hall _ hm
        exact opsA_ok hcv l (i + 1) st' os hdr h1 σ' a' w' hs' (hF.mono hE'.le) (hE.trans hE') (hn'.trans hN) (fun st'' a'' w'' σ'' hm' hs'' hE'' hn'' => hQ st'' a'' w'' σ'' (h2 _ hm') hs'' hE'' hn'')

def ExR : Ex → Exit → Prop
  | .normal, e => e = .normal
  | .ret, e => e = .ret
  | .exit id, e => e = .exit id
  | .goto l, e => e = .goto l

def Post (σ0 : Sg) (h0 : H) (w0 : World) (N : Nat) (outs : List (Ex × St)) : Exit → Act → World → Prop := fun e a' w' =>
  ∃ ex st', (ex, st') ∈ outs ∧ ExR ex e ∧ ∃ σ', SR σ' st' a' w' ∧ Ext σ0 σ' h0 st'.h w0 w' ∧ st'.n = N

theorem Post.mono {σ0 : Sg} {h0 : H} {w0 : World} {N : Nat} {outs outs' : List (Ex × St)} (h : ∀ y ∈ outs, y ∈ outs') {e : Exit} {a : Act} {w : World} (hp : Post σ0 h0 w0 N outs e a w) : Post σ0 h0 w0 N outs' e a w := by
  obtain ⟨ex, st', h1, h2⟩ := hp
  exact ⟨ex, st', h _ h1, h2⟩

theorem wpIn_scope {F : Fence} {n : Nat} {P : Program} {c : Code} {Q : Exit → Act → World → Prop} {a : Act} {w : World} (h : c.wpIn F n P (fun e a w => (∀ l, e ≠ .goto l) ∧ Q e a w) a w) : (Code.scope c).wpIn F n P Q a w := by
  intro b k cs hro hb hr
  have st1 : step P (lone (b.atR a (.code (.scope c) :: k)) cs w) = .next (lone (b.atR a (.code c :: .inScope c :: k)) cs w) := step_lone_go (by simp [stepG, stepG.exec, Frame.atR])
  have h0 : (lone (b.atR a (.code (.scope c) :: k)) cs w).fenced P F := fenced_calm hb hr rfl
  obtain ⟨e, a₁, w₁, ⟨hng, hq⟩, harr⟩ := h b (.inScope c :: k) cs hro hb hr
  cases e with
  | normal =>
    have st2 : step P (lone (b.atR a₁ (.inScope c :: k)) cs w₁) = .next (lone (b.atR a₁ k) cs w₁) := step_lone_go (by simp [stepG, stepG.exec, Frame.atR])
    exact ⟨.normal, a₁, w₁, hq, .head h0 st1 (StepsIn.trans harr (.one (fenced_calm hb hr rfl) st2))⟩
  | exit id =>
    have hx : exitTo id (.inScope c :: k) = exitTo id k := rfl
    exact ⟨.exit id, a₁, w₁, hq, fun k' hk => .head h0 st1 (harr.1 k' (by rw [hx]; exact hk)),
      fun hr' hk => let ⟨k₁, h1, h2⟩ := harr.2 hr' (by rw [hx]; exact hk); ⟨k₁, h1, .head h0 st1 h2⟩⟩
  | goto l => exact absurd rfl (hng l)
  | ret => exact ⟨_, a₁, w₁, hq, .of_steps (.one h0 st1) harr⟩
  | panic ch => exact ⟨_, a₁, w₁, hq, .of_steps (.one h0 st1) harr⟩
  | outgrown => exact ⟨_, a₁, w₁, hq, .of_steps (.one h0 st1) harr⟩

/-- What is asked of a region that draws. -/
def DrawOk (P : Program) : Prop := ∀ (cv : CV), CVok P cv → ∀ (ro : Option Nat) (F : Fence) (n : Nat) (ops : Array Oper) (st st' : St), drawA P cv ro ops.toList st = some st' →
  ∀ (σ : Sg) (a : Act) (w : World), SR σ st a w → FOf σ ro F → ∀ (t : Nat) (Q : Exit → Act → World → Prop), (∀ a' w' σ', SR σ' st' a' w' → Ext σ σ' st.h st'.h w w' → st'.n = st.n → Q .normal a' w') →
    wpOpsIn F n P ops Q (Region.schedule (P.follows .mixedOrders) ops t) a w

theorem set_fam {σ : Sg} {h : H} {w : World} (hr : HR σ h w) {id : Nat} {st : LoopState} {p : Option Code} {t : Tr AV} {n : Nat} {ps : Array Tmp} {x y : Code} {d : Nat} (hl : h.loopOf id = some (st, p, t, n, ps, x, y, d)) :
    h.objs.get id = some (.loop st p t n ps x y d) ∧ ∃ q, σ id = some q ∧ ∃ f tmps qd, w.heap[q.b]? = some (.loop { state := st, pending := p, fn := f, tmps, params := ps, assign := x, body := y, defers := qd.b }) ∧ σ d = some qd ∧ TR σ t n tmps := by
  unfold H.loopOf at hl
  split at hl
  · rename_i ho
    simp only [Option.some.injEq, Prod.mk.injEq] at hl
    obtain ⟨rfl, rfl, rfl, rfl, rfl, rfl, rfl, rfl⟩ := hl
    obtain ⟨q, hq, f, tmps, qd, h1, h2, h3⟩ := hr.obj id _ ho
    exact ⟨ho, q, hq, f, tmps, qd, h1, h2, h3⟩
  · simp at hl

theorem HR.newObj {σ : Sg} {h : H} {w : World} (hr : HR σ h w) {o : AO} {ob : Obj} (hc : isCells o = false) (hor : OR (up σ h.next ⟨w.heap.size, 0, 0⟩) o ⟨w.heap.size, 0, 0⟩ (some ob)) :
    HR (up σ h.next ⟨w.heap.size, 0, 0⟩) (h.newObj o).2 { w with heap := w.heap.push ob } ∧ Ext σ (up σ h.next ⟨w.heap.size, 0, 0⟩) h (h.newObj o).2 w { w with heap := w.heap.push ob } := by
  obtain ⟨k1, k2⟩ := hr.new (r := 0) (o := o) (ob := ob) (w' := { w with heap := w.heap.push ob }) (fun cs f hf => by subst hf; simp [isCells] at hc) hor rfl rfl rfl rfl
  have he : ({ h.lay h.next o with next := h.next + 1 } : H) = (h.newObj o).2 := by
    unfold H.lay H.newObj
    split
    · simp [isCells] at hc
    · rfl
  rw [he] at k1 k2
  exact ⟨k1, k2⟩

/-- No function with a body bears the one name that the model serves itself. -/
def NoGo (P : Program) : Prop := ∀ (f : FuncId) (fn : Func), P.funcs[f]? = some fn → fn.body.isSome = true → (fn.name == "runtime.NumGoroutine") = false

theorem callFunc_enter {P : Program} (hng : NoGo P) {f : FuncId} {fn : Func} (hf : P.funcs[f]? = some fn) (hb : fn.body.isSome = true) (args : Array Value) (w : World) : (callFunc f args).run P w = .ok (.enter f args) w := by
  have h1 := hng f fn hf hb
  have h2 : fn.body.isNone = false := by cases h : fn.body <;> simp_all
  simp only [callFunc, Sem.run_bind, run_program, Result.andThen_ok, hf, h1, Bool.false_eq_true, if_false, h2, Sem.run_pure]

theorem enterA_ok {P : Program} {σ : Sg} {ro : Option Nat} {F : Fence} (hF : FOf σ ro F) {ps : Array Tmp} {assign body : Code} {st st1 : St} {id : Nat} {a : Act} {w : World} (hs : SR σ st a w) (hen : enterA ro ps assign body st = some (id, st1)) (fn : FuncId) :
    ∃ (lb : Nat) (mark : List Deferred) (w1 : World) (σ1 : Sg) (p : Plc), (Instr.enterLoop fn a.tmps ps assign body F.round).run P w = .ok (lb, mark) w1 ∧ σ1 id = some p ∧ p.b = lb ∧
      SR σ1 st1 { a with defers := mark ++ a.defers } w1 ∧ Ext σ σ1 st.h st1.h w w1 ∧ st1.n = st.n := by
  cases ro with
  | none =>
    have hF' : F = Fence.wide := hF
    subst hF'
    simp only [enterA, Option.some.injEq, Prod.mk.injEq] at hen
    obtain ⟨rfl, rfl⟩ := hen
    obtain ⟨k1, k2⟩ := hs.h.newObj (o := .dfr false) (ob := .deferred (some [])) rfl rfl
    obtain ⟨k3, k4⟩ := k1.newObj (o := .loop .ready none st.t st.n ps assign body st.h.next) (ob := .loop { state := .ready, pending := none, fn := fn, tmps := a.tmps, params := ps, assign := assign, body := body, defers := w.heap.size }) rfl
      ⟨fn, a.tmps, ⟨w.heap.size, 0, 0⟩, rfl, up_le (k1.fresh _ (Nat.le_refl _)) _ _ (up_same _ _ _), (hs.t.mono k2.le).mono (up_le (k1.fresh _ (Nat.le_refl _)))⟩
    have hle := (k2.trans k4).le
    refine ⟨w.heap.size + 1, [{ target := .collected w.heap.size, args := #[] }], _, _, ⟨w.heap.size + 1, 0, 0⟩, ?_, ?_, rfl, ⟨hs.t.mono hle, k3, ?_⟩, k2.trans k4, rfl⟩
    · have hr : Fence.wide.round = none := rfl
      rw [hr]
      simp only [Instr.enterLoop, Sem.run_bind, run_newObj, Result.andThen_ok, Sem.run_pure, Array.size_push]
    · have : (w.heap.push (.deferred (some []))).size = w.heap.size + 1 := by simp
      rw [← this]
      exact up_same _ _ _
    · refine ⟨⟨⟨w.heap.size, 0, 0⟩, up_le (k1.fresh _ (Nat.le_refl _)) _ _ (up_same _ _ _), rfl⟩, hs.ds.mono hle⟩
  | some l =>
    obtain ⟨pl, hpl, rfl⟩ := hF
    simp only [enterA] at hen
    obtain ⟨r, hr, he⟩ := map_some' hen
    simp only [Prod.mk.injEq] at he
    obtain ⟨rfl, rfl⟩ := he
    obtain ⟨ls, p0, t0, n0, ps0, a0, b0, d0⟩ := r
    obtain ⟨ho, q, hq, f0, tm0, qd, g1, g2, g3⟩ := set_fam hs.h hr
    rw [hpl] at hq; cases hq
    obtain ⟨k3, k4⟩ := hs.h.newObj (o := .loop .ready none st.t st.n ps assign body d0) (ob := .loop { state := .ready, pending := none, fn := fn, tmps := a.tmps, params := ps, assign := assign, body := body, defers := qd.b }) rfl
      ⟨fn, a.tmps, qd, rfl, up_le (hs.h.fresh _ (Nat.le_refl _)) _ _ g2, hs.t.mono (up_le (hs.h.fresh _ (Nat.le_refl _)))⟩
    refine ⟨w.heap.size, [], _, _, ⟨w.heap.size, 0, 0⟩, ?_, up_same _ _ _, rfl, ⟨hs.t.mono k4.le, k3, hs.ds.mono k4.le⟩, k4, rfl⟩
    have hr : (Fence.wide.inRound pl.b).round = some pl.b := rfl
    rw [hr]
    simp only [Instr.enterLoop, Instr.getLoop, Sem.run_bind, run_getObj g1 (by simp), run_newObj, Result.andThen_ok, Sem.run_pure]

theorem evC_ok {P : Program} (hng : NoGo P) (hdraw : DrawOk P) {cv : CV} (hcv : CVok P cv) {ro : Option Nat} {F : Fence} {n : Nat} : ∀ (fuel : Nat) (c : Code) (st : St) (outs : List (Ex × St)), evC P cv ro fuel c st = some outs →
    ∀ (σ : Sg) (a : Act) (w : World) (σ0 : Sg) (h0 : H) (w0 : World), SR σ st a w → FOf σ0 ro F → Ext σ0 σ h0 st.h w0 w → c.wpIn F n P (Post σ0 h0 w0 st.n outs) a w := by
  intro fuel
  induction fuel using Nat.strongRecOn with
  | _ fuel ih =>
    intro c st outs ho σ a w σ0 h0 w0 hs hF0 hE
    have hF := hF0.mono hE.le
    cases fuel with
    | zero => simp [evC] at ho
    | succ m =>
      have ihm := ih m (by omega)
      cases c with
      | skip =>
        simp only [evC, one, Option.some.injEq] at ho; subst ho
        exact wpIn_skip ⟨_, st, List.mem_singleton.2 rfl, rfl, σ, hs, hE, rfl⟩
      | label l =>
        simp only [evC, one, Option.some.injEq] at ho; subst ho
        exact wpIn_label ⟨_, st, List.mem_singleton.2 rfl, rfl, σ, hs, hE, rfl⟩
      | exit id =>
        simp only [evC, one, Option.some.injEq] at ho; subst ho
        exact wpIn_exit ⟨_, st, List.mem_singleton.2 rfl, rfl, σ, hs, hE, rfl⟩
      | goto l =>
        simp only [evC, one, Option.some.injEq] at ho; subst ho
        exact wpIn_goto ⟨_, st, List.mem_singleton.2 rfl, rfl, σ, hs, hE, rfl⟩
      | ret =>
        simp only [evC, one, Option.some.injEq] at ho; subst ho
        exact wpIn_ret ⟨_, st, List.mem_singleton.2 rfl, rfl, σ, hs, hE, rfl⟩
      | region id ops draw =>
        cases draw with
        | false =>
          simp only [evC] at ho
          obtain ⟨l, hl, hall⟩ := bindR_mem ho
          refine wpIn_region ?_
          have := opsA_ok (n := n) (Q := Post σ0 h0 w0 st.n outs) hcv ops.toList 0 st l rfl hl σ a w hs hF hE rfl (fun st' a' w' σ' hm hs' hE' hn' => by
            obtain ⟨os, h1, h2⟩ := hall _ hm
            simp only [one, Option.some.injEq] at h1; subst h1
            exact ⟨.normal, st', h2 _ (List.mem_singleton.2 rfl), rfl, σ', hs', hE', hn'⟩)
          rw [List.range_eq_range']
          simpa using this
        | true =>
          simp only [evC] at ho
          obtain ⟨st', hd, rfl⟩ := map1 ho
          refine wpIn_region_draw fun t => ?_
          have hE2 : Ext σ σ st.h st.h w { w with drawn := w.drawn + 1 } := Ext.of_eq rfl rfl rfl rfl
          refine hdraw cv hcv ro F n ops st st' hd σ a { w with drawn := w.drawn + 1 } ⟨hs.t, hs.h.congr rfl, hs.ds⟩ hF t _ ?_
          intro a' w' σ' hs' hE' hn'
          exact ⟨.normal, st', List.mem_singleton.2 rfl, rfl, σ', hs', (hE.trans hE2).trans hE', hn'⟩
      | seq x y =>
        simp only [evC] at ho
        obtain ⟨l, hl, hall⟩ := bindR_mem ho
        refine wpIn_seq (wpIn_mono (ihm x st l hl σ a w σ0 h0 w0 hs hF0 hE) ?_)
        rintro e a' w' ⟨ex, st', hm, hex, σ', hs', hE', hn'⟩
        obtain ⟨os, h1, h2⟩ := hall _ hm
        cases ex with
        | normal =>
          have : e = .normal := hex
          subst this
          have := ihm y st' os h1 σ' a' w' σ0 h0 w0 hs' hF0 hE'
          exact wpIn_mono this fun e a w hp => by rw [hn'] at hp; exact hp.mono h2
        | ret => have : e = .ret := hex
                 subst this
                 simp only [one, Option.some.injEq] at h1; subst h1
                 exact ⟨_, st', h2 _ (List.mem_singleton.2 rfl), rfl, σ', hs', hE', hn'⟩
        | exit id => have : e = .exit id := hex
                     subst this
                     simp only [one, Option.some.injEq] at h1; subst h1
                     exact ⟨_, st', h2 _ (List.mem_singleton.2 rfl), rfl, σ', hs', hE', hn'⟩
        | goto l => have : e = .goto l := hex
                    subst this
                    simp only [one, Option.some.injEq] at h1; subst h1
                    exact ⟨_, st', h2 _ (List.mem_singleton.2 rfl), rfl, σ', hs', hE', hn'⟩
      | cond c x y =>
        simp only [evC] at ho
        split at ho
        · rename_i hc
          have hv := hs.t.ev _ _ hc
          generalize hg : a.eval c = v at hv
          cases hv
          exact wpIn_cond_true hg (ihm x st outs ho σ a w σ0 h0 w0 hs hF0 hE)
        · rename_i hc
          have hv := hs.t.ev _ _ hc
          generalize hg : a.eval c = v at hv
          cases hv
          exact wpIn_cond_false hg (ihm y st outs ho σ a w σ0 h0 w0 hs hF0 hE)
        · simp at ho
      | block id x =>
        simp only [evC] at ho
        obtain ⟨l, hl, hall⟩ := bindR_mem ho
        refine wpIn_block (wpIn_mono (ihm x st l hl σ a w σ0 h0 w0 hs hF0 hE) ?_)
        rintro e a' w' ⟨ex, st', hm, hex, σ', hs', hE', hn'⟩
        obtain ⟨os, h1, h2⟩ := hall _ hm
        cases ex with
        | normal =>
          have : e = .normal := hex
          subst this
          simp only [one, Option.some.injEq] at h1; subst h1
          exact ⟨_, st', h2 _ (List.mem_singleton.2 rfl), rfl, σ', hs', hE', hn'⟩
        | ret =>
          have : e = .ret := hex
          subst this
          simp only [one, Option.some.injEq] at h1; subst h1
          exact ⟨_, st', h2 _ (List.mem_singleton.2 rfl), rfl, σ', hs', hE', hn'⟩
        | goto l =>
          have : e = .goto l := hex
          subst this
          simp only [one, Option.some.injEq] at h1; subst h1
          exact ⟨_, st', h2 _ (List.mem_singleton.2 rfl), rfl, σ', hs', hE', hn'⟩
        | exit id' =>
          have : e = .exit id' := hex
          subst this
          simp only [Exit.inBlock]
          cases hb : Nat.beq id' id
          · simp only [hb, cond_ff, one, Option.some.injEq] at h1; subst h1
            rw [if_neg (beqN_ne hb)]
            exact ⟨_, st', h2 _ (List.mem_singleton.2 rfl), rfl, σ', hs', hE', hn'⟩
          · simp only [hb, cond_tt, one, Option.some.injEq] at h1; subst h1
            rw [if_pos (beqN hb)]
            exact ⟨_, st', h2 _ (List.mem_singleton.2 rfl), rfl, σ', hs', hE', hn'⟩
      | loop x =>
        have key : ∀ (k : Nat) (st1 : St) (os : List (Ex × St)), k ≤ m + 1 → evC P cv ro k (.loop x) st1 = some os → (∀ y ∈ os, y ∈ outs) → st1.n = st.n → ∀ (σ1 : Sg) (a1 : Act) (w1 : World), SR σ1 st1 a1 w1 → Ext σ0 σ1 h0 st1.h w0 w1 →
            Code.roundsIn F n P x (Post σ0 h0 w0 st.n outs) k a1 w1 := by
          intro k
          induction k with
          | zero => intro st1 os _ h1; simp [evC] at h1
          | succ k ihk =>
            intro st1 os hk h1 hsub hn1 σ1 a1 w1 hs1 hE1
            simp only [evC] at h1
            obtain ⟨l, hl, hall⟩ := bindR_mem h1
            rw [roundsIn_succ]
            refine wpIn_mono (ih k (by omega) x st1 l hl σ1 a1 w1 σ0 h0 w0 hs1 hF0 hE1) ?_
            rintro e a' w' ⟨ex, st', hm, hex, σ', hs', hE', hn'⟩
            obtain ⟨os', h3, h4⟩ := hall _ hm
            cases ex with
            | normal =>
              have : e = .normal := hex
              subst this
              exact ihk st' os' (by omega) h3 (fun y hy => hsub y (h4 y hy)) (hn'.trans hn1) σ' a' w' hs' hE'
            | ret =>
              have : e = .ret := hex
              subst this
              simp only [one, Option.some.injEq] at h3; subst h3
              exact ⟨_, st', hsub _ (h4 _ (List.mem_singleton.2 rfl)), rfl, σ', hs', hE', hn'.trans hn1⟩
            | goto l =>
              have : e = .goto l := hex
              subst this
              simp only [one, Option.some.injEq] at h3; subst h3
              exact ⟨_, st', hsub _ (h4 _ (List.mem_singleton.2 rfl)), rfl, σ', hs', hE', hn'.trans hn1⟩
            | exit id' =>
              have : e = .exit id' := hex
              subst this
              simp only [one, Option.some.injEq] at h3; subst h3
              exact ⟨_, st', hsub _ (h4 _ (List.mem_singleton.2 rfl)), rfl, σ', hs', hE', hn'.trans hn1⟩
        exact wpIn_loop_rounds (m + 1) (key (m + 1) st outs (Nat.le_refl _) ho (fun y hy => hy) rfl σ a w hs hE)
      | scope x =>
        simp only [evC] at ho
        obtain ⟨l, hl, hall⟩ := bindR_mem ho
        refine wpIn_scope (wpIn_mono (ihm x st l hl σ a w σ0 h0 w0 hs hF0 hE) ?_)
        rintro e a' w' ⟨ex, st', hm, hex, σ', hs', hE', hn'⟩
        obtain ⟨os, h1, h2⟩ := hall _ hm
        cases ex with
        | normal =>
          have : e = .normal := hex
          subst this
          simp only [one, Option.some.injEq] at h1; subst h1
          exact ⟨by simp, _, st', h2 _ (List.mem_singleton.2 rfl), rfl, σ', hs', hE', hn'⟩
        | ret =>
          have : e = .ret := hex
          subst this
          simp only [one, Option.some.injEq] at h1; subst h1
          exact ⟨by simp, _, st', h2 _ (List.mem_singleton.2 rfl), rfl, σ', hs', hE', hn'⟩
        | goto l => simp at h1
        | exit id' =>
          have : e = .exit id' := hex
          subst this
          simp only [one, Option.some.injEq] at h1; subst h1
          exact ⟨by simp, _, st', h2 _ (List.mem_singleton.2 rfl), rfl, σ', hs', hE', hn'⟩
      | rangeFunc g ps assign body =>
        simp only [evC] at ho
        split at ho
        · rename_i f first cap hg
          split at ho
          · rename_i id st1 hen
            obtain ⟨l, hl, hall⟩ := bindR_mem ho
            have hgV := hs.t.ev _ _ hg
            refine wpIn_rangeFunc fun fn _ => ?_
            obtain ⟨hbody, hen⟩ := cond_some hen
            obtain ⟨lb, mark, w1, σ1, p, e1, hp, rfl, hs1, hE1, hn1⟩ := enterA_ok (P := P) hF hs hen fn
            generalize hgv : a.eval g = gv at hgV
            cases hgV with
            | @fn _ _ _ fs' cs' hfy k1 k2 k3 k4 =>
              have hfs : VL σ1 first fs'.toList := ⟨by simpa using k1, fun i a v x y => (k2 i a v x (by simpa using y)).mono hE1.le⟩
              have hcs : VL σ1 cap cs'.toList := ⟨by simpa using k3, fun i a v x y => (k4 i a v x (by simpa using y)).mono hE1.le⟩
              have hargs : VL σ1 (first ++ [.fn (.yield id) [] []] ++ cap) (fs' ++ #[Value.func (.yield p.b) #[] #[]] ++ cs').toList := by
                simp only [Array.toList_append]
                exact (hfs.append (.cons (.yield hp) .nil)).append hcs
              have hfine := hcv.func f _ _ _ hl σ1 w1 _ hargs hs1.h
              have hev : #[Operand.const (Value.func (.yield p.b) #[] #[])].map a.eval = #[Value.func (.yield p.b) #[] #[]] := by simp [Act.eval]
              have hres : (resolve a.eval (rangeCall g p.b) 0).run P w1 = .ok { target := .fn (.func f) cs', args := fs' ++ #[Value.func (.yield p.b) #[] #[]] } w1 := by
                simp only [resolve, hgv, Deferred.ofValue, Sem.run_pure, hev]
              cases hfn : P.funcs[f]? with
              | none => simp [hfn] at hbody
              | some fn' =>
                have hb' : fn'.body.isSome = true := by simpa [hfn] using hbody
                have hcall := callFunc_enter hng hfn hb' (fs' ++ #[Value.func (.yield p.b) #[] #[]] ++ cs') w1
                rw [hcall] at hfine
                refine ⟨p.b, mark, w1, _, w1, f, _, w1, e1, hres, fun f' _ => hF.fn f', by simpa only [invoke] using hcall, fun h => by rw [hF.depth] at h; simp at h, ?_⟩
                have h2 := hF.calls (n := n - 1) hfine
                refine ⟨h2.1, fun cs hr => ?_⟩
                obtain ⟨e, w3, fr, ⟨v, rfl, av, h', hm, σ3, hV, hh3, hE3⟩, h3⟩ := h2.2 cs hr
                refine ⟨.returned v, w3, fr, ?_, h3⟩
                obtain ⟨os, q1, q2⟩ := hall _ hm
                simp only at q1
                split at q1
                · rename_i ls p' t' m' ps' a' b' d' hlo
                  obtain ⟨ho', q, hq, f0, tm0, qd, g1, g2, g3⟩ := set_fam hh3 hlo
                  rw [hE3.le _ _ hp] at hq; cases hq
                  have hnb : ls ≠ .busy := by intro e; subst e; simp at q1
                  obtain ⟨s1, s2⟩ := hh3.set_obj (o' := .loop .exhausted p' t' m' ps' a' b' d') (ob := .loop { state := .exhausted, pending := p', fn := f0, tmps := tm0, params := ps', assign := a', body := b', defers := qd.b }) ho' rfl rfl (hE3.le _ _ hp)
                    ⟨f0, tm0, qd, rfl, g2, g3⟩
                  have hend : (Instr.endLoop p.b).run P w3 = .ok p' { w3 with heap := w3.heap.setIfInBounds p.b (.loop { state := .exhausted, pending := p', fn := f0, tmps := tm0, params := ps', assign := a', body := b', defers := qd.b }) } := by
                    have hbz : (ls == LoopState.busy) = false := by cases ls <;> first | rfl | exact absurd rfl hnb
                    simp only [Instr.endLoop, Instr.getLoop, Sem.run_bind, run_getObj g1 (by simp), Result.andThen_ok, Sem.run_pure, hbz, Bool.false_eq_true, if_false, run_setObj g1 (by simp)]
                  refine ⟨p', _, hend, ?_⟩
                  have hsr : SR σ3 { st1 with h := h'.set id (.loop .exhausted p' t' m' ps' a' b' d') } { a with defers := mark ++ a.defers } { w3 with heap := w3.heap.setIfInBounds p.b (.loop { state := .exhausted, pending := p', fn := f0, tmps := tm0, params := ps', assign := a', body := b', defers := qd.b }) } :=
                    ⟨hs1.t.mono hE3.le, s1, hs1.ds.mono hE3.le⟩
                  have hext := ((hE.trans hE1).trans hE3).trans s2
                  have q1' : (match p' with
                      | none => one (.normal, ({ st1 with h := h'.set id (.loop .exhausted p' t' m' ps' a' b' d') } : St))
                      | some c => evC P cv ro m c { st1 with h := h'.set id (.loop .exhausted p' t' m' ps' a' b' d') }) = some os := by
                    cases ls <;> first
                      | exact absurd rfl hnb
                      | (cases p' <;> exact q1)
                  cases p' with
                  | none =>
                    simp only [one, Option.some.injEq] at q1'; subst q1'
                    exact ⟨_, _, q2 _ (List.mem_singleton.2 rfl), rfl, σ3, hsr, hext, hn1⟩
                  | some c =>
                    have := ihm c _ os q1' σ3 _ _ σ0 h0 w0 hsr hF0 hext
                    exact wpIn_mono this fun e a w hp => by rw [show st.n = ({ st1 with h := h'.set id (.loop .exhausted (some c) t' m' ps' a' b' d') } : St).n from hn1.symm]; exact hp.mono q2
                · simp at q1
          · simp at ho
        · simp at ho
      | refuse why => simp [evC] at ho

end Go.Ev

/- Calls, in the walk's own words. No conditions beyond those that each theorem states. -/
namespace Go.Ev

theorem argsTr_get : ∀ (as : List AV) (i : Nat) (t : Tr AV) (j : Nat), (argsTr i as t).get j = if i ≤ j ∧ j < i + as.length then as[j - i]? else t.get j
  | [], i, t, j => by simp only [argsTr, List.length_nil]; rw [if_neg (by omega)]
  | a :: as, i, t, j => by
    simp only [argsTr, argsTr_get as (i + 1) _ j, List.length_cons]
    by_cases h1 : i + 1 ≤ j ∧ j < i + 1 + as.length
    · rw [if_pos h1, if_pos (by omega), show j - i = (j - (i + 1)) + 1 by omega, List.getElem?_cons_succ]
    · rw [if_neg h1, put_get]
      by_cases h2 : j = i
      · subst h2; rw [if_pos rfl, if_pos (by omega)]; simp
      · rw [if_neg h2, if_neg (by omega)]

theorem enter_TR {σ : Sg} {args : List AV} {args' : Array Value} (h : VL σ args args'.toList) (nt : Nat) :
    TR σ (argsTr 0 args .nil) (args.length + (nt - args.length)) (args' ++ Array.replicate (nt - args'.size) undef) := by
  have hl : args.length = args'.size := by simpa using h.1
  refine ⟨by simp; omega, ?_⟩
  intro i
  rw [argsTr_get, Array.getD_eq_getD_getElem?, Array.getElem?_append]
  by_cases hi : i < args.length
  · rw [if_pos (by omega), if_pos (by omega)]
    obtain ⟨v, h1, h2⟩ := h.get (List.getElem?_eq_getElem hi)
    have h1' : args'[i]? = some v := by rw [← Array.getElem?_toList]; exact h1
    rw [h1', Nat.sub_zero, List.getElem?_eq_getElem hi]
    exact h2
  · rw [if_neg (by omega), if_neg (by omega), get_nil]
    rw [Array.getElem?_replicate]
    split
    · exact V.und
    · exact V.und

theorem mapM_run {P : Program} {w : World} {α : Type} {σ : Sg} {f : α → Option AV} {g : α → Sem Value} (hfg : ∀ x a, f x = some a → ∃ v, (g x).run P w = .ok v w ∧ V σ a v) : ∀ (l : List α) (as : List AV), l.mapM f = some as →
    ∃ vs : List Value, (l.mapM g).run P w = .ok vs w ∧ VL σ as vs
  | [], as, h => by simp at h; subst h; exact ⟨[], by simp, .nil⟩
  | x :: l, as, h => by
    rw [List.mapM_cons] at h
    cases h1 : f x with
    | none => simp [h1] at h
    | some a =>
      cases h2 : l.mapM f with
      | none => simp [h1, h2] at h
      | some bs =>
        simp [h1, h2] at h; subst h
        obtain ⟨v, k1, k2⟩ := hfg x a h1
        obtain ⟨vs, k3, k4⟩ := mapM_run hfg l bs h2
        refine ⟨v :: vs, ?_, .cons k2 k4⟩
        rw [List.mapM_cons]
        simp only [Sem.run_bind, k1, Result.andThen_ok, k3, Sem.run_pure]

theorem resultsA_run {P : Program} {σ : Sg} {t : Tr AV} {n : Nat} {h : H} {w : World} {fn : Func} {a : Act} {r : AV} (ht : TR σ t n a.tmps) (hr : HR σ h w) (hres : resultsA P t h fn.results.toList = some r) :
    ∃ v, (results fn a.tmps).run P w = .ok v w ∧ V σ r v := by
  unfold resultsA at hres
  obtain ⟨as, h1, h2⟩ := map_some' hres
  have hfg : ∀ (x : ResultVar) (y : AV), (match x with
      | ResultVar.tmp i => ev t (.tmp i)
      | ResultVar.cell a tt => match ev t (.tmp a) with
        | some (.ptr (some (id, off))) => h.load P tt id off
        | _ => none) = some y → ∃ v, (match x with
      | .tmp t => pure (a.tmps.getD t undef)
      | .cell q tt => do loadVar tt (← asAddr (a.tmps.getD q undef)) : Sem Value).run P w = .ok v w ∧ V σ y v := by
    intro x y hx
    cases x with
    | tmp i => exact ⟨_, rfl, ht.ev _ _ hx⟩
    | cell q tt =>
      simp only at hx
      split at hx
      · rename_i id off hq
        have hV := ht.ev _ _ hq
        have he : a.eval (.tmp q) = a.tmps.getD q undef := rfl
        rw [he] at hV
        generalize hg : a.tmps.getD q undef = v at hV
        cases hV with
        | ptr hp =>
          obtain ⟨z, k1, k2⟩ := hr.load_run (P := P) hx hp
          exact ⟨z, by simp only [hg, asAddr, Sem.run_bind, Sem.run_pure, Result.andThen_ok]; exact k1, k2⟩
      · simp at hx
  obtain ⟨vs, k1, k2⟩ := mapM_run (P := P) (w := w) hfg fn.results.toList as h1
  have hm : (fn.results.mapM fun
      | .tmp t => pure (a.tmps.getD t undef)
      | .cell q tt => do loadVar tt (← asAddr (a.tmps.getD q undef)) : Sem (Array Value)).run P w = .ok vs.toArray w := by
    have e : ∀ (f : ResultVar → Sem Value), fn.results.mapM f = Functor.map List.toArray (fn.results.toList.mapM f) := by
      intro f
      obtain ⟨l⟩ := fn.results
      exact List.mapM_toArray
    rw [e, Sem.run_map, k1]
    rfl
  refine ⟨if h : vs.toArray.size = 1 then vs.toArray[0] else .tuple vs.toArray, ?_, ?_⟩
  · have key : (results fn a.tmps).run P w = (Result.ok vs.toArray w : Result (Array Value)).andThen (fun vs w' => .ok (if h : vs.size = 1 then vs[0] else .tuple vs) w') := by
      rw [← hm]
      simp only [results, Sem.run_bind]
      rfl
    exact key
  · split at h2
    · rename_i v
      subst h2
      obtain ⟨x, l, rfl, e1, e2⟩ := k2.inv_cons
      have := e2.inv_nil; subst this
      simpa using e1
    · rename_i hne
      subst h2
      have hl := k2.1
      by_cases hs : vs.toArray.size = 1
      · exfalso
        have : as.length = 1 := by simp at hs; omega
        match as, this with
        | [v], _ => exact hne v rfl
      · rw [dif_neg hs]
        exact .mk_tup k2

theorem endsOk_cases {e : Ex} (h : endsOk e = true) : e = .normal ∨ e = .ret := by cases e <;> simp_all [endsOk]

/-- A function's body, run on its own frame. -/
theorem bodyA_ok {P : Program} (hng : NoGo P) (hdraw : DrawOk P) {cv : CV} (hcv : CVok P cv) {fuel n : Nat} {fn : Func} {c : Code} {args : List AV} {h : H} {outs : List (Ex × St)} (ho : bodyA P cv fuel fn c args h = some outs) {σ : Sg} {w : World} {args' : Array Value}
    (hv : VL σ args args'.toList) (hr : HR σ h w) : c.wpIn Fence.wide n P (Post σ h w (args.length + (fn.ntmps - args.length)) outs) { tmps := args' ++ Array.replicate (fn.ntmps - args'.size) undef, defers := [] } w :=
  evC_ok hng hdraw hcv (ro := none) fuel c _ outs ho σ _ w σ h w ⟨enter_TR hv _, hr, trivial⟩ rfl (.refl _ _ _)

theorem leaveA_ok {P : Program} (hng : NoGo P) (hdraw : DrawOk P) {cv : CV} (hcv : CVok P cv) {fuel n : Nat} {fn : Func} {a : Act} {t : Tr AV} {N : Nat} {R : Ending → World → Prop} {σ0 : Sg} {h0 : H} {w0 : World} : ∀ (ds : List ADf) (h : H) (outs : List H), leaveA P cv fuel ds h = some outs →
    ∀ (ds' : List Deferred) (σ : Sg) (w : World), DsR σ ds ds' → HR σ h w → TR σ t N a.tmps → Ext σ0 σ h0 h w0 w →
    (∀ h' σ' w', h' ∈ outs → HR σ' h' w' → TR σ' t N a.tmps → Ext σ0 σ' h0 h' w0 w' → ∃ v, (results fn a.tmps).run P w' = .ok v w' ∧ R (.returned v) w') →
    LeavesInM Fence.wide n P fn a.tmps R ds' .returning w
  | [], h, outs, ho, ds', σ, w, hd, hr, ht, hE, hR => by
    cases ds' with
    | cons d ds => exact hd.elim
    | nil =>
      simp only [leaveA, one, Option.some.injEq] at ho; subst ho
      exact hR h σ w (List.mem_singleton.2 rfl) hr ht hE
  | d :: ds, h, outs, ho, ds', σ, w, hd, hr, ht, hE, hR => by
    cases ds' with
    | nil => exact hd.elim
    | cons d' ds' =>
      obtain ⟨hd1, hd2⟩ := hd
      simp only [leaveA] at ho
      unfold DfR at hd1
      cases hdf : d.fn with
      | none =>
        rw [hdf] at hd1 ho
        simp only at hd1 ho
        obtain ⟨q, hq, rfl⟩ := hd1
        split at ho
        · rename_i hob
          obtain ⟨q', hq', hor⟩ := hr.obj _ _ hob
          rw [hq] at hq'; cases hq'
          have hor : w.heap[q.b]? = some (.deferred (some [])) := hor
          obtain ⟨s1, s2⟩ := hr.set_obj (o' := .dfr true) (ob := .deferred none) hob rfl rfl hq rfl
          refine ⟨by simp, .inl ⟨q.b, _, rfl, ?_, leaveA_ok hng hdraw hcv ds _ outs ho ds' σ _ hd2 s1 ht (hE.trans s2) hR⟩⟩
          simp only [Instr.takeDeferred, Sem.run_bind, run_getObj hor (by simp), Result.andThen_ok, run_setObj hor (by simp), Sem.run_pure]
        · simp at ho
      | some f =>
        rw [hdf] at hd1 ho
        simp only at hd1
        obtain ⟨g, cap', rfl, htar, hargs, hcap⟩ := hd1
        simp only at ho
        split at ho
        · rename_i fn' hfn
          split at ho
          · rename_i c hbody
            obtain ⟨l, hl, hall⟩ := bindR_mem ho
            have hall' : VL σ (d.args ++ d.cap) (d'.args ++ cap').toList := by
              simp only [Array.toList_append]; exact hargs.append hcap
            have hcall := callFunc_enter hng hfn (by rw [hbody]; rfl) (d'.args ++ cap') w
            refine ⟨by simp, .inr ⟨fun h => by simp [Fence.wide] at h, .func g, cap', g, d'.args ++ cap', htar, ?_, fun _ _ => trivial, ?_⟩⟩
            · rw [htar]; simpa only [invoke] using hcall
            · have hw := bodyA_ok (n := n - 1) hng hdraw hcv hl hall' hr
              have hD := callsDIn_of_wp (F := Fence.wide) (n := n - 1) (u := .returning) (R := fun e w' => ∃ v h' σ', e = .returned v ∧ (∃ os, leaveA P cv fuel ds h' = some os ∧ ∀ y ∈ os, y ∈ outs) ∧ HR σ' h' w' ∧ Ext σ σ' h h' w w') hfn hbody trivial (wpIn_mono hw ?_)
              · refine ⟨hD.1, fun cc cs hm hroom => ?_⟩
                obtain ⟨e, u', w', fr, ⟨rfl, v, h', σ', rfl, ⟨os, q1, q2⟩, hh', hext⟩, hrest⟩ := hD.2 cc cs hm hroom
                refine ⟨.returned v, _, w', fr, ?_, hrest⟩
                have hset : settle .returning = .returning := rfl
                simp only [hset]
                exact leaveA_ok hng hdraw hcv ds h' os q1 ds' σ' w' (hd2.mono hext.le) hh' (ht.mono hext.le) (hE.trans hext) (fun h'' σ'' w'' hm'' => hR h'' σ'' w'' (q2 _ hm''))
              · rintro e a' w' ⟨ex, st', hm, hex, σ', hs', hE', hn'⟩
                obtain ⟨os, h1, h2⟩ := hall _ hm
                obtain ⟨hend, h1⟩ := cond_some h1
                split at h1
                · rename_i rr hds hres
                  have hde : a'.defers = [] := by
                    have := hs'.ds; rw [hds] at this
                    cases had : a'.defers with
                    | nil => rfl
                    | cons x y => rw [had] at this; exact this.elim
                  obtain ⟨v, k1, k2⟩ := resultsA_run hs'.t hs'.h hres
                  have : bodyPost P fn' (fun e w' => ∃ v h' σ', e = .returned v ∧ (∃ os, leaveA P cv fuel ds h' = some os ∧ ∀ y ∈ os, y ∈ outs) ∧ HR σ' h' w' ∧ Ext σ σ' h h' w w') e a' w' := by
                    rcases endsOk_cases hend with rfl | rfl
                    · have : e = .normal := hex
                      subst this
                      exact ⟨hde, v, k1, v, st'.h, σ', rfl, ⟨os, h1, h2⟩, hs'.h, hE'⟩
                    · have : e = .ret := hex
                      subst this
                      exact ⟨hde, v, k1, v, st'.h, σ', rfl, ⟨os, h1, h2⟩, hs'.h, hE'⟩
                  exact this
                · simp at h1
          · simp at ho
        · simp at ho

end Go.Ev

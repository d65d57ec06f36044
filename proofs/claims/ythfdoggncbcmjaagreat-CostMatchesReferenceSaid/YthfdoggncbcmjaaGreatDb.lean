/- The reference's addition to a list of shares. No conditions beyond those that each theorem states. -/
import Derived.Test.YthfdoggncbcmjaaGreatDa
import Derived.Test.YthfdoggncbcmjaaGreatGh
import Derived.Test.YthfdoggncbcmjaaGreatCd
import Derived.Test.YthfdoggncbcmjaaGreatBc

set_option linter.unusedSimpArgs false
set_option linter.unusedVariables false
set_option linter.unusedSectionVars false

namespace Go.Proofs
open Go.Ev
set_option maxRecDepth 100000

theorem Tryz.buildS31e : buildSliceA Tryz.prog 31 0 [] = some (2, []) := by kernel_rfl

theorem one_rowsZ (ss : List Sh) : (ss.map Sh.cells).flatten.all oneC = true := by
  induction ss with
  | nil => rfl
  | cons w ws ih => rw [List.map_cons, List.flatten_cons, List.all_append, ih, Bool.and_true]; rfl

theorem out_top {Z : Nat} {h : H} {v : AV} {s : Nat} {rows : List (List AV)} (hv : OutAt Z h v s rows) (n : Nat) : eqTop (n + 1) v v = true := by
  rcases hv with ⟨_, ⟨_, e⟩ | ⟨id, fam, x, y, _, e, _⟩⟩
  · subst e; rfl
  · subst e; exact eqTop_slice _ _ _ _ _ _

theorem eqTop_nilZ (n : Nat) : eqTop (n + 1) (.slice none 0 0 (some 0)) (.slice none 0 0 (some 0)) = true := rfl

/-- Three appends: a list, a share, a list. -/
theorem three_app {base lw : Nat} {O : Tr AO} {F : Tr (Nat × Nat)} (hlw : lw ≤ base) {a b : AV} {A B : List Sh} (new : Sh)
    (ha : RdZ ⟨O, F, base, lw⟩ a A) (hb : RdZ ⟨O, F, base, lw⟩ b B) (hlA : A.length ≤ 1000) (hlB : B.length ≤ 1000) :
    ∃ v4 o4 f4 n4 v9 o9 f9 n9 v13 o13 f13 n13,
      appendA Tryz.prog ⟨Tr.put O base (some (.cells [] base)), Tr.put F base (some (base, base)), base + 15, lw⟩ 31 31 (.slice (some (base, 0)) 0 2 (some 0)) a = some (v4, ⟨o4, f4, n4, lw⟩) ∧
      appendA Tryz.prog ⟨Tr.put o4 (base + 8) (some (.cells new.cells (base + 8))), Tr.put f4 (base + 8) (some (base + 8, base + 8)), n4, lw⟩ 31 31 v4 (.slice (some (base + 8, 0)) 1 2 (some 1)) = some (v9, ⟨o9, f9, n9, lw⟩) ∧
      appendA Tryz.prog ⟨o9, f9, n9, lw⟩ 31 31 v9 b = some (v13, ⟨o13, f13, n13, lw⟩) ∧
      OutAt (base + 15) ⟨o13, f13, n13, lw⟩ v13 2 ((A ++ new :: B).map Sh.cells) ∧ (∀ n, eqTop (n + 1) v4 v4 = true) ∧ (∀ n, eqTop (n + 1) v9 v9 = true) ∧ (∀ n, eqTop (n + 1) v13 v13 = true) := by
  obtain ⟨O1, hO1⟩ : ∃ X, X = Tr.put O base (some (.cells [] base)) := ⟨_, rfl⟩
  obtain ⟨F1, hF1⟩ : ∃ X, X = Tr.put F base (some (base, base)) := ⟨_, rfl⟩
  rw [← hO1, ← hF1]
  have hov1 : Over base ⟨O, F, base, lw⟩ ⟨O1, F1, base + 15, lw⟩ := ⟨by show base ≤ base + 15; omega, fun j hj => by rw [hO1, put_other _ _ (by omega)], fun j hj => by rw [hF1, put_other _ _ (by omega)], fun _ => rfl⟩
  have hlit : rowO O1 base = some [] := by unfold rowO; rw [hO1, put_same]; rfl
  have ha1 := rdS_over hov1 ha
  have hb1 := rdS_over hov1 hb
  -- the first
  obtain ⟨v4, o4, f4, n4, h4, hv4, hov4, ht4⟩ : ∃ v4 o4 f4 n4, appendA Tryz.prog ⟨O1, F1, base + 15, lw⟩ 31 31 (.slice (some (base, 0)) 0 2 (some 0)) a = some (v4, ⟨o4, f4, n4, lw⟩) ∧
      ((A = [] ∧ v4 = .slice (some (base, 0)) 0 2 (some 0)) ∨ OutAt (base + 15) ⟨o4, f4, n4, lw⟩ v4 2 (A.map Sh.cells) ∧ A ≠ []) ∧ Over (base + 15) ⟨O1, F1, base + 15, lw⟩ ⟨o4, f4, n4, lw⟩ ∧ ∀ n, eqTop (n + 1) v4 v4 = true := by
    by_cases hA : A = []
    · subst hA
      exact ⟨_, _, _, _, append_none (P := Tryz.prog) Tryz.underlying31 Tryz.underlying31 Tryz.info65z Tryz.zero65z rfl rfl (show (2 : Nat) ≠ 0 by decide) (by decide) ha1 (by omega), .inl ⟨rfl, rfl⟩, Over.refl _ _, fun n => eqTop_slice _ _ _ _ _ _⟩
    · have hne : A.map Sh.cells ≠ [] := by simpa using hA
      have hout := lit_out (Z := base + 15) (h := ⟨O1, F1, base + 15, lw⟩) (s := 2) (new := A.map Sh.cells) (Nat.le_refl _) ha1.wide hne
      refine ⟨_, _, _, _, append_lit (P := Tryz.prog) Tryz.underlying31 Tryz.underlying31 Tryz.info65z Tryz.zero65z rfl rfl (show (2 : Nat) ≠ 0 by decide) (by decide) hlit ha1 hne (by rw [List.length_map]; omega), .inr ⟨hout, hA⟩, ?_, out_top hout⟩
      exact ⟨Nat.le_succ _, fun j hj => put_other _ _ (by simp only at hj ⊢; omega), fun j hj => put_other _ _ (by simp only at hj ⊢; omega), fun _ => rfl⟩
  have hn4 : base + 15 ≤ n4 := hov4.next
  -- the second
  obtain ⟨O8, hO8⟩ : ∃ X, X = Tr.put o4 (base + 8) (some (.cells new.cells (base + 8))) := ⟨_, rfl⟩
  obtain ⟨F8, hF8⟩ : ∃ X, X = Tr.put f4 (base + 8) (some (base + 8, base + 8)) := ⟨_, rfl⟩
  have g8 : rowO O8 (base + 8) = some new.cells := by unfold rowO; rw [hO8, put_same]; rfl
  have gl8 : rowO O8 base = some [] := rowO_of hlit (by rw [hO8, put_other _ _ (by omega)]; exact hov4.objs base (by omega))
  have hy : RdS ⟨O8, F8, n4, lw⟩ (.slice (some (base + 8, 0)) 1 2 (some 1)) 2 ([new].map Sh.cells) := rd_one g8 (by omega) rfl
  have hb8 : RdZ ⟨O8, F8, n4, lw⟩ b B := by
    refine rdS_over (h := ⟨O, F, base, lw⟩) (h' := ⟨O8, F8, n4, lw⟩) ⟨by show base ≤ n4; omega, fun j hj => ?_, fun j hj => ?_, fun _ => rfl⟩ hb
    · simp only at hj ⊢; rw [hO8, put_other _ _ (by omega), hov4.objs j (by omega)]; exact hov1.objs j hj
    · simp only at hj ⊢; rw [hF8, put_other _ _ (by omega), hov4.fams j (by omega)]; exact hov1.fams j hj
  obtain ⟨v9, o9, f9, n9, h9, hv9, hov9⟩ : ∃ v9 o9 f9 n9, appendA Tryz.prog ⟨O8, F8, n4, lw⟩ 31 31 v4 (.slice (some (base + 8, 0)) 1 2 (some 1)) = some (v9, ⟨o9, f9, n9, lw⟩) ∧ OutAt (base + 15) ⟨o9, f9, n9, lw⟩ v9 2 ((A ++ [new]).map Sh.cells) ∧ Over (base + 15) ⟨O8, F8, n4, lw⟩ ⟨o9, f9, n9, lw⟩ := by
    rcases hv4 with ⟨rfl, rfl⟩ | ⟨hout, hA⟩
    · have hout := lit_out (Z := base + 15) (h := ⟨O8, F8, n4, lw⟩) (s := 2) (new := [new].map Sh.cells) hn4 hy.wide (by simp)
      refine ⟨_, _, _, _, append_lit (P := Tryz.prog) Tryz.underlying31 Tryz.underlying31 Tryz.info65z Tryz.zero65z rfl rfl (show (2 : Nat) ≠ 0 by decide) (by decide) gl8 hy (by simp) (by simp), hout, ?_⟩
      exact ⟨Nat.le_succ _, fun j hj => put_other _ _ (by simp only at hj ⊢; omega), fun j hj => put_other _ _ (by simp only at hj ⊢; omega), fun _ => rfl⟩
    · have hout8 : OutAt (base + 15) ⟨O8, F8, n4, lw⟩ v4 2 (A.map Sh.cells) := hout.keep (fun j hj _ => by simp only; rw [hO8, put_other _ _ (by omega)]) (fun j hj _ => by simp only; rw [hF8, put_other _ _ (by omega)]) (Nat.le_refl _)
      obtain ⟨v', ⟨o', f', n', l'⟩, g1, g2, g3, _⟩ := append_gen (P := Tryz.prog) (st := 31) (xt := 31) Tryz.underlying31 Tryz.info65z Tryz.zero65z rfl rfl (show (2 : Nat) ≠ 0 by decide) (by decide) hout8 hn4 (appended_rd Tryz.underlying31 hy) hy.wide (one_rowsZ [new]) (by simp) (by rw [List.length_map]; omega) (by simp)
      have hl' : l' = lw := g3.low (by show lw ≤ base + 15; omega)
      subst hl'
      exact ⟨v', o', f', n', g1, by rw [List.map_append]; exact g2, g3⟩
  have hn9 : n4 ≤ n9 := hov9.next
  have hb9 : RdZ ⟨o9, f9, n9, lw⟩ b B := by
    refine rdS_over (h := ⟨O, F, base, lw⟩) (h' := ⟨o9, f9, n9, lw⟩) ⟨by show base ≤ n9; omega, fun j hj => ?_, fun j hj => ?_, fun _ => rfl⟩ hb
    · simp only at hj ⊢; rw [hov9.objs j (by omega), hO8, put_other _ _ (by omega), hov4.objs j (by omega)]; exact hov1.objs j hj
    · simp only at hj ⊢; rw [hov9.fams j (by omega), hF8, put_other _ _ (by omega), hov4.fams j (by omega)]; exact hov1.fams j hj
  -- the third
  obtain ⟨v13, o13, f13, n13, h13, hv13⟩ : ∃ v13 o13 f13 n13, appendA Tryz.prog ⟨o9, f9, n9, lw⟩ 31 31 v9 b = some (v13, ⟨o13, f13, n13, lw⟩) ∧ OutAt (base + 15) ⟨o13, f13, n13, lw⟩ v13 2 ((A ++ new :: B).map Sh.cells) := by
    by_cases hB : B = []
    · subst hB
      obtain ⟨x, y, z, hv⟩ := (OutC.rd (.inl hv9)).len
      refine ⟨v9, o9, f9, n9, ?_, hv9⟩
      rw [hv]
      exact append_none (P := Tryz.prog) Tryz.underlying31 Tryz.underlying31 Tryz.info65z Tryz.zero65z rfl rfl (show (2 : Nat) ≠ 0 by decide) (by decide) hb9 (by rw [List.length_map, List.length_append]; simp; omega)
    · obtain ⟨v', ⟨o', f', n', l'⟩, g1, g2, g3, _⟩ := append_gen (P := Tryz.prog) (st := 31) (xt := 31) Tryz.underlying31 Tryz.info65z Tryz.zero65z rfl rfl (show (2 : Nat) ≠ 0 by decide) (by decide) hv9 (by show base + 15 ≤ n9; omega) (appended_rd Tryz.underlying31 hb9) hb9.wide (one_rowsZ B) (by simpa using hB) (by rw [List.length_map, List.length_append]; simp; omega) (by rw [List.length_map]; omega)
      have hl' : l' = lw := g3.low (by show lw ≤ base + 15; omega)
      subst hl'
      refine ⟨v', o', f', n', g1, ?_⟩
      have e : A ++ new :: B = (A ++ [new]) ++ B := by simp
      rw [e, List.map_append]; exact g2
  rw [hO8, hF8] at h9
  exact ⟨v4, o4, f4, n4, v9, o9, f9, n9, v13, o13, f13, n13, h4, h9, h13, hv13, ht4, out_top hv9, out_top hv13⟩


/-- The slices that add is called with. -/
def LvOk (h : H) (lv : AV) (l : List Sh) : Prop := (l = [] ∧ lv = .slice none 0 0 (some 0)) ∨ ∃ (s : Sh) (id : Nat), l = [s] ∧ lv = .slice (some (id, 0)) 1 2 none ∧ rowO h.objs id = some s.cells ∧ id < h.next
noncomputable def addZ (h : H) (lv : AV) (l : List Sh) (p : List Nat) (a : Int) : AV × H := if a = 0 then (lv, { h with low := minN h.low h.next }) else backZ h (addN p a l)

theorem sl_nil0 (h : H) : sliceA Tryz.prog h 31 (.slice none 0 0 (some 0)) none (some (.int .i64 0)) none = some (.slice none 0 0 (some 0)) := by kernel_rfl
theorem sl_nil1 (h : H) : sliceA Tryz.prog h 31 (.slice none 0 0 (some 0)) (some (.int .i64 0)) none none = some (.slice none 0 0 (some 0)) := by kernel_rfl
theorem sl_one0 (h : H) (id : Nat) : sliceA Tryz.prog h 31 (.slice (some (id, 0)) 1 2 none) none (some (.int .i64 0)) none = some (.slice (some (id, 0)) 0 2 none) := by kernel_rfl
theorem sl_one1 (h : H) (id : Nat) : sliceA Tryz.prog h 31 (.slice (some (id, 0)) 1 2 none) none (some (.int .i64 1)) none = some (.slice (some (id, 0)) 1 2 none) := by kernel_rfl
theorem sl_one2 (h : H) (id : Nat) : sliceA Tryz.prog h 31 (.slice (some (id, 0)) 1 2 none) (some (.int .i64 0)) none none = some (.slice (some (id, 0)) 1 2 none) := by kernel_rfl
theorem sl_one3 (h : H) (id : Nat) : sliceA Tryz.prog h 31 (.slice (some (id, 0)) 1 2 none) (some (.int .i64 1)) none none = some (.slice (some (id, 2)) 0 2 none) := by kernel_rfl

theorem rdz_none (h : H) (o : Option (Nat × Nat)) (e : Nat) (c : Option Nat) : RdZ h (.slice o 0 e c) [] := ⟨fun r hr => (List.not_mem_nil hr).elim, .inl ⟨rfl, _, _, _, rfl⟩⟩
theorem rdz_one {h : H} {id : Nat} {s : Sh} (hr : rowO h.objs id = some s.cells) (hid : id < h.next) : RdZ h (.slice (some (id, 0)) 1 2 none) [s] := by
  refine ⟨fun x hx => by rw [List.mem_singleton.1 hx]; rfl, .inr ⟨id, 0, none, s.cells, rfl, hid, hr, by simp [Sh.cells], by simp [Sh.cells]⟩⟩

set_option maxHeartbeats 8000000 in
theorem Tryz.add43 (l : List Sh) (p : List Nat) (a : Int) (hb : ∀ s ∈ l, -9223372036854775808 ≤ s.am + a ∧ s.am + a ≤ 9223372036854775807) (lv : AV) (h : H) (hl : LvOk h lv l) :
    ACalls Tryz.prog (.func 45) [lv, .str p, .int .i64 a] h (fun v h' => (v, h') = addZ h lv l p a) := by
  refine ACalls.body (n := 67) Tryz.nogo Tryz.func45 rfl rfl ?_
  rw [argF3]
  (repeat refine AWp.seq ?_); change AWp _ _ _ _ _; refine AWp.region ?_; (repeat (first | refine AOps.v rfl rfl rfl rfl rfl (by simp only [evS, cond_tt, cond_ff, absV, depthV, Nat.reduceEqDiff, Nat.reduceLT, ↓reduceIte, Option.map_some, Option.bind_some, List.toList_toArray]; rfl) ?_ | refine AOps.s rfl rfl rfl ?_ | refine AOps.u rfl rfl rfl rfl (by simp only [evS, cond_tt, cond_ff, absV, depthV, Nat.reduceEqDiff, Nat.reduceLT, ↓reduceIte, Option.map_some, Option.bind_some, List.toList_toArray]; rfl) ?_)); refine AOps.nil ?_
  cases e0 : decide (a = 0)
  case true =>
    (repeat refine AWp.seq ?_); change AWp _ _ _ _ _; refine AWp.region ?_; (repeat (first | refine AOps.v rfl rfl rfl rfl rfl (by simp only [evS, cond_tt, cond_ff, absV, depthV, Nat.reduceEqDiff, Nat.reduceLT, ↓reduceIte, Option.map_some, Option.bind_some, List.toList_toArray, e0]; rfl) ?_ | refine AOps.s rfl rfl rfl ?_ | refine AOps.u rfl rfl rfl rfl (by simp only [evS, cond_tt, cond_ff, absV, depthV, Nat.reduceEqDiff, Nat.reduceLT, ↓reduceIte, Option.map_some, Option.bind_some, List.toList_toArray, e0]; rfl) ?_)); refine AOps.nil ?_
    (repeat refine AWp.seq ?_); change AWp _ _ _ _ _; refine AWp.yes (by rfl) (by rfl) ?_
    (repeat refine AWp.seq ?_); change AWp _ _ _ _ _; refine AWp.region ?_; (repeat (first | refine AOps.v rfl rfl rfl rfl rfl (by simp only [evS, cond_tt, cond_ff, absV, depthV, Nat.reduceEqDiff, Nat.reduceLT, ↓reduceIte, Option.map_some, Option.bind_some, List.toList_toArray]; rfl) ?_ | refine AOps.s rfl rfl rfl ?_ | refine AOps.u rfl rfl rfl rfl (by simp only [evS, cond_tt, cond_ff, absV, depthV, Nat.reduceEqDiff, Nat.reduceLT, ↓reduceIte, Option.map_some, Option.bind_some, List.toList_toArray]; rfl) ?_)); refine AOps.nil ?_
    refine AWp.ret ?_
    (try simp only [OutOf, Then, Round, NoGoto])
    refine ⟨rfl, _, rfl, lv, by rfl, .inl ?_⟩
    unfold addZ
    rw [if_pos (of_decide_eq_true e0)]
  have ha0 := of_decide_eq_false e0
  (repeat refine AWp.seq ?_); change AWp _ _ _ _ _; refine AWp.region ?_; (repeat (first | refine AOps.v rfl rfl rfl rfl rfl (by simp only [evS, cond_tt, cond_ff, absV, depthV, Nat.reduceEqDiff, Nat.reduceLT, ↓reduceIte, Option.map_some, Option.bind_some, List.toList_toArray, e0]; rfl) ?_ | refine AOps.s rfl rfl rfl ?_ | refine AOps.u rfl rfl rfl rfl (by simp only [evS, cond_tt, cond_ff, absV, depthV, Nat.reduceEqDiff, Nat.reduceLT, ↓reduceIte, Option.map_some, Option.bind_some, List.toList_toArray, e0]; rfl) ?_)); refine AOps.nil ?_
  (repeat refine AWp.seq ?_); change AWp _ _ _ _ _; refine AWp.no (by rfl) (by rfl) (AWp.skip ?_)
  (repeat refine AWp.seq ?_); change AWp _ _ _ _ _; refine AWp.region ?_; (repeat (first | refine AOps.v rfl rfl rfl rfl rfl (by simp only [evS, cond_tt, cond_ff, absV, depthV, Nat.reduceEqDiff, Nat.reduceLT, ↓reduceIte, Option.map_some, Option.bind_some, List.toList_toArray]; rfl) ?_ | refine AOps.s rfl rfl rfl ?_ | refine AOps.u rfl rfl rfl rfl (by simp only [evS, cond_tt, cond_ff, absV, depthV, Nat.reduceEqDiff, Nat.reduceLT, ↓reduceIte, Option.map_some, Option.bind_some, List.toList_toArray]; rfl) ?_)); refine AOps.nil ?_
  obtain ⟨O1, hO1⟩ : ∃ X, X = Tr.put h.objs h.next (some (.cells [] h.next)) := ⟨_, rfl⟩
  obtain ⟨F1, hF1⟩ : ∃ X, X = Tr.put h.fams h.next (some (h.next, h.next)) := ⟨_, rfl⟩
  have hlit : rowO O1 h.next = some [] := by unfold rowO; rw [hO1, put_same]; rfl
  have hold : ∀ j, j < h.next → O1.get j = h.objs.get j := fun j hj => by rw [hO1, put_other _ _ (by omega)]
  rcases hl with ⟨rfl, rfl⟩ | ⟨s, id, rfl, rfl, hrow, hid⟩
  · (repeat refine AWp.seq ?_)
    refine AWp.block (AWp.loop (fun m st => m = 0 ∧ Fr st [(0, .slice none 0 0 (some 0)), (1, .str p), (2, .int .i64 a), (7, .int .i64 0)] 67 ⟨h.objs, h.fams, h.next, h.next⟩ []) 0 ?_ ?_)
    · exact ⟨rfl, rfl, rfl, rfl, rfl, rfl, rfl, rfl, trivial⟩
    rintro m st ⟨rfl, hF⟩
    obtain ⟨f, rfl⟩ := hF.open
    clear hF
    simp only [updL]
    (repeat refine AWp.seq ?_); change AWp _ _ _ _ _; refine AWp.region ?_; (repeat (first | refine AOps.v rfl rfl rfl rfl rfl (by simp only [evS, cond_tt, cond_ff, absV, depthV, Nat.reduceEqDiff, Nat.reduceLT, ↓reduceIte, Option.map_some, Option.bind_some, List.toList_toArray, len_slice Tryz.underlying31]; rfl) ?_ | refine AOps.s rfl rfl rfl ?_ | refine AOps.u rfl rfl rfl rfl (by simp only [evS, cond_tt, cond_ff, absV, depthV, Nat.reduceEqDiff, Nat.reduceLT, ↓reduceIte, Option.map_some, Option.bind_some, List.toList_toArray, len_slice Tryz.underlying31]; rfl) ?_)); refine AOps.nil ?_
    (repeat refine AWp.seq ?_); change AWp _ _ _ _ _; refine AWp.no (by rfl) (by rfl) ?_
    refine AWp.exit ?_
    (repeat refine AWp.seq ?_); change AWp _ _ _ _ _; refine AWp.region ?_; (repeat (first | refine AOps.v rfl rfl rfl rfl rfl (by simp only [evS, cond_tt, cond_ff, absV, depthV, Nat.reduceEqDiff, Nat.reduceLT, ↓reduceIte, Option.map_some, Option.bind_some, List.toList_toArray, op_buildSlice, partsA_nil, Tryz.buildS31e, H.lay]; rfl) ?_ | refine AOps.s rfl rfl rfl ?_ | refine AOps.u rfl rfl rfl rfl (by simp only [evS, cond_tt, cond_ff, absV, depthV, Nat.reduceEqDiff, Nat.reduceLT, ↓reduceIte, Option.map_some, Option.bind_some, List.toList_toArray, op_buildSlice, partsA_nil, Tryz.buildS31e, H.lay]; rfl) ?_))
    rw [← hO1, ← hF1]
    have happ := append_none (P := Tryz.prog) (st := 31) (xt := 31) (h := ⟨O1, F1, h.next + 1, h.next⟩) (o := some (h.next, 0)) (n := 0) (es := 2) (c := some 0) Tryz.underlying31 Tryz.underlying31 Tryz.info65z Tryz.zero65z rfl rfl (show (2 : Nat) ≠ 0 by decide) (by decide) (rdz_none _ none 0 (some 0)) (by omega)
    (repeat (first | refine AOps.v rfl rfl rfl rfl rfl (by simp only [evS, cond_tt, cond_ff, absV, depthV, Nat.reduceEqDiff, Nat.reduceLT, ↓reduceIte, Option.map_some, Option.bind_some, List.toList_toArray, bi_append, happ]; rfl) ?_ | refine AOps.s rfl rfl rfl ?_ | refine AOps.u rfl rfl rfl rfl (by simp only [evS, cond_tt, cond_ff, absV, depthV, Nat.reduceEqDiff, Nat.reduceLT, ↓reduceIte, Option.map_some, Option.bind_some, List.toList_toArray, bi_append, happ]; rfl) ?_))
    refine AOps.nil ?_
    (repeat refine AWp.seq ?_); change AWp _ _ _ _ _; refine AWp.region ?_; (repeat (first | refine AOps.v rfl rfl rfl rfl rfl (by simp only [evS, cond_tt, cond_ff, absV, depthV, Nat.reduceEqDiff, Nat.reduceLT, ↓reduceIte, Option.map_some, Option.bind_some, List.toList_toArray, len_slice Tryz.underlying31]; rfl) ?_ | refine AOps.s rfl rfl rfl ?_ | refine AOps.u rfl rfl rfl rfl (by simp only [evS, cond_tt, cond_ff, absV, depthV, Nat.reduceEqDiff, Nat.reduceLT, ↓reduceIte, Option.map_some, Option.bind_some, List.toList_toArray, len_slice Tryz.underlying31]; rfl) ?_)); refine AOps.nil ?_
    (repeat refine AWp.seq ?_); change AWp _ _ _ _ _; refine AWp.no (by rfl) (by rfl) (AWp.skip ?_)
    obtain ⟨v4, o4, f4, n4, v9, o9, f9, n9, v13, o13, f13, n13, h4, h9, h13, hv13, ht4, ht9, ht13⟩ := three_app (base := h.next + 1) (lw := h.next) (O := O1) (F := F1) (by omega) (⟨p, a⟩ : Sh) (rdz_none _ none 0 (some 0)) (rdz_none _ none 0 (some 0)) (by simp) (by simp)
    obtain ⟨O2, hO2⟩ : ∃ X, X = Tr.put O1 (h.next + 1) (some (.cells [] (h.next + 1))) := ⟨_, rfl⟩
    obtain ⟨F2, hF2⟩ : ∃ X, X = Tr.put F1 (h.next + 1) (some (h.next + 1, h.next + 1)) := ⟨_, rfl⟩
    obtain ⟨O8, hO8⟩ : ∃ X, X = Tr.put o4 (h.next + 1 + 8) (some (.cells (⟨p, a⟩ : Sh).cells (h.next + 1 + 8))) := ⟨_, rfl⟩
    obtain ⟨F8, hF8⟩ : ∃ X, X = Tr.put f4 (h.next + 1 + 8) (some (h.next + 1 + 8, h.next + 1 + 8)) := ⟨_, rfl⟩
    rw [← hO2, ← hF2] at h4
    rw [← hO8, ← hF8] at h9
    (repeat refine AWp.seq ?_)
    refine AWp.draws (cv := cv0) cv0_ok rfl (L := 15) rfl (ms := [0, 0, 0, 6, 15, 0, 0, 96, 224, 511, 0, 0, 3072, 8191, 16383]) (by kernel_rfl) (by kernel_rfl) ?_
    refine DRun.a rfl rfl rfl rfl rfl rfl (allocS10 (by simp only [partsA_nil]) Tryz.buildS31e) ?_
    (repeat (first | refine DRun.r rfl rfl rfl rfl rfl rfl (by simp only [evS, cond_tt, cond_ff, absV, depthV, Nat.reduceEqDiff, Nat.reduceLT, ↓reduceIte, Option.map_some, Option.bind_some, List.toList_toArray, addX_nil, updo_some, updo_none, orU_some, List.filter_nil, op_slice, evo, sl_nil0]; rfl) ?_ | refine DRun.s rfl rfl rfl ?_))
    refine DRun.e1 (c1 := ⟨O2, F2, h.next + 1 + 15, h.next⟩) rfl rfl rfl rfl rfl rfl (by rw [hO2, hF2]; rfl) (by simp only [evS, cond_tt, cond_ff, absV, depthV, Nat.reduceEqDiff, Nat.reduceLT, ↓reduceIte, Option.map_some, Option.bind_some, List.toList_toArray, bi_append, h4]; rfl) ?_
    (repeat (first | refine DRun.r rfl rfl rfl rfl rfl rfl (by simp only [evS, cond_tt, cond_ff, absV, depthV, Nat.reduceEqDiff, Nat.reduceLT, ↓reduceIte, Option.map_some, Option.bind_some, List.toList_toArray, addX_nil, updo_some, updo_none, orU_some, List.filter_nil, op_build, partsA_cons, partsA_nil, build36z]; rfl) ?_ | refine DRun.s rfl rfl rfl ?_))
    refine DRun.a rfl rfl rfl rfl rfl rfl (allocS10 (by simp only [partsA_cons, partsA_nil, updo_some, updo_none, evS, cond_tt, cond_ff, absV, depthV, Nat.reduceEqDiff, Nat.reduceLT, ↓reduceIte, Option.map_some, Option.bind_some, List.toList_toArray]) (buildS31z p a)) ?_
    refine DRun.e1 (c1 := ⟨O8, F8, n4, h.next⟩) rfl rfl rfl rfl rfl rfl (by rw [hO8, hF8]; kernel_rfl) (by simp only [evS, cond_tt, cond_ff, absV, depthV, Nat.reduceEqDiff, Nat.reduceLT, ↓reduceIte, Option.map_some, Option.bind_some, List.toList_toArray, updo_some, updo_none, orU_some, Nat.reduceAdd, bi_append, h9]; rfl) ?_
    (repeat (first | refine DRun.r rfl rfl rfl rfl rfl rfl (by simp only [evS, cond_tt, cond_ff, absV, depthV, Nat.reduceEqDiff, Nat.reduceLT, ↓reduceIte, Option.map_some, Option.bind_some, List.toList_toArray, addX_nil, updo_some, updo_none, orU_some, List.filter_nil, op_slice, evo, sl_nil1]; rfl) ?_ | refine DRun.s rfl rfl rfl ?_))
    refine DRun.e1 (c1 := ⟨o9, f9, n9, h.next⟩) rfl rfl rfl rfl rfl rfl (by kernel_rfl) (by simp only [evS, cond_tt, cond_ff, absV, depthV, Nat.reduceEqDiff, Nat.reduceLT, ↓reduceIte, Option.map_some, Option.bind_some, List.toList_toArray, updo_some, updo_none, orU_some, Nat.reduceAdd, bi_append, h13]; rfl) ?_
    (repeat (first | refine DRun.r rfl rfl rfl rfl rfl rfl (by simp only [evS, cond_tt, cond_ff, absV, depthV, Nat.reduceEqDiff, Nat.reduceLT, ↓reduceIte, Option.map_some, Option.bind_some, List.toList_toArray, addX_nil, updo_some, updo_none, orU_some, List.filter_nil]; rfl) ?_ | refine DRun.s rfl rfl rfl ?_))
    refine DRun.nil ⟨?_, ?_⟩
    · (intro y hy; simp only [List.nil_append, List.cons_append, List.mem_cons, List.not_mem_nil, or_false] at hy; (repeat' (rcases hy with hy | hy)) <;> (try subst hy) <;> refine ⟨by first | exact eqTop_str _ _ | exact eqTop_int _ _ _ | exact eqTop_bool _ _ | exact eqTop_ptr _ _ _ | exact eqTop_map _ _ | exact eqTop_slice _ _ _ _ _ _ | exact ht4 _ | exact ht9 _ | exact ht13 _ | exact eqTop_sh _ _ | exact eqTop_nilZ _ | (simp only [eqTop_agg, eqTop_tup, eqTop, all2, eqL_eq, eqI_eq, kEq, decide_true, Bool.and_self, Bool.and_true]; done), ?_⟩ <;> (simp only [phOk]; refine ⟨?_, ?_, ?_, ?_, trivial⟩) <;> first | exact trivial | exact Or.inl rfl | exact Or.inr ⟨_, by simp only [evS, cond_tt, cond_ff, absV, depthV, Nat.reduceEqDiff, Nat.reduceLT, ↓reduceIte, Option.map_some, Option.bind_some, List.toList_toArray, addX_nil, updo_some, updo_none, orU_some, List.filter_nil, op_slice, evo, sl_nil0, sl_nil1, op_build, partsA_cons, partsA_nil, build36z]; rfl⟩)
    simp only [updo_some, updo_none, orU_some]
    generalize hX : addX _ _ _ _ = X
    have hXe : X = ⟨o13, f13, n13, h.next⟩ := by rw [← hX]; kernel_rfl
    subst hXe
    show AWp _ _ _ _ _
    refine AWp.ret ?_
    (try simp only [OutOf, Then, Round, NoGoto])
    obtain ⟨fam, hcan⟩ := canon_out hv13 (show h.next ≤ h.next + 1 + 15 by omega) (by intro r hr; obtain ⟨t, _, rfl⟩ := List.mem_map.1 hr; exact plain_cellsZ t) (by simp) [] rfl 2
    refine ⟨rfl, _, rfl, v13, by rfl, .inr ⟨_, _, _, hcan, rfl, ?_⟩⟩
    unfold addZ
    rw [if_neg ha0]
    simp [backZ, addN]
  · have k0 : s.cells[0]? = some (.str s.pt) := rfl
    have k1 : s.cells[1]? = some (.int .i64 s.am) := rfl
    have hrd1 : RdZ ⟨O1, F1, h.next + 1, h.next⟩ (.slice (some (id, 0)) 1 2 none) [s] := rdz_one (rowO_of hrow (hold id hid)) (by show id < h.next + 1; omega)
    have happ := append_lit (s := 2) (P := Tryz.prog) (st := 31) (xt := 31) Tryz.underlying31 Tryz.underlying31 Tryz.info65z Tryz.zero65z rfl rfl (show (2 : Nat) ≠ 0 by decide) (by decide) hlit hrd1 (by simp) (by simp)
    obtain ⟨O3, hO3⟩ : ∃ X, X = Tr.put O1 (h.next + 1) (some (.cells s.cells (h.next + 1))) := ⟨_, rfl⟩
    obtain ⟨F3, hF3⟩ : ∃ X, X = Tr.put F1 (h.next + 1) (some (h.next + 1, h.next + 1)) := ⟨_, rfl⟩
    have happ : appendA Tryz.prog ⟨O1, F1, h.next + 1, h.next⟩ 31 31 (.slice (some (h.next, 0)) 0 2 (some 0)) (.slice (some (id, 0)) 1 2 none) = some (.slice (some (h.next + 1, 0)) 1 2 none, ⟨O3, F3, h.next + 1 + 1, h.next⟩) := by
      rw [happ, hO3, hF3]
      simp only [H.newCells, List.map_cons, List.map_nil, List.flatten_cons, List.flatten_nil, List.append_nil, List.length_singleton]
    have g3 : O3.get (h.next + 1) = some (.cells s.cells (h.next + 1)) := by rw [hO3]; exact put_same _ _ _
    have gf3 : F3.get (h.next + 1) = some (h.next + 1, h.next + 1) := by rw [hF3]; exact put_same _ _ _
    have hrow3 : rowO O3 id = some s.cells := rowO_of hrow (by rw [hO3, put_other _ _ (by omega)]; exact hold id hid)
    have hrd3 : RdZ ⟨O3, F3, h.next + 1 + 1, h.next⟩ (.slice (some (id, 0)) 1 2 none) [s] := rdz_one hrow3 (by show id < h.next + 1 + 1; omega)
    have hia : ∀ (x : Nat), indexAddrA Tryz.prog 31 (.slice (some (x, 0)) 1 2 none) (.int .i64 0) = some (.ptr (some (x, 0))) := fun x => by
      have := iaddr_slice (P := Tryz.prog) Tryz.underlying31 Tryz.size65 (id := x) (off := 0) (len := 1) (cap := none) (k := .i64) (i := 0) (by decide)
      simpa using this
    cases e1 : ltL s.pt p
    · (repeat refine AWp.seq ?_)
      refine AWp.block (AWp.loop (fun m st => m = 0 ∧ Fr st [(0, .slice (some (id, 0)) 1 2 none), (1, .str p), (2, .int .i64 a), (7, .int .i64 0)] 67 ⟨h.objs, h.fams, h.next, h.next⟩ []) 0 ?_ ?_)
      · exact ⟨rfl, rfl, rfl, rfl, rfl, rfl, rfl, rfl, trivial⟩
      rintro m st ⟨rfl, hF⟩
      obtain ⟨f, rfl⟩ := hF.open
      clear hF
      simp only [updL]
      (repeat refine AWp.seq ?_); change AWp _ _ _ _ _; refine AWp.region ?_; (repeat (first | refine AOps.v rfl rfl rfl rfl rfl (by simp only [evS, cond_tt, cond_ff, absV, depthV, Nat.reduceEqDiff, Nat.reduceLT, ↓reduceIte, Option.map_some, Option.bind_some, List.toList_toArray, Tryz.tw, H.lay, Nat.zero_add, Nat.add_zero, ↓reduceIte, List.getElem?_cons_zero, List.getElem?_cons_succ, len_slice Tryz.underlying31, hia, Tryz.fa65_0, hrow, k0, bin_slss, e1]; rfl) ?_ | refine AOps.s rfl rfl rfl ?_ | refine AOps.u rfl rfl rfl rfl (by simp only [evS, cond_tt, cond_ff, absV, depthV, Nat.reduceEqDiff, Nat.reduceLT, ↓reduceIte, Option.map_some, Option.bind_some, List.toList_toArray, Tryz.tw, H.lay, Nat.zero_add, Nat.add_zero, ↓reduceIte, List.getElem?_cons_zero, List.getElem?_cons_succ, len_slice Tryz.underlying31, hia, Tryz.fa65_0, hrow, k0, bin_slss, e1]; rfl) ?_)); refine AOps.nil ?_
      (repeat refine AWp.seq ?_); change AWp _ _ _ _ _; refine AWp.no (by rfl) (by rfl) ?_
      refine AWp.exit ?_
      (repeat refine AWp.seq ?_); change AWp _ _ _ _ _; refine AWp.region ?_; (repeat (first | refine AOps.v rfl rfl rfl rfl rfl (by simp only [evS, cond_tt, cond_ff, absV, depthV, Nat.reduceEqDiff, Nat.reduceLT, ↓reduceIte, Option.map_some, Option.bind_some, List.toList_toArray, op_buildSlice, partsA_nil, Tryz.buildS31e, H.lay]; rfl) ?_ | refine AOps.s rfl rfl rfl ?_ | refine AOps.u rfl rfl rfl rfl (by simp only [evS, cond_tt, cond_ff, absV, depthV, Nat.reduceEqDiff, Nat.reduceLT, ↓reduceIte, Option.map_some, Option.bind_some, List.toList_toArray, op_buildSlice, partsA_nil, Tryz.buildS31e, H.lay]; rfl) ?_))
      rw [← hO1, ← hF1]
      (repeat (first | refine AOps.v rfl rfl rfl rfl rfl (by simp only [evS, cond_tt, cond_ff, absV, depthV, Nat.reduceEqDiff, Nat.reduceLT, ↓reduceIte, Option.map_some, Option.bind_some, List.toList_toArray, bi_append, happ]; rfl) ?_ | refine AOps.s rfl rfl rfl ?_ | refine AOps.u rfl rfl rfl rfl (by simp only [evS, cond_tt, cond_ff, absV, depthV, Nat.reduceEqDiff, Nat.reduceLT, ↓reduceIte, Option.map_some, Option.bind_some, List.toList_toArray, bi_append, happ]; rfl) ?_))
      refine AOps.nil ?_
      cases e2 : decide (s.pt = p)
      · (repeat refine AWp.seq ?_); change AWp _ _ _ _ _; refine AWp.region ?_; (repeat (first | refine AOps.v rfl rfl rfl rfl rfl (by simp only [evS, cond_tt, cond_ff, absV, depthV, Nat.reduceEqDiff, Nat.reduceLT, ↓reduceIte, Option.map_some, Option.bind_some, List.toList_toArray, Tryz.tw, H.lay, Nat.zero_add, Nat.add_zero, ↓reduceIte, List.getElem?_cons_zero, List.getElem?_cons_succ, len_slice Tryz.underlying31, hia, Tryz.fa65_0, hrow3, k0, e2]; rfl) ?_ | refine AOps.s rfl rfl rfl ?_ | refine AOps.u rfl rfl rfl rfl (by simp only [evS, cond_tt, cond_ff, absV, depthV, Nat.reduceEqDiff, Nat.reduceLT, ↓reduceIte, Option.map_some, Option.bind_some, List.toList_toArray, Tryz.tw, H.lay, Nat.zero_add, Nat.add_zero, ↓reduceIte, List.getElem?_cons_zero, List.getElem?_cons_succ, len_slice Tryz.underlying31, hia, Tryz.fa65_0, hrow3, k0, e2]; rfl) ?_)); refine AOps.nil ?_
        (repeat refine AWp.seq ?_); change AWp _ _ _ _ _; refine AWp.no (by rfl) (by rfl) (AWp.skip ?_)
        obtain ⟨v4, o4, f4, n4, v9, o9, f9, n9, v13, o13, f13, n13, h4, h9, h13, hv13, ht4, ht9, ht13⟩ := three_app (base := h.next + 1 + 1) (lw := h.next) (O := O3) (F := F3) (by omega) (⟨p, a⟩ : Sh) (rdz_none _ (some (id, 0)) 2 none) hrd3 (by simp) (by simp)
        obtain ⟨O2, hO2⟩ : ∃ X, X = Tr.put O3 (h.next + 1 + 1) (some (.cells [] (h.next + 1 + 1))) := ⟨_, rfl⟩
        obtain ⟨F2, hF2⟩ : ∃ X, X = Tr.put F3 (h.next + 1 + 1) (some (h.next + 1 + 1, h.next + 1 + 1)) := ⟨_, rfl⟩
        obtain ⟨O8, hO8⟩ : ∃ X, X = Tr.put o4 (h.next + 1 + 1 + 8) (some (.cells (⟨p, a⟩ : Sh).cells (h.next + 1 + 1 + 8))) := ⟨_, rfl⟩
        obtain ⟨F8, hF8⟩ : ∃ X, X = Tr.put f4 (h.next + 1 + 1 + 8) (some (h.next + 1 + 1 + 8, h.next + 1 + 1 + 8)) := ⟨_, rfl⟩
        rw [← hO2, ← hF2] at h4
        rw [← hO8, ← hF8] at h9
        (repeat refine AWp.seq ?_)
        refine AWp.draws (cv := cv0) cv0_ok rfl (L := 15) rfl (ms := [0, 0, 0, 6, 15, 0, 0, 96, 224, 511, 0, 0, 3072, 8191, 16383]) (by kernel_rfl) (by kernel_rfl) ?_
        refine DRun.a rfl rfl rfl rfl rfl rfl (allocS10 (by simp only [partsA_nil]) Tryz.buildS31e) ?_
        (repeat (first | refine DRun.r rfl rfl rfl rfl rfl rfl (by simp only [evS, cond_tt, cond_ff, absV, depthV, Nat.reduceEqDiff, Nat.reduceLT, ↓reduceIte, Option.map_some, Option.bind_some, List.toList_toArray, addX_nil, updo_some, updo_none, orU_some, List.filter_nil, op_slice, evo, sl_one0]; rfl) ?_ | refine DRun.s rfl rfl rfl ?_))
        refine DRun.e1 (c1 := ⟨O2, F2, h.next + 1 + 1 + 15, h.next⟩) rfl rfl rfl rfl rfl rfl (by rw [hO2, hF2]; rfl) (by simp only [evS, cond_tt, cond_ff, absV, depthV, Nat.reduceEqDiff, Nat.reduceLT, ↓reduceIte, Option.map_some, Option.bind_some, List.toList_toArray, bi_append, h4]; rfl) ?_
        (repeat (first | refine DRun.r rfl rfl rfl rfl rfl rfl (by simp only [evS, cond_tt, cond_ff, absV, depthV, Nat.reduceEqDiff, Nat.reduceLT, ↓reduceIte, Option.map_some, Option.bind_some, List.toList_toArray, addX_nil, updo_some, updo_none, orU_some, List.filter_nil, op_build, partsA_cons, partsA_nil, build36z]; rfl) ?_ | refine DRun.s rfl rfl rfl ?_))
        refine DRun.a rfl rfl rfl rfl rfl rfl (allocS10 (by simp only [partsA_cons, partsA_nil, updo_some, updo_none, evS, cond_tt, cond_ff, absV, depthV, Nat.reduceEqDiff, Nat.reduceLT, ↓reduceIte, Option.map_some, Option.bind_some, List.toList_toArray]) (buildS31z p a)) ?_
        refine DRun.e1 (c1 := ⟨O8, F8, n4, h.next⟩) rfl rfl rfl rfl rfl rfl (by rw [hO8, hF8]; kernel_rfl) (by simp only [evS, cond_tt, cond_ff, absV, depthV, Nat.reduceEqDiff, Nat.reduceLT, ↓reduceIte, Option.map_some, Option.bind_some, List.toList_toArray, updo_some, updo_none, orU_some, Nat.reduceAdd, bi_append, h9]; rfl) ?_
        (repeat (first | refine DRun.r rfl rfl rfl rfl rfl rfl (by simp only [evS, cond_tt, cond_ff, absV, depthV, Nat.reduceEqDiff, Nat.reduceLT, ↓reduceIte, Option.map_some, Option.bind_some, List.toList_toArray, addX_nil, updo_some, updo_none, orU_some, List.filter_nil, op_slice, evo, sl_one2]; rfl) ?_ | refine DRun.s rfl rfl rfl ?_))
        refine DRun.e1 (c1 := ⟨o9, f9, n9, h.next⟩) rfl rfl rfl rfl rfl rfl (by kernel_rfl) (by simp only [evS, cond_tt, cond_ff, absV, depthV, Nat.reduceEqDiff, Nat.reduceLT, ↓reduceIte, Option.map_some, Option.bind_some, List.toList_toArray, updo_some, updo_none, orU_some, Nat.reduceAdd, bi_append, h13]; rfl) ?_
        (repeat (first | refine DRun.r rfl rfl rfl rfl rfl rfl (by simp only [evS, cond_tt, cond_ff, absV, depthV, Nat.reduceEqDiff, Nat.reduceLT, ↓reduceIte, Option.map_some, Option.bind_some, List.toList_toArray, addX_nil, updo_some, updo_none, orU_some, List.filter_nil]; rfl) ?_ | refine DRun.s rfl rfl rfl ?_))
        refine DRun.nil ⟨?_, ?_⟩
        · (intro y hy; simp only [List.nil_append, List.cons_append, List.mem_cons, List.not_mem_nil, or_false] at hy; (repeat' (rcases hy with hy | hy)) <;> (try subst hy) <;> refine ⟨by first | exact eqTop_str _ _ | exact eqTop_int _ _ _ | exact eqTop_bool _ _ | exact eqTop_ptr _ _ _ | exact eqTop_map _ _ | exact eqTop_slice _ _ _ _ _ _ | exact ht4 _ | exact ht9 _ | exact ht13 _ | exact eqTop_sh _ _ | exact eqTop_nilZ _ | (simp only [eqTop_agg, eqTop_tup, eqTop, all2, eqL_eq, eqI_eq, kEq, decide_true, Bool.and_self, Bool.and_true]; done), ?_⟩ <;> (simp only [phOk]; refine ⟨?_, ?_, ?_, ?_, trivial⟩) <;> first | exact trivial | exact Or.inl rfl | exact Or.inr ⟨_, by simp only [evS, cond_tt, cond_ff, absV, depthV, Nat.reduceEqDiff, Nat.reduceLT, ↓reduceIte, Option.map_some, Option.bind_some, List.toList_toArray, addX_nil, updo_some, updo_none, orU_some, List.filter_nil, op_slice, evo, sl_one0, sl_one2, op_build, partsA_cons, partsA_nil, build36z]; rfl⟩)
        simp only [updo_some, updo_none, orU_some]
        generalize hX : addX _ _ _ _ = X
        have hXe : X = ⟨o13, f13, n13, h.next⟩ := by rw [← hX]; kernel_rfl
        subst hXe
        show AWp _ _ _ _ _
        refine AWp.ret ?_
        (try simp only [OutOf, Then, Round, NoGoto])
        obtain ⟨fam, hcan⟩ := canon_out hv13 (show h.next ≤ h.next + 1 + 1 + 15 by omega) (by intro r hr; obtain ⟨t, _, rfl⟩ := List.mem_map.1 hr; exact plain_cellsZ t) (by simp) [] rfl 2
        refine ⟨rfl, _, rfl, v13, by rfl, .inr ⟨_, _, _, hcan, rfl, ?_⟩⟩
        unfold addZ
        rw [if_neg ha0]
        have e2' := of_decide_eq_false e2
        simp [backZ, addN, e1, e2']
      · -- the same party
        have e2' := of_decide_eq_true e2
        have hadd := bin_add (P := Tryz.prog) (t := 3) (a := s.am) (b := a) (hb s (by simp))
        have hrowx : rowO O3 (h.next + 1) = some s.cells := by unfold rowO; rw [g3]; rfl
        (repeat refine AWp.seq ?_); change AWp _ _ _ _ _; refine AWp.region ?_; (repeat (first | refine AOps.v rfl rfl rfl rfl rfl (by simp only [evS, cond_tt, cond_ff, absV, depthV, Nat.reduceEqDiff, Nat.reduceLT, ↓reduceIte, Option.map_some, Option.bind_some, List.toList_toArray, Tryz.tw, H.lay, Nat.zero_add, Nat.add_zero, ↓reduceIte, List.getElem?_cons_zero, List.getElem?_cons_succ, len_slice Tryz.underlying31, hia, Tryz.fa65_0, hrow3, k0, e2]; rfl) ?_ | refine AOps.s rfl rfl rfl ?_ | refine AOps.u rfl rfl rfl rfl (by simp only [evS, cond_tt, cond_ff, absV, depthV, Nat.reduceEqDiff, Nat.reduceLT, ↓reduceIte, Option.map_some, Option.bind_some, List.toList_toArray, Tryz.tw, H.lay, Nat.zero_add, Nat.add_zero, ↓reduceIte, List.getElem?_cons_zero, List.getElem?_cons_succ, len_slice Tryz.underlying31, hia, Tryz.fa65_0, hrow3, k0, e2]; rfl) ?_)); refine AOps.nil ?_
        (repeat refine AWp.seq ?_); change AWp _ _ _ _ _; refine AWp.yes (by rfl) (by rfl) ?_
        (repeat refine AWp.seq ?_); change AWp _ _ _ _ _; refine AWp.region ?_; (repeat (first | refine AOps.v rfl rfl rfl rfl rfl (by simp only [evS, cond_tt, cond_ff, absV, depthV, Nat.reduceEqDiff, Nat.reduceLT, ↓reduceIte, Option.map_some, Option.bind_some, List.toList_toArray, Tryz.tw, H.lay, Nat.zero_add, Nat.add_zero, ↓reduceIte, List.getElem?_cons_zero, List.getElem?_cons_succ, hia, Tryz.fa65_1, hrowx, k1, hadd]; rfl) ?_ | refine AOps.s rfl rfl rfl ?_ | refine AOps.u rfl rfl rfl rfl (by simp only [evS, cond_tt, cond_ff, absV, depthV, Nat.reduceEqDiff, Nat.reduceLT, ↓reduceIte, Option.map_some, Option.bind_some, List.toList_toArray, Tryz.tw, H.lay, Nat.zero_add, Nat.add_zero, ↓reduceIte, List.getElem?_cons_zero, List.getElem?_cons_succ, hia, Tryz.fa65_1, hrowx, k1, hadd]; rfl) ?_))
        refine AOps.st rfl rfl rfl (by simp only [evS, cond_tt, cond_ff, absV, depthV, Nat.reduceEqDiff, Nat.reduceLT, ↓reduceIte, Option.map_some, Option.bind_some, List.toList_toArray]; rfl) (by simp only [evS, cond_tt, cond_ff, absV, depthV, Nat.reduceEqDiff, Nat.reduceLT, ↓reduceIte, Option.map_some, Option.bind_some, List.toList_toArray]; rfl) (by exact Tryz.size3) g3 gf3 (by rfl) (by rfl) (cs' := [.str s.pt, .int .i64 (s.am + a)]) (by rfl) (minN_left (show h.next ≤ h.next + 1 by omega)) ?_
        refine AOps.nil ?_
        (repeat refine AWp.seq ?_); change AWp _ _ _ _ _; refine AWp.region ?_; (repeat (first | refine AOps.v rfl rfl rfl rfl rfl (by simp only [evS, cond_tt, cond_ff, absV, depthV, Nat.reduceEqDiff, Nat.reduceLT, ↓reduceIte, Option.map_some, Option.bind_some, List.toList_toArray]; rfl) ?_ | refine AOps.s rfl rfl rfl ?_ | refine AOps.u rfl rfl rfl rfl (by simp only [evS, cond_tt, cond_ff, absV, depthV, Nat.reduceEqDiff, Nat.reduceLT, ↓reduceIte, Option.map_some, Option.bind_some, List.toList_toArray]; rfl) ?_)); refine AOps.nil ?_
        refine AWp.ret ?_
        (try simp only [OutOf, Then, Round, NoGoto])
        have hout : OutAt (h.next + 1) ⟨Tr.put O3 (h.next + 1) (some (.cells [.str s.pt, .int .i64 (s.am + a)] (h.next + 1))), F3, h.next + 1 + 1, h.next⟩ (.slice (some (h.next + 1, 0)) 1 2 none) 2 ([(⟨s.pt, s.am + a⟩ : Sh)].map Sh.cells) :=
          ⟨fun r hr => by rw [List.mem_singleton.1 hr]; rfl, .inr ⟨h.next + 1, h.next + 1, h.next + 1, h.next + 1, by simp, rfl, put_same _ _ _, gf3, .inl rfl, Nat.le_refl _, Nat.le_refl _, Nat.le_refl _, Nat.le_refl _, Nat.lt_succ_self _, Nat.lt_succ_self _, Nat.lt_succ_self _, Nat.lt_succ_self _⟩⟩
        obtain ⟨fam, hcan⟩ := canon_out hout (show h.next ≤ h.next + 1 by omega) (by intro r hr; obtain ⟨t, _, rfl⟩ := List.mem_map.1 hr; exact plain_cellsZ t) (by simp) [] rfl 2
        refine ⟨rfl, _, rfl, .slice (some (h.next + 1, 0)) 1 2 none, by rfl, .inr ⟨_, _, _, hcan, rfl, ?_⟩⟩
        unfold addZ
        rw [if_neg ha0]
        simp [backZ, addN, e2', ltL_irrefl]
    · (repeat refine AWp.seq ?_)
      refine AWp.block (AWp.loop (fun m st => (m = 1 ∧ Fr st [(0, .slice (some (id, 0)) 1 2 none), (1, .str p), (2, .int .i64 a), (7, .int .i64 0)] 67 ⟨h.objs, h.fams, h.next, h.next⟩ []) ∨ (m = 0 ∧ Fr st [(0, .slice (some (id, 0)) 1 2 none), (1, .str p), (2, .int .i64 a), (7, .int .i64 1)] 67 ⟨h.objs, h.fams, h.next, h.next⟩ [])) 1 ?_ ?_)
      · exact .inl ⟨rfl, rfl, rfl, rfl, rfl, rfl, rfl, rfl, trivial⟩
      rintro m st (⟨rfl, hF⟩ | ⟨rfl, hF⟩)
      · obtain ⟨f, rfl⟩ := hF.open
        clear hF
        simp only [updL]
        (repeat refine AWp.seq ?_); change AWp _ _ _ _ _; refine AWp.region ?_; (repeat (first | refine AOps.v rfl rfl rfl rfl rfl (by simp only [evS, cond_tt, cond_ff, absV, depthV, Nat.reduceEqDiff, Nat.reduceLT, ↓reduceIte, Option.map_some, Option.bind_some, List.toList_toArray, Tryz.tw, H.lay, Nat.zero_add, Nat.add_zero, ↓reduceIte, List.getElem?_cons_zero, List.getElem?_cons_succ, len_slice Tryz.underlying31, hia, Tryz.fa65_0, hrow, k0, bin_slss, e1]; rfl) ?_ | refine AOps.s rfl rfl rfl ?_ | refine AOps.u rfl rfl rfl rfl (by simp only [evS, cond_tt, cond_ff, absV, depthV, Nat.reduceEqDiff, Nat.reduceLT, ↓reduceIte, Option.map_some, Option.bind_some, List.toList_toArray, Tryz.tw, H.lay, Nat.zero_add, Nat.add_zero, ↓reduceIte, List.getElem?_cons_zero, List.getElem?_cons_succ, len_slice Tryz.underlying31, hia, Tryz.fa65_0, hrow, k0, bin_slss, e1]; rfl) ?_)); refine AOps.nil ?_
        (repeat refine AWp.seq ?_); change AWp _ _ _ _ _; refine AWp.yes (by rfl) (by rfl) (AWp.skip ?_)
        (repeat refine AWp.seq ?_)
        refine AWp.block ?_
        (repeat refine AWp.seq ?_); change AWp _ _ _ _ _; refine AWp.region ?_; (repeat (first | refine AOps.v rfl rfl rfl rfl rfl (by simp only [evS, cond_tt, cond_ff, absV, depthV, Nat.reduceEqDiff, Nat.reduceLT, ↓reduceIte, Option.map_some, Option.bind_some, List.toList_toArray, bin_add (show -9223372036854775808 ≤ (0 : Int) + 1 ∧ (0 : Int) + 1 ≤ 9223372036854775807 from ⟨by omega, by omega⟩)]; rfl) ?_ | refine AOps.s rfl rfl rfl ?_ | refine AOps.u rfl rfl rfl rfl (by simp only [evS, cond_tt, cond_ff, absV, depthV, Nat.reduceEqDiff, Nat.reduceLT, ↓reduceIte, Option.map_some, Option.bind_some, List.toList_toArray, bin_add (show -9223372036854775808 ≤ (0 : Int) + 1 ∧ (0 : Int) + 1 ≤ 9223372036854775807 from ⟨by omega, by omega⟩)]; rfl) ?_)); refine AOps.nil ?_
        exact ⟨0, by omega, .inr ⟨rfl, rfl, rfl, rfl, rfl, rfl, rfl, rfl, trivial⟩⟩
      obtain ⟨f, rfl⟩ := hF.open
      clear hF
      simp only [updL]
      (repeat refine AWp.seq ?_); change AWp _ _ _ _ _; refine AWp.region ?_; (repeat (first | refine AOps.v rfl rfl rfl rfl rfl (by simp only [evS, cond_tt, cond_ff, absV, depthV, Nat.reduceEqDiff, Nat.reduceLT, ↓reduceIte, Option.map_some, Option.bind_some, List.toList_toArray, Tryz.tw, H.lay, Nat.zero_add, Nat.add_zero, ↓reduceIte, List.getElem?_cons_zero, List.getElem?_cons_succ, len_slice Tryz.underlying31]; rfl) ?_ | refine AOps.s rfl rfl rfl ?_ | refine AOps.u rfl rfl rfl rfl (by simp only [evS, cond_tt, cond_ff, absV, depthV, Nat.reduceEqDiff, Nat.reduceLT, ↓reduceIte, Option.map_some, Option.bind_some, List.toList_toArray, Tryz.tw, H.lay, Nat.zero_add, Nat.add_zero, ↓reduceIte, List.getElem?_cons_zero, List.getElem?_cons_succ, len_slice Tryz.underlying31]; rfl) ?_)); refine AOps.nil ?_
      (repeat refine AWp.seq ?_); change AWp _ _ _ _ _; refine AWp.no (by rfl) (by rfl) ?_
      refine AWp.exit ?_
      (repeat refine AWp.seq ?_); change AWp _ _ _ _ _; refine AWp.region ?_; (repeat (first | refine AOps.v rfl rfl rfl rfl rfl (by simp only [evS, cond_tt, cond_ff, absV, depthV, Nat.reduceEqDiff, Nat.reduceLT, ↓reduceIte, Option.map_some, Option.bind_some, List.toList_toArray, op_buildSlice, partsA_nil, Tryz.buildS31e, H.lay]; rfl) ?_ | refine AOps.s rfl rfl rfl ?_ | refine AOps.u rfl rfl rfl rfl (by simp only [evS, cond_tt, cond_ff, absV, depthV, Nat.reduceEqDiff, Nat.reduceLT, ↓reduceIte, Option.map_some, Option.bind_some, List.toList_toArray, op_buildSlice, partsA_nil, Tryz.buildS31e, H.lay]; rfl) ?_))
      rw [← hO1, ← hF1]
      (repeat (first | refine AOps.v rfl rfl rfl rfl rfl (by simp only [evS, cond_tt, cond_ff, absV, depthV, Nat.reduceEqDiff, Nat.reduceLT, ↓reduceIte, Option.map_some, Option.bind_some, List.toList_toArray, bi_append, happ]; rfl) ?_ | refine AOps.s rfl rfl rfl ?_ | refine AOps.u rfl rfl rfl rfl (by simp only [evS, cond_tt, cond_ff, absV, depthV, Nat.reduceEqDiff, Nat.reduceLT, ↓reduceIte, Option.map_some, Option.bind_some, List.toList_toArray, bi_append, happ]; rfl) ?_))
      refine AOps.nil ?_
      (repeat refine AWp.seq ?_); change AWp _ _ _ _ _; refine AWp.region ?_; (repeat (first | refine AOps.v rfl rfl rfl rfl rfl (by simp only [evS, cond_tt, cond_ff, absV, depthV, Nat.reduceEqDiff, Nat.reduceLT, ↓reduceIte, Option.map_some, Option.bind_some, List.toList_toArray, Tryz.tw, H.lay, Nat.zero_add, Nat.add_zero, ↓reduceIte, List.getElem?_cons_zero, List.getElem?_cons_succ, len_slice Tryz.underlying31]; rfl) ?_ | refine AOps.s rfl rfl rfl ?_ | refine AOps.u rfl rfl rfl rfl (by simp only [evS, cond_tt, cond_ff, absV, depthV, Nat.reduceEqDiff, Nat.reduceLT, ↓reduceIte, Option.map_some, Option.bind_some, List.toList_toArray, Tryz.tw, H.lay, Nat.zero_add, Nat.add_zero, ↓reduceIte, List.getElem?_cons_zero, List.getElem?_cons_succ, len_slice Tryz.underlying31]; rfl) ?_)); refine AOps.nil ?_
      (repeat refine AWp.seq ?_); change AWp _ _ _ _ _; refine AWp.no (by rfl) (by rfl) (AWp.skip ?_)
      obtain ⟨v4, o4, f4, n4, v9, o9, f9, n9, v13, o13, f13, n13, h4, h9, h13, hv13, ht4, ht9, ht13⟩ := three_app (base := h.next + 1 + 1) (lw := h.next) (O := O3) (F := F3) (by omega) (⟨p, a⟩ : Sh) hrd3 (rdz_none _ (some (id, 2)) 2 none) (by simp) (by simp)
      obtain ⟨O2, hO2⟩ : ∃ X, X = Tr.put O3 (h.next + 1 + 1) (some (.cells [] (h.next + 1 + 1))) := ⟨_, rfl⟩
      obtain ⟨F2, hF2⟩ : ∃ X, X = Tr.put F3 (h.next + 1 + 1) (some (h.next + 1 + 1, h.next + 1 + 1)) := ⟨_, rfl⟩
      obtain ⟨O8, hO8⟩ : ∃ X, X = Tr.put o4 (h.next + 1 + 1 + 8) (some (.cells (⟨p, a⟩ : Sh).cells (h.next + 1 + 1 + 8))) := ⟨_, rfl⟩
      obtain ⟨F8, hF8⟩ : ∃ X, X = Tr.put f4 (h.next + 1 + 1 + 8) (some (h.next + 1 + 1 + 8, h.next + 1 + 1 + 8)) := ⟨_, rfl⟩
      rw [← hO2, ← hF2] at h4
      rw [← hO8, ← hF8] at h9
      (repeat refine AWp.seq ?_)
      refine AWp.draws (cv := cv0) cv0_ok rfl (L := 15) rfl (ms := [0, 0, 0, 6, 15, 0, 0, 96, 224, 511, 0, 0, 3072, 8191, 16383]) (by kernel_rfl) (by kernel_rfl) ?_
      refine DRun.a rfl rfl rfl rfl rfl rfl (allocS10 (by simp only [partsA_nil]) Tryz.buildS31e) ?_
      (repeat (first | refine DRun.r rfl rfl rfl rfl rfl rfl (by simp only [evS, cond_tt, cond_ff, absV, depthV, Nat.reduceEqDiff, Nat.reduceLT, ↓reduceIte, Option.map_some, Option.bind_some, List.toList_toArray, addX_nil, updo_some, updo_none, orU_some, List.filter_nil, op_slice, evo, sl_one1]; rfl) ?_ | refine DRun.s rfl rfl rfl ?_))
      refine DRun.e1 (c1 := ⟨O2, F2, h.next + 1 + 1 + 15, h.next⟩) rfl rfl rfl rfl rfl rfl (by rw [hO2, hF2]; rfl) (by simp only [evS, cond_tt, cond_ff, absV, depthV, Nat.reduceEqDiff, Nat.reduceLT, ↓reduceIte, Option.map_some, Option.bind_some, List.toList_toArray, bi_append, h4]; rfl) ?_
      (repeat (first | refine DRun.r rfl rfl rfl rfl rfl rfl (by simp only [evS, cond_tt, cond_ff, absV, depthV, Nat.reduceEqDiff, Nat.reduceLT, ↓reduceIte, Option.map_some, Option.bind_some, List.toList_toArray, addX_nil, updo_some, updo_none, orU_some, List.filter_nil, op_build, partsA_cons, partsA_nil, build36z]; rfl) ?_ | refine DRun.s rfl rfl rfl ?_))
      refine DRun.a rfl rfl rfl rfl rfl rfl (allocS10 (by simp only [partsA_cons, partsA_nil, updo_some, updo_none, evS, cond_tt, cond_ff, absV, depthV, Nat.reduceEqDiff, Nat.reduceLT, ↓reduceIte, Option.map_some, Option.bind_some, List.toList_toArray]) (buildS31z p a)) ?_
      refine DRun.e1 (c1 := ⟨O8, F8, n4, h.next⟩) rfl rfl rfl rfl rfl rfl (by rw [hO8, hF8]; kernel_rfl) (by simp only [evS, cond_tt, cond_ff, absV, depthV, Nat.reduceEqDiff, Nat.reduceLT, ↓reduceIte, Option.map_some, Option.bind_some, List.toList_toArray, updo_some, updo_none, orU_some, Nat.reduceAdd, bi_append, h9]; rfl) ?_
      (repeat (first | refine DRun.r rfl rfl rfl rfl rfl rfl (by simp only [evS, cond_tt, cond_ff, absV, depthV, Nat.reduceEqDiff, Nat.reduceLT, ↓reduceIte, Option.map_some, Option.bind_some, List.toList_toArray, addX_nil, updo_some, updo_none, orU_some, List.filter_nil, op_slice, evo, sl_one3]; rfl) ?_ | refine DRun.s rfl rfl rfl ?_))
      refine DRun.e1 (c1 := ⟨o9, f9, n9, h.next⟩) rfl rfl rfl rfl rfl rfl (by kernel_rfl) (by simp only [evS, cond_tt, cond_ff, absV, depthV, Nat.reduceEqDiff, Nat.reduceLT, ↓reduceIte, Option.map_some, Option.bind_some, List.toList_toArray, updo_some, updo_none, orU_some, Nat.reduceAdd, bi_append, h13]; rfl) ?_
      (repeat (first | refine DRun.r rfl rfl rfl rfl rfl rfl (by simp only [evS, cond_tt, cond_ff, absV, depthV, Nat.reduceEqDiff, Nat.reduceLT, ↓reduceIte, Option.map_some, Option.bind_some, List.toList_toArray, addX_nil, updo_some, updo_none, orU_some, List.filter_nil]; rfl) ?_ | refine DRun.s rfl rfl rfl ?_))
      refine DRun.nil ⟨?_, ?_⟩
      · (intro y hy; simp only [List.nil_append, List.cons_append, List.mem_cons, List.not_mem_nil, or_false] at hy; (repeat' (rcases hy with hy | hy)) <;> (try subst hy) <;> refine ⟨by first | exact eqTop_str _ _ | exact eqTop_int _ _ _ | exact eqTop_bool _ _ | exact eqTop_ptr _ _ _ | exact eqTop_map _ _ | exact eqTop_slice _ _ _ _ _ _ | exact ht4 _ | exact ht9 _ | exact ht13 _ | exact eqTop_sh _ _ | exact eqTop_nilZ _ | (simp only [eqTop_agg, eqTop_tup, eqTop, all2, eqL_eq, eqI_eq, kEq, decide_true, Bool.and_self, Bool.and_true]; done), ?_⟩ <;> (simp only [phOk]; refine ⟨?_, ?_, ?_, ?_, trivial⟩) <;> first | exact trivial | exact Or.inl rfl | exact Or.inr ⟨_, by simp only [evS, cond_tt, cond_ff, absV, depthV, Nat.reduceEqDiff, Nat.reduceLT, ↓reduceIte, Option.map_some, Option.bind_some, List.toList_toArray, addX_nil, updo_some, updo_none, orU_some, List.filter_nil, op_slice, evo, sl_one1, sl_one3, op_build, partsA_cons, partsA_nil, build36z]; rfl⟩)
      simp only [updo_some, updo_none, orU_some]
      generalize hX : addX _ _ _ _ = X
      have hXe : X = ⟨o13, f13, n13, h.next⟩ := by rw [← hX]; kernel_rfl
      subst hXe
      show AWp _ _ _ _ _
      refine AWp.ret ?_
      (try simp only [OutOf, Then, Round, NoGoto])
      obtain ⟨fam, hcan⟩ := canon_out hv13 (show h.next ≤ h.next + 1 + 1 + 15 by omega) (by intro r hr; obtain ⟨t, _, rfl⟩ := List.mem_map.1 hr; exact plain_cellsZ t) (by simp) [] rfl 2
      refine ⟨rfl, _, rfl, v13, by rfl, .inr ⟨_, _, _, hcan, rfl, ?_⟩⟩
      unfold addZ
      rw [if_neg ha0]
      simp [backZ, addN, e1]

end Go.Proofs

/- The reference's shares of a cost. No conditions beyond those that each theorem states. -/
namespace Go.Proofs
open Go.Ev
set_option maxRecDepth 100000

/-- add, served in a drawing region: at two calls. -/
theorem addZ_one {h : H} {p : List Nat} {a : Int} (hl : h.low ≤ h.next) : LvOk (addZ h (.slice none 0 0 (some 0)) [] p a).2 (addZ h (.slice none 0 0 (some 0)) [] p a).1 (addR [] p a) := by
  unfold addZ addR
  by_cases ha : a = 0
  · rw [if_pos ha, if_pos ha]
    exact .inl ⟨rfl, rfl⟩
  · rw [if_neg ha, if_neg ha]
    refine .inr ⟨⟨p, a⟩, h.next, rfl, ?_, ?_, ?_⟩
    · simp [backZ, addN]
    · simp only [backZ, addN, List.cons_ne_nil, if_false]
      show rowO (Tr.put h.objs h.next _) h.next = _
      rw [rowO_put, if_pos rfl]
      simp [rowA]
    · simp only [backZ, addN, List.cons_ne_nil, if_false]
      exact Nat.lt_succ_self _

theorem addZ_rd {h : H} {lv : AV} {l : List Sh} {p : List Nat} {a : Int} (hl : LvOk h lv l) (hn : h.low ≤ h.next) : Over h.next h (addZ h lv l p a).2 ∧ RdZ (addZ h lv l p a).2 (addZ h lv l p a).1 (addR l p a) ∧ ∀ n, eqTop (n + 1) (addZ h lv l p a).1 (addZ h lv l p a).1 = true := by
  unfold addZ addR
  by_cases ha : a = 0
  · rw [if_pos ha, if_pos ha]
    refine ⟨⟨Nat.le_refl _, fun _ _ => rfl, fun _ _ => rfl, fun hz => ?_⟩, ?_, ?_⟩
    · exact minN_left hn
    · rcases hl with ⟨rfl, rfl⟩ | ⟨s, id, rfl, rfl, hrow, hid⟩
      · exact rdz_none _ _ _ _
      · exact rdz_one hrow hid
    · rcases hl with ⟨rfl, rfl⟩ | ⟨s, id, rfl, rfl, hrow, hid⟩
      · exact fun n => eqTop_nilZ n
      · exact fun n => eqTop_slice _ _ _ _ _ _
  · rw [if_neg ha, if_neg ha]
    obtain ⟨h1, h2⟩ := back_overZ h (addN p a l)
    exact ⟨h1, h2, back_topZ h _⟩

theorem LvOk.uniq {h : H} {lv : AV} {l l' : List Sh} (h1 : LvOk h lv l) (h2 : LvOk h lv l') : l = l' := by
  rcases h1 with ⟨rfl, rfl⟩ | ⟨s, id, rfl, rfl, hrow, _⟩ <;> rcases h2 with ⟨rfl, e⟩ | ⟨s', id', rfl, e, hrow', _⟩
  · rfl
  · simp at e
  · simp at e
  · simp only [AV.slice.injEq, Option.some.injEq, Prod.mk.injEq, and_true] at e
    obtain ⟨rfl⟩ := e
    rw [hrow] at hrow'
    have := shc_inj (a := [s]) (b := [s']) (by simpa using hrow')
    exact this

open Classical in
/-- add, served in a drawing region. -/
noncomputable def addServ : FuncId × (List AV → H → Option (AV × H)) := (45, fun args h => match args with
  | [lv, .str p, .int .i64 a] => if hx : ∃ l, LvOk h lv l ∧ ∀ s ∈ l, -9223372036854775808 ≤ s.am + a ∧ s.am + a ≤ 9223372036854775807 then some (addZ h lv (Classical.choose hx) p a) else none
  | _ => none)

theorem addServ_ok : ServOk Tryz.prog [addServ] := by
  intro x hx args h v h' hs
  rw [List.mem_singleton.1 hx] at hs ⊢
  unfold addServ at hs ⊢
  simp only at hs ⊢
  split at hs
  · split at hs
    · rename_i lv p a hx
      obtain ⟨h1, h2⟩ := Classical.choose_spec hx
      refine (Tryz.add43 (Classical.choose hx) p a h2 lv h h1).mono fun r hh e => ?_
      rw [← e] at hs
      simp only [Option.some.injEq, Prod.mk.injEq] at hs
      exact hs
    · cases hs
  · cases hs

theorem addServ_at {h : H} {lv : AV} {l : List Sh} {p : List Nat} {a : Int} (hl : LvOk h lv l) (hb : ∀ s ∈ l, -9223372036854775808 ≤ s.am + a ∧ s.am + a ≤ 9223372036854775807) : cvS [addServ] (.func 45) [lv, .str p, .int .i64 a] h = some [addZ h lv l p a] := by
  have hx : ∃ l, LvOk h lv l ∧ ∀ s ∈ l, -9223372036854775808 ≤ s.am + a ∧ s.am + a ≤ 9223372036854775807 := ⟨l, hl, hb⟩
  have he : Classical.choose hx = l := (Classical.choose_spec hx).1.uniq hl
  have hf : ([addServ] : Serv).find? (fun x => x.1 == 45) = some addServ := by
    rw [List.find?_cons]
    have : (addServ.1 == 45) = true := by unfold addServ; exact beq_self_eq_true _
    rw [this]
  simp only [cvS, hf]
  unfold addServ
  simp only [dif_pos hx, he, Option.map_some]

theorem eqTop_wy (n : Nat) (w : Wy) : eqTop (n + 2) (.agg w.cells) (.agg w.cells) = true := by
  refine eqTop_agg _ _ ?_
  simp only [Wy.cells, all2_cons, all2_nil, eqTop_str, eqTop_int, Bool.and_self]
theorem eqTop_co (n : Nat) (w : Co) : eqTop (n + 2) (.agg w.cells) (.agg w.cells) = true := by
  refine eqTop_agg _ _ ?_
  simp only [Co.cells, all2_cons, all2_nil, eqTop_str, eqTop_int, Bool.and_self]

def RefQ (ws : List Wy) (p : Pt) (c : Co) (h : H) (r : AV) (h' : H) : Prop := Over h.next h h' ∧ RdZ h' r (refS ws p c) ∧ ∀ n, eqTop (n + 1) r r = true

set_option maxHeartbeats 8000000 in
theorem Tryz.shares43 (ws : List Wy) (p : Pt) (c : Co) (hr : rightB ws c = true) (hlen : ws.length ≤ 1000) (htop : ∀ n, eqTop (n + 1) p.props p.props = true) (v : AV) (h : H) (hv : RdS h v 5 (ws.map Wy.cells)) :
    ACalls Tryz.prog (.func 31) [v, .agg p.cells, .agg c.cells] h (RefQ ws p c h) := by
  obtain ⟨hwsok, hco⟩ := right_parts hr
  have hcam := am_ok hco
  have hday : 0 ≤ c.day ∧ c.day ≤ 40000 := by
    have := hco
    unfold Co.ok isDy at this
    simp only [Bool.and_eq_true, decide_eq_true_eq] at this; omega
  refine ACalls.body (n := 53) Tryz.nogo Tryz.func31 rfl rfl ?_
  rw [argF3]
  obtain ⟨lo, le, lc, rfl⟩ := hv.len
  rw [List.length_map] at hv ⊢
  have hv0 : RdS ⟨h.objs, h.fams, h.next, h.next⟩ (.slice lo ws.length le lc) 5 (ws.map Wy.cells) := ⟨hv.wide, hv.at'⟩
  have hch4 : chunkL c.cells 0 4 = some c.cells := rfl
  have hp14 := pt_chunk p
  have q1 : c.cells[1]? = some (.str c.owner) := rfl
  have q3 : c.cells[3]? = some (.int .i64 c.am) := rfl
  (repeat refine AWp.seq ?_); change AWp _ _ _ _ _; refine AWp.region ?_; (repeat (first | refine AOps.v rfl rfl rfl rfl rfl (by simp only [evS, cond_tt, cond_ff, absV, depthV, Nat.reduceEqDiff, Nat.reduceLT, ↓reduceIte, Option.map_some, Option.bind_some, List.toList_toArray, op_box, H.lay]; rfl) ?_ | refine AOps.s rfl rfl rfl ?_ | refine AOps.u rfl rfl rfl rfl (by simp only [evS, cond_tt, cond_ff, absV, depthV, Nat.reduceEqDiff, Nat.reduceLT, ↓reduceIte, Option.map_some, Option.bind_some, List.toList_toArray, op_box, H.lay]; rfl) ?_)); refine AOps.nil ?_
  obtain ⟨O2, hO2⟩ : ∃ X, X = Tr.put (Tr.put h.objs h.next (some (.cells p.cells h.next))) (h.next + 1) (some (.cells c.cells (h.next + 1))) := ⟨_, rfl⟩
  obtain ⟨F2, hF2⟩ : ∃ X, X = Tr.put (Tr.put h.fams h.next (some (h.next, h.next))) (h.next + 1) (some (h.next + 1, h.next + 1)) := ⟨_, rfl⟩
  rw [← hO2, ← hF2]
  have g0 : rowO O2 h.next = some p.cells := by unfold rowO; rw [hO2, put_other _ _ (by omega), put_same]; rfl
  have g1 : rowO O2 (h.next + 1) = some c.cells := by unfold rowO; rw [hO2, put_same]; rfl
  have hold : ∀ j, j < h.next → O2.get j = h.objs.get j := fun j hj => by rw [hO2, put_other _ _ (by omega), put_other _ _ (by omega)]
  have hfold : ∀ j, j < h.next → F2.get j = h.fams.get j := fun j hj => by rw [hF2, put_other _ _ (by omega), put_other _ _ (by omega)]
  clear hO2 hF2
  (repeat refine AWp.seq ?_); change AWp _ _ _ _ _; refine AWp.region ?_; (repeat (first | refine AOps.v rfl rfl rfl rfl rfl (by simp only [evS, cond_tt, cond_ff, absV, depthV, Nat.reduceEqDiff, Nat.reduceLT, ↓reduceIte, Option.map_some, Option.bind_some, List.toList_toArray]; rfl) ?_ | refine AOps.s rfl rfl rfl ?_ | refine AOps.u rfl rfl rfl rfl (by simp only [evS, cond_tt, cond_ff, absV, depthV, Nat.reduceEqDiff, Nat.reduceLT, ↓reduceIte, Option.map_some, Option.bind_some, List.toList_toArray]; rfl) ?_)); refine AOps.nil ?_
  refine AWp.block (AWp.loop (fun m st => ∃ k kn : Nat, k ≤ ws.length ∧ m = ws.length - k ∧ h.next + 1 + 1 ≤ kn ∧ (∀ i w, i < k → ws[i]? = some w → coversB p c w = false) ∧
    Fr st [(0, .slice lo ws.length le lc), (4, .ptr (some (h.next, 0))), (5, .ptr (some (h.next + 1, 0))), (7, .int .i64 (k : Int))] 53 ⟨O2, F2, kn, h.next⟩ []) ws.length ?_ ?_)
  · exact ⟨0, h.next + 1 + 1, by omega, by omega, Nat.le_refl _, fun i w hi => by omega, rfl, rfl, rfl, rfl, rfl, rfl, rfl, trivial⟩
  rintro m st ⟨k, kn, hk, rfl, hkn, hall, hF⟩
  obtain ⟨f, rfl⟩ := hF.open
  clear hF
  simp only [updL]
  by_cases hlt : k < ws.length
  · have c1 : decide ((k : Int) < (ws.length : Int)) = true := by simp only [decide_eq_true_eq]; omega
    obtain ⟨w, hwk⟩ : ∃ w, ws[k]? = some w := ⟨ws[k], List.getElem?_eq_getElem hlt⟩
    obtain ⟨id, off, cap, cs, hv', hid, hrow0, hcl, hch, hcell⟩ := hv0.open (i := k) (by rw [List.length_map]; exact hlt)
    rw [List.length_map] at hv'
    cases hv'
    simp only at hrow0 hid
    have kc := hch _ _ (rowsW_get ws hwk)
    have hrow : rowO O2 id = some cs := rowO_of hrow0 (hold id hid)
    have hcvC : CVok Tryz.prog (cvS [servF 76 (fun args _ => args = [.agg w.cells, .agg p.cells, .agg c.cells]) (fun _ => .bool (coversB p c w))]) := cvS_ok (servF_ok (fun args h0 hp => by
      rw [hp]; exact Tryz.covers43 w p c hday h0) servOk_nil)
    (repeat refine AWp.seq ?_); change AWp _ _ _ _ _; refine AWp.region ?_; (repeat (first | refine AOps.v rfl rfl rfl rfl rfl (by simp only [evS, cond_tt, cond_ff, absV, depthV, Nat.reduceEqDiff, Nat.reduceLT, ↓reduceIte, Option.map_some, Option.bind_some, List.toList_toArray, Tryz.tw, H.lay, Nat.zero_add, Nat.add_zero, ↓reduceIte, List.getElem?_cons_zero, List.getElem?_cons_succ, c1]; rfl) ?_ | refine AOps.s rfl rfl rfl ?_ | refine AOps.u rfl rfl rfl rfl (by simp only [evS, cond_tt, cond_ff, absV, depthV, Nat.reduceEqDiff, Nat.reduceLT, ↓reduceIte, Option.map_some, Option.bind_some, List.toList_toArray, Tryz.tw, H.lay, Nat.zero_add, Nat.add_zero, ↓reduceIte, List.getElem?_cons_zero, List.getElem?_cons_succ, c1]; rfl) ?_)); refine AOps.nil ?_
    (repeat refine AWp.seq ?_); change AWp _ _ _ _ _; refine AWp.yes (by rfl) (by rfl) (AWp.skip ?_)
    (repeat refine AWp.seq ?_)
    refine AWp.block ?_
    (repeat refine AWp.seq ?_)
    refine AWp.draws (cv := cvS [servF 76 (fun args _ => args = [.agg w.cells, .agg p.cells, .agg c.cells]) (fun _ => .bool (coversB p c w))]) hcvC rfl (L := 7) rfl (ms := [0, 0, 3, 7, 0, 0, 63]) (by kernel_rfl) (by kernel_rfl) ?_
    (repeat (first | refine DRun.r rfl rfl rfl rfl rfl rfl (by simp only [evS, cond_tt, cond_ff, absV, depthV, Nat.reduceEqDiff, Nat.reduceLT, ↓reduceIte, Option.map_some, Option.bind_some, List.toList_toArray, addX_nil, updo_some, updo_none, orU_some, List.filter_nil, Tryz.tw, H.lay, Nat.zero_add, Nat.add_zero, ↓reduceIte, List.getElem?_cons_zero, List.getElem?_cons_succ, iaddr_slice Tryz.underlying22 Tryz.size59 hlt, hrow, kc, g0, hp14, g1, hch4]; rfl) ?_ | refine DRun.s rfl rfl rfl ?_))
    refine DRun.k rfl rfl rfl rfl rfl rfl (by simp only [callOf_val, callW_fn, evS, cond_tt, cond_ff, absV, depthV, Nat.reduceEqDiff, Nat.reduceLT, ↓reduceIte, Option.map_some, Option.bind_some, List.toList_toArray]; rfl) rfl (cvS_servF rfl) ?_
    refine DRun.nil ⟨?_, ?_⟩
    · (intro y hy; simp only [List.nil_append, List.cons_append, List.mem_cons, List.not_mem_nil, or_false] at hy; (repeat' (rcases hy with hy | hy)) <;> (try subst hy) <;> refine ⟨by first | exact eqTop_str _ _ | exact eqTop_int _ _ _ | exact eqTop_bool _ _ | exact eqTop_ptr _ _ _ | exact eqTop_map _ _ | exact eqTop_slice _ _ _ _ _ _ | exact eqTop_wy _ _ | exact eqTop_co _ _ | exact eqTop_pt 4 p (htop 4) | (simp only [eqTop_agg, eqTop_tup, eqTop, all2, eqL_eq, eqI_eq, kEq, decide_true, Bool.and_self, Bool.and_true]; done), ?_⟩ <;> (simp only [phOk]; refine ⟨?_, ?_, trivial⟩) <;> first | exact trivial | exact Or.inl rfl | exact Or.inr ⟨_, by simp only [evS, cond_tt, cond_ff, absV, depthV, Nat.reduceEqDiff, Nat.reduceLT, ↓reduceIte, Option.map_some, Option.bind_some, List.toList_toArray, addX_nil, updo_some, updo_none, orU_some, List.filter_nil, Tryz.tw, H.lay, Nat.zero_add, Nat.add_zero, ↓reduceIte, List.getElem?_cons_zero, List.getElem?_cons_succ, iaddr_slice Tryz.underlying22 Tryz.size59 hlt, hrow, kc, g0, hp14, g1, hch4]; rfl⟩)
    simp only [List.filter_nil, addX_nil, updo_some, updo_none, orU_some]
    show AWp _ _ _ _ _
    cases ecov : coversB p c w
    · (repeat refine AWp.seq ?_); change AWp _ _ _ _ _; refine AWp.no (by rfl) (by rfl) (AWp.skip ?_)
      (repeat refine AWp.seq ?_); change AWp _ _ _ _ _; refine AWp.region ?_; (repeat (first | refine AOps.v rfl rfl rfl rfl rfl (by simp only [evS, cond_tt, cond_ff, absV, depthV, Nat.reduceEqDiff, Nat.reduceLT, ↓reduceIte, Option.map_some, Option.bind_some, List.toList_toArray, bin_add (show -9223372036854775808 ≤ (k : Int) + 1 ∧ (k : Int) + 1 ≤ 9223372036854775807 from ⟨by omega, by omega⟩)]; rfl) ?_ | refine AOps.s rfl rfl rfl ?_ | refine AOps.u rfl rfl rfl rfl (by simp only [evS, cond_tt, cond_ff, absV, depthV, Nat.reduceEqDiff, Nat.reduceLT, ↓reduceIte, Option.map_some, Option.bind_some, List.toList_toArray, bin_add (show -9223372036854775808 ≤ (k : Int) + 1 ∧ (k : Int) + 1 ≤ 9223372036854775807 from ⟨by omega, by omega⟩)]; rfl) ?_)); refine AOps.nil ?_
      refine ⟨ws.length - (k + 1), by omega, k + 1, kn + 7, by omega, rfl, by omega, fun i u hi hu => ?_, rfl, rfl, rfl, ?_⟩
      · by_cases hik : i = k
        · subst hik; rw [hwk] at hu; cases hu; exact ecov
        · exact hall i u (by omega) hu
      · simp only [Has, upd_eq]
        exact ⟨rfl, rfl, rfl, rfl, trivial⟩
    have hwok := hwsok w (List.mem_of_getElem? hwk)
    obtain ⟨hpct, hamr, hpr⟩ := pct_of_ok hwok hco
    obtain ⟨hn0, hn1⟩ := pct_bnd hamr hpr
    have hfind : ws.find? (coversB p c) = some w := by
      rw [List.find?_eq_some_iff_getElem]
      refine ⟨ecov, k, hlt, by rw [List.getElem?_eq_getElem hlt] at hwk; exact Option.some.inj hwk, fun j hj => ?_⟩
      rw [hall j ws[j] hj (List.getElem?_eq_getElem (by omega))]; rfl
    have hrefS : refS ws p c = addR (addR [] w.maker (pctN c.am w.pct)) c.owner (c.am - pctN c.am w.pct) := by unfold refS; rw [hfind]
    have hcvP : CVok Tryz.prog (cvS [servF 77 (fun args _ => args = [.int .i64 c.am, .int .i64 w.pct]) (fun _ => .tup [.int .i64 (pctN c.am w.pct), .int .i64 0])]) := cvS_ok (servF_ok (fun args h0 hp => by
      rw [hp]; exact Tryz.percent03 c.am w.pct hpct h0) servOk_nil)
    have w4 := hcell _ _ (rowsW_get ws hwk) 4 (by omega)
    rw [show w.cells[4]? = some (.int .i64 w.pct) from rfl] at w4
    have w1 := hcell _ _ (rowsW_get ws hwk) 1 (by omega)
    rw [show w.cells[1]? = some (.str w.maker) from rfl] at w1
    (repeat refine AWp.seq ?_); change AWp _ _ _ _ _; refine AWp.yes (by rfl) (by rfl) ?_
    (repeat refine AWp.seq ?_)
    refine AWp.draws (cv := cvS [servF 77 (fun args _ => args = [.int .i64 c.am, .int .i64 w.pct]) (fun _ => .tup [.int .i64 (pctN c.am w.pct), .int .i64 0])]) hcvP rfl (L := 13) rfl (ms := [0, 1, 0, 0, 12, 28, 60, 127, 255, 511, 511, 1023, 4095]) (by kernel_rfl) (by kernel_rfl) ?_
    (repeat (first | refine DRun.r rfl rfl rfl rfl rfl rfl (by simp only [evS, cond_tt, cond_ff, absV, depthV, Nat.reduceEqDiff, Nat.reduceLT, ↓reduceIte, Option.map_some, Option.bind_some, List.toList_toArray, addX_nil, updo_some, updo_none, orU_some, List.filter_nil, Tryz.tw, H.lay, Nat.zero_add, Nat.add_zero, ↓reduceIte, List.getElem?_cons_zero, List.getElem?_cons_succ, iaddr_slice Tryz.underlying22 Tryz.size59 hlt, hrow, w4, g1, q3]; rfl) ?_ | refine DRun.s rfl rfl rfl ?_))
    refine DRun.k rfl rfl rfl rfl rfl rfl (by simp only [callOf_val, callW_fn, evS, cond_tt, cond_ff, absV, depthV, Nat.reduceEqDiff, Nat.reduceLT, ↓reduceIte, Option.map_some, Option.bind_some, List.toList_toArray]; rfl) rfl (cvS_servF rfl) ?_
    (repeat (first | refine DRun.r rfl rfl rfl rfl rfl rfl (by simp only [evS, cond_tt, cond_ff, absV, depthV, Nat.reduceEqDiff, Nat.reduceLT, ↓reduceIte, Option.map_some, Option.bind_some, List.toList_toArray, addX_nil, updo_some, updo_none, orU_some, List.filter_nil]; rfl) ?_ | refine DRun.s rfl rfl rfl ?_))
    refine DRun.nil ⟨?_, ?_⟩
    · (intro y hy; simp only [List.nil_append, List.cons_append, List.mem_cons, List.not_mem_nil, or_false] at hy; (repeat' (rcases hy with hy | hy)) <;> (try subst hy) <;> refine ⟨by first | exact eqTop_str _ _ | exact eqTop_int _ _ _ | exact eqTop_bool _ _ | exact eqTop_ptr _ _ _ | exact eqTop_map _ _ | exact eqTop_slice _ _ _ _ _ _ | (simp only [eqTop_agg, eqTop_tup, eqTop, all2, eqL_eq, eqI_eq, kEq, decide_true, Bool.and_self, Bool.and_true]; done), ?_⟩ <;> (simp only [phOk]; refine ⟨?_, ?_, trivial⟩) <;> first | exact trivial | exact Or.inl rfl | exact Or.inr ⟨_, by simp only [evS, cond_tt, cond_ff, absV, depthV, Nat.reduceEqDiff, Nat.reduceLT, ↓reduceIte, Option.map_some, Option.bind_some, List.toList_toArray, addX_nil, updo_some, updo_none, orU_some, List.filter_nil, Tryz.tw, H.lay, Nat.zero_add, Nat.add_zero, ↓reduceIte, List.getElem?_cons_zero, List.getElem?_cons_succ, iaddr_slice Tryz.underlying22 Tryz.size59 hlt, hrow, w4, g1, q3]; rfl⟩)
    simp only [List.filter_nil, addX_nil, updo_some, updo_none, orU_some]
    show AWp _ _ _ _ _
    generalize hn : pctN c.am w.pct = n at *
    -- the two additions
    have hl0 : LvOk ⟨O2, F2, kn + 7 + 13 + 15, h.next⟩ (.slice none 0 0 (some 0)) [] := .inl ⟨rfl, rfl⟩
    have hsA := addServ_at (p := w.maker) (a := n) hl0 (fun s hs => (List.not_mem_nil hs).elim)
    have hlA := addZ_one (h := ⟨O2, F2, kn + 7 + 13 + 15, h.next⟩) (p := w.maker) (a := n) (by show h.next ≤ kn + 7 + 13 + 15; omega)
    obtain ⟨hovA, _, htopA⟩ := addZ_rd (p := w.maker) (a := n) hl0 (by show h.next ≤ kn + 7 + 13 + 15; omega)
    obtain ⟨lvA, ⟨oA, fA, nA, lA⟩, hA⟩ : ∃ lvA hA, addZ ⟨O2, F2, kn + 7 + 13 + 15, h.next⟩ (.slice none 0 0 (some 0)) [] w.maker n = (lvA, hA) := ⟨_, _, rfl⟩
    rw [hA] at hsA hlA hovA htopA
    have hlowA : lA = h.next := hovA.low (by show h.next ≤ kn + 7 + 13 + 15; omega)
    subst hlowA
    have hnA : kn + 7 + 13 + 15 ≤ nA := hovA.next
    have hbB : ∀ s ∈ addR [] w.maker n, -9223372036854775808 ≤ s.am + (c.am - n) ∧ s.am + (c.am - n) ≤ 9223372036854775807 := by
      intro s hs
      unfold addR at hs
      split at hs
      · cases hs
      · simp only [addN, List.mem_singleton] at hs
        rw [hs]; simp only; omega
    have hsB := addServ_at (p := c.owner) (a := c.am - n) hlA hbB
    obtain ⟨hovB, hrdB, htopB⟩ := addZ_rd (p := c.owner) (a := c.am - n) hlA (by show h.next ≤ nA; omega)
    obtain ⟨lvB, ⟨oB, fB, nB, lB⟩, hB⟩ : ∃ lvB hB, addZ ⟨oA, fA, nA, h.next⟩ lvA (addR [] w.maker n) c.owner (c.am - n) = (lvB, hB) := ⟨_, _, rfl⟩
    rw [hB] at hsB hovB hrdB htopB
    have hlowB : lB = h.next := hovB.low (by show h.next ≤ nA; omega)
    subst hlowB
    have hnB : nA ≤ nB := hovB.next
    have hrowA : rowO oA id = some cs := rowO_of hrow (hovA.objs id (by show id < kn + 7 + 13 + 15; omega))
    have hrowB : rowO oB id = some cs := rowO_of hrowA (hovB.objs id (by show id < nA; omega))
    have g1A : rowO oA (h.next + 1) = some c.cells := rowO_of g1 (hovA.objs _ (by show h.next + 1 < kn + 7 + 13 + 15; omega))
    have g1B : rowO oB (h.next + 1) = some c.cells := rowO_of g1A (hovB.objs _ (by show h.next + 1 < nA; omega))
    have hsub := bin_sub (P := Tryz.prog) (t := 3) (a := c.am) (b := n) ⟨by omega, by omega⟩
    (repeat refine AWp.seq ?_)
    refine AWp.draws (cv := cvS [addServ]) (cvS_ok addServ_ok) rfl (L := 15) rfl (ms := [0, 0, 3, 7, 15, 0, 63, 0, 128, 0, 512, 0, 3584, 8191, 16383]) (by kernel_rfl) (by kernel_rfl) ?_
    (repeat (first | refine DRun.r rfl rfl rfl rfl rfl rfl (by simp only [evS, cond_tt, cond_ff, absV, depthV, Nat.reduceEqDiff, Nat.reduceLT, ↓reduceIte, Option.map_some, Option.bind_some, List.toList_toArray, addX_nil, updo_some, updo_none, orU_some, List.filter_nil, Tryz.tw, H.lay, Nat.zero_add, Nat.add_zero, ↓reduceIte, List.getElem?_cons_zero, List.getElem?_cons_succ, iaddr_slice Tryz.underlying22 Tryz.size59 hlt, hrow, w1]; rfl) ?_ | refine DRun.s rfl rfl rfl ?_))
    refine DRun.k rfl rfl rfl rfl rfl rfl (by simp only [callOf_val, callW_fn, evS, cond_tt, cond_ff, absV, depthV, Nat.reduceEqDiff, Nat.reduceLT, ↓reduceIte, Option.map_some, Option.bind_some, List.toList_toArray]; rfl) rfl hsA ?_
    (repeat (first | refine DRun.r rfl rfl rfl rfl rfl rfl (by simp only [evS, cond_tt, cond_ff, absV, depthV, Nat.reduceEqDiff, Nat.reduceLT, ↓reduceIte, Option.map_some, Option.bind_some, List.toList_toArray, addX_nil, updo_some, updo_none, orU_some, List.filter_nil, Tryz.tw, H.lay, Nat.zero_add, Nat.add_zero, ↓reduceIte, List.getElem?_cons_zero, List.getElem?_cons_succ, g1A, g1, q1, q3, hsub]; rfl) ?_ | refine DRun.s rfl rfl rfl ?_))
    refine DRun.k rfl rfl rfl rfl rfl rfl (by simp only [callOf_val, callW_fn, evS, cond_tt, cond_ff, absV, depthV, Nat.reduceEqDiff, Nat.reduceLT, ↓reduceIte, Option.map_some, Option.bind_some, List.toList_toArray]; rfl) rfl hsB ?_
    (repeat (first | refine DRun.r rfl rfl rfl rfl rfl rfl (by simp only [evS, cond_tt, cond_ff, absV, depthV, Nat.reduceEqDiff, Nat.reduceLT, ↓reduceIte, Option.map_some, Option.bind_some, List.toList_toArray, addX_nil, updo_some, updo_none, orU_some, List.filter_nil]; rfl) ?_ | refine DRun.s rfl rfl rfl ?_))
    refine DRun.nil ⟨?_, ?_⟩
    · (intro y hy; simp only [List.nil_append, List.cons_append, List.mem_cons, List.not_mem_nil, or_false] at hy; (repeat' (rcases hy with hy | hy)) <;> (try subst hy) <;> refine ⟨by first | exact eqTop_str _ _ | exact eqTop_int _ _ _ | exact eqTop_bool _ _ | exact eqTop_ptr _ _ _ | exact eqTop_map _ _ | exact eqTop_slice _ _ _ _ _ _ | exact htopA _ | exact htopB _ | (simp only [eqTop_agg, eqTop_tup, eqTop, all2, eqL_eq, eqI_eq, kEq, decide_true, Bool.and_self, Bool.and_true]; done), ?_⟩ <;> (simp only [phOk]; refine ⟨?_, ?_, ?_, trivial⟩) <;> first | exact trivial | exact Or.inl rfl | exact Or.inr ⟨_, by simp only [evS, cond_tt, cond_ff, absV, depthV, Nat.reduceEqDiff, Nat.reduceLT, ↓reduceIte, Option.map_some, Option.bind_some, List.toList_toArray, addX_nil, updo_some, updo_none, orU_some, List.filter_nil, Tryz.tw, H.lay, Nat.zero_add, Nat.add_zero, ↓reduceIte, List.getElem?_cons_zero, List.getElem?_cons_succ, iaddr_slice Tryz.underlying22 Tryz.size59 hlt, hrow, hrowA, hrowB, w1, g1, g1A, g1B, q1, q3, hsub]; rfl⟩)
    simp only [List.filter_nil, addX_nil, updo_some, updo_none, orU_some]
    show AWp _ _ _ _ _
    refine AWp.ret ?_
    (try simp only [OutOf, Then, Round, NoGoto])
    refine ⟨rfl, _, rfl, lvB, by rfl, .inl ⟨⟨by show h.next ≤ nB; omega, fun j hj => ?_, fun j hj => ?_, fun hl => minN_left hl⟩, ?_, htopB⟩⟩
    · show oB.get j = _
      rw [hovB.objs j (by show j < nA; omega), hovA.objs j (by show j < kn + 7 + 13 + 15; omega)]; exact hold j hj
    · show fB.get j = _
      rw [hovB.fams j (by show j < nA; omega), hovA.fams j (by show j < kn + 7 + 13 + 15; omega)]; exact hfold j hj
    · rw [hrefS]
      exact ⟨hrdB.wide, hrdB.at'⟩
  have hkk : k = ws.length := by omega
  subst hkk
  have c1 : decide ((ws.length : Int) < (ws.length : Int)) = false := by simp
  have hfind : ws.find? (coversB p c) = none := by
    rw [List.find?_eq_none]
    intro w hwm
    obtain ⟨i, hi⟩ := List.mem_iff_getElem?.1 hwm
    rw [hall i w (idx_lt hi) hi]; decide
  have hrefS : refS ws p c = addR [] c.owner c.am := by unfold refS; rw [hfind]
  have hl0 : LvOk ⟨O2, F2, kn, h.next⟩ (.slice none 0 0 (some 0)) [] := .inl ⟨rfl, rfl⟩
  obtain ⟨hovA, hrdA, htopA⟩ := addZ_rd (p := c.owner) (a := c.am) hl0 (by show h.next ≤ kn; omega)
  have hcall := Tryz.add43 [] c.owner c.am (fun s hs => (List.not_mem_nil hs).elim) (.slice none 0 0 (some 0)) ⟨O2, F2, kn, h.next⟩ hl0
  obtain ⟨lvA, ⟨oA, fA, nA, lA⟩, hA⟩ : ∃ lvA hA, addZ ⟨O2, F2, kn, h.next⟩ (.slice none 0 0 (some 0)) [] c.owner c.am = (lvA, hA) := ⟨_, _, rfl⟩
  rw [hA] at hovA hrdA htopA hcall
  have hlowA : lA = h.next := hovA.low (by show h.next ≤ kn; omega)
  subst hlowA
  have hnA : kn ≤ nA := hovA.next
  (repeat refine AWp.seq ?_); change AWp _ _ _ _ _; refine AWp.region ?_; (repeat (first | refine AOps.v rfl rfl rfl rfl rfl (by simp only [evS, cond_tt, cond_ff, absV, depthV, Nat.reduceEqDiff, Nat.reduceLT, ↓reduceIte, Option.map_some, Option.bind_some, List.toList_toArray, Tryz.tw, H.lay, Nat.zero_add, Nat.add_zero, ↓reduceIte, List.getElem?_cons_zero, List.getElem?_cons_succ, c1]; rfl) ?_ | refine AOps.s rfl rfl rfl ?_ | refine AOps.u rfl rfl rfl rfl (by simp only [evS, cond_tt, cond_ff, absV, depthV, Nat.reduceEqDiff, Nat.reduceLT, ↓reduceIte, Option.map_some, Option.bind_some, List.toList_toArray, Tryz.tw, H.lay, Nat.zero_add, Nat.add_zero, ↓reduceIte, List.getElem?_cons_zero, List.getElem?_cons_succ, c1]; rfl) ?_)); refine AOps.nil ?_
  (repeat refine AWp.seq ?_); change AWp _ _ _ _ _; refine AWp.no (by rfl) (by rfl) ?_
  refine AWp.exit ?_
  (repeat refine AWp.seq ?_); change AWp _ _ _ _ _; refine AWp.region ?_; (repeat (first | refine AOps.v rfl rfl rfl rfl rfl (by simp only [evS, cond_tt, cond_ff, absV, depthV, Nat.reduceEqDiff, Nat.reduceLT, ↓reduceIte, Option.map_some, Option.bind_some, List.toList_toArray, Tryz.tw, H.lay, Nat.zero_add, Nat.add_zero, ↓reduceIte, List.getElem?_cons_zero, List.getElem?_cons_succ, g1, q1, q3]; rfl) ?_ | refine AOps.s rfl rfl rfl ?_ | refine AOps.u rfl rfl rfl rfl (by simp only [evS, cond_tt, cond_ff, absV, depthV, Nat.reduceEqDiff, Nat.reduceLT, ↓reduceIte, Option.map_some, Option.bind_some, List.toList_toArray, Tryz.tw, H.lay, Nat.zero_add, Nat.add_zero, ↓reduceIte, List.getElem?_cons_zero, List.getElem?_cons_succ, g1, q1, q3]; rfl) ?_))
  refine AOps.c rfl rfl rfl rfl rfl (by simp only [callOf_val, callW_fn, evS, cond_tt, cond_ff, absV, depthV, Nat.reduceEqDiff, Nat.reduceLT, ↓reduceIte, Option.map_some, Option.bind_some, List.toList_toArray]; rfl) rfl hcall ?_
  rintro r hh e
  simp only [Prod.mk.injEq] at e
  obtain ⟨rfl, rfl⟩ := e
  (repeat (first | refine AOps.v rfl rfl rfl rfl rfl (by simp only [evS, cond_tt, cond_ff, absV, depthV, Nat.reduceEqDiff, Nat.reduceLT, ↓reduceIte, Option.map_some, Option.bind_some, List.toList_toArray]; rfl) ?_ | refine AOps.s rfl rfl rfl ?_ | refine AOps.u rfl rfl rfl rfl (by simp only [evS, cond_tt, cond_ff, absV, depthV, Nat.reduceEqDiff, Nat.reduceLT, ↓reduceIte, Option.map_some, Option.bind_some, List.toList_toArray]; rfl) ?_))
  refine AOps.nil ?_
  refine AWp.ret ?_
  (try simp only [OutOf, Then, Round, NoGoto])
  refine ⟨rfl, _, rfl, r, by rfl, .inl ⟨⟨by show h.next ≤ nA; omega, fun j hj => ?_, fun j hj => ?_, fun hl => minN_left hl⟩, ?_, htopA⟩⟩
  · show oA.get j = _
    rw [hovA.objs j (by show j < kn; omega)]; exact hold j hj
  · show fA.get j = _
    rw [hovA.fams j (by show j < kn; omega)]; exact hfold j hj
  · rw [hrefS]
    exact ⟨hrdA.wide, hrdA.at'⟩

end Go.Proofs

/- bogieref43.Shares, and bogielaw43.CostMatchesReference. No conditions beyond those that each theorem states. -/
namespace Go.Proofs
open Go.Ev
set_option maxRecDepth 100000

/-- What bogieref43.Shares hands back. -/
def ShR (ws : List Wy) (ps : List Pt) (c : Co) (h : H) (v : AV) (h' : H) : Prop := ∃ (code : Int) (lv : AV) (ss : List Sh), v = .tup [lv, .int .i64 code] ∧ Over h.next h h' ∧ RdZ h' lv ss ∧ (∀ n, eqTop (n + 1) lv lv = true) ∧
  ((rightB ws c = false ∧ code = 1 ∧ ss = []) ∨ (rightB ws c = true ∧ findP ps c.part = none ∧ code = 2 ∧ ss = []) ∨ (∃ p, rightB ws c = true ∧ findP ps c.part = some p ∧ code = 0 ∧ ss = refS ws p c))

set_option maxHeartbeats 4000000 in
theorem Tryz.sharesR (ws : List Wy) (ps : List Pt) (c : Co) (hlw : ws.length ≤ 1000) (hlp : ps.length ≤ 100000) (hwf : ∀ w ∈ ws, w.fits) (hcf : c.fits) (v pv : AV) (h : H) (hv : RdS h v 5 (ws.map Wy.cells)) (hp : RdS h pv 14 (ps.map Pt.cells)) (hpv1 : pv.cells = [pv]) (hok : ∀ p ∈ ps, PtOk h p) :
    ACalls Tryz.prog (.func 11) [v, .agg [pv], .agg c.cells] h (ShR ws ps c h) := by
  have hone : ∀ p ∈ ps, oneC p.props = true := fun p hp => (hok p hp).one
  refine ACalls.body (n := 27) Tryz.nogo Tryz.func11 rfl rfl ?_
  rw [argF3]
  have hv0 : RdS ⟨h.objs, h.fams, h.next, h.next⟩ v 5 (ws.map Wy.cells) := ⟨hv.wide, hv.at'⟩
  have hp0 : RdS ⟨h.objs, h.fams, h.next, h.next⟩ pv 14 (ps.map Pt.cells) := ⟨hp.wide, hp.at'⟩
  have q0 : c.cells[0]? = some (.str c.part) := rfl
  have hch1 : chunkL [pv] 0 1 = some [pv] := rfl
  have hch4 : chunkL c.cells 0 4 = some c.cells := rfl
  (repeat refine AWp.seq ?_); change AWp _ _ _ _ _; refine AWp.region ?_; (repeat (first | refine AOps.v rfl rfl rfl rfl rfl (by simp only [evS, cond_tt, cond_ff, absV, depthV, Nat.reduceEqDiff, Nat.reduceLT, ↓reduceIte, Option.map_some, Option.bind_some, List.toList_toArray, op_box, H.lay]; rfl) ?_ | refine AOps.s rfl rfl rfl ?_ | refine AOps.u rfl rfl rfl rfl (by simp only [evS, cond_tt, cond_ff, absV, depthV, Nat.reduceEqDiff, Nat.reduceLT, ↓reduceIte, Option.map_some, Option.bind_some, List.toList_toArray, op_box, H.lay]; rfl) ?_)); refine AOps.nil ?_
  obtain ⟨O2, hO2⟩ : ∃ X, X = Tr.put (Tr.put h.objs h.next (some (.cells [pv] h.next))) (h.next + 1) (some (.cells c.cells (h.next + 1))) := ⟨_, rfl⟩
  obtain ⟨F2, hF2⟩ : ∃ X, X = Tr.put (Tr.put h.fams h.next (some (h.next, h.next))) (h.next + 1) (some (h.next + 1, h.next + 1)) := ⟨_, rfl⟩
  rw [← hO2, ← hF2]
  have g0 : rowO O2 h.next = some [pv] := by unfold rowO; rw [hO2, put_other _ _ (by omega), put_same]; rfl
  have g1 : rowO O2 (h.next + 1) = some c.cells := by unfold rowO; rw [hO2, put_same]; rfl
  have hov2 : Over h.next ⟨h.objs, h.fams, h.next, h.next⟩ ⟨O2, F2, h.next + 1 + 1, h.next⟩ := Over.mk' (by omega) (fun j hj => by rw [hO2, put_other _ _ (by omega), put_other _ _ (by omega)]) (fun j hj => by rw [hF2, put_other _ _ (by omega), put_other _ _ (by omega)])
  clear hO2 hF2
  have hv2 := rdS_over hov2 hv0
  have hp2 := rdS_over hov2 hp0
  have nil : ∀ hh : H, RdZ hh (.slice none 0 0 (some 0)) [] := fun hh => rdz_none _ _ _ _
  have htn : ∀ n, eqTop (n + 1) (.slice none 0 0 (some 0)) (.slice none 0 0 (some 0)) = true := fun n => eqTop_nilZ n
  (repeat refine AWp.seq ?_); change AWp _ _ _ _ _; refine AWp.region ?_; (repeat (first | refine AOps.v rfl rfl rfl rfl rfl (by simp only [evS, cond_tt, cond_ff, absV, depthV, Nat.reduceEqDiff, Nat.reduceLT, ↓reduceIte, Option.map_some, Option.bind_some, List.toList_toArray, Tryz.tw, H.lay, Nat.zero_add, Nat.add_zero, ↓reduceIte, List.getElem?_cons_zero, List.getElem?_cons_succ, g1, hch4]; rfl) ?_ | refine AOps.s rfl rfl rfl ?_ | refine AOps.u rfl rfl rfl rfl (by simp only [evS, cond_tt, cond_ff, absV, depthV, Nat.reduceEqDiff, Nat.reduceLT, ↓reduceIte, Option.map_some, Option.bind_some, List.toList_toArray, Tryz.tw, H.lay, Nat.zero_add, Nat.add_zero, ↓reduceIte, List.getElem?_cons_zero, List.getElem?_cons_succ, g1, hch4]; rfl) ?_))
  refine AOps.c rfl rfl rfl rfl rfl (by simp only [callOf_val, callW_fn, evS, cond_tt, cond_ff, absV, depthV, Nat.reduceEqDiff, Nat.reduceLT, ↓reduceIte, Option.map_some, Option.bind_some, List.toList_toArray]; rfl) rfl (Tryz.given ws c hwf hcf hlw _ _ hv2) ?_; rintro _ _ ⟨rfl, rfl⟩
  cases er : rightB ws c
  · (repeat (first | refine AOps.v rfl rfl rfl rfl rfl (by simp only [evS, cond_tt, cond_ff, absV, depthV, Nat.reduceEqDiff, Nat.reduceLT, ↓reduceIte, Option.map_some, Option.bind_some, List.toList_toArray]; rfl) ?_ | refine AOps.s rfl rfl rfl ?_ | refine AOps.u rfl rfl rfl rfl (by simp only [evS, cond_tt, cond_ff, absV, depthV, Nat.reduceEqDiff, Nat.reduceLT, ↓reduceIte, Option.map_some, Option.bind_some, List.toList_toArray]; rfl) ?_))
    refine AOps.nil ?_
    (repeat refine AWp.seq ?_); change AWp _ _ _ _ _; refine AWp.yes (by rfl) (by rfl) ?_
    (repeat refine AWp.seq ?_); change AWp _ _ _ _ _; refine AWp.region ?_; (repeat (first | refine AOps.v rfl rfl rfl rfl rfl (by simp only [evS, cond_tt, cond_ff, absV, depthV, Nat.reduceEqDiff, Nat.reduceLT, ↓reduceIte, Option.map_some, Option.bind_some, List.toList_toArray]; rfl) ?_ | refine AOps.s rfl rfl rfl ?_ | refine AOps.u rfl rfl rfl rfl (by simp only [evS, cond_tt, cond_ff, absV, depthV, Nat.reduceEqDiff, Nat.reduceLT, ↓reduceIte, Option.map_some, Option.bind_some, List.toList_toArray]; rfl) ?_)); refine AOps.nil ?_
    refine AWp.ret ?_
    (try simp only [OutOf, Then, Round, NoGoto])
    exact leaves_plain (v := .tup [.slice none 0 0 (some 0), .int .i64 1]) (by rfl) (by rfl) (fun _ => rfl) (by rfl) ⟨1, _, [], rfl, Over.refl _ _, nil _, htn, .inl ⟨er, rfl, rfl⟩⟩
  (repeat (first | refine AOps.v rfl rfl rfl rfl rfl (by simp only [evS, cond_tt, cond_ff, absV, depthV, Nat.reduceEqDiff, Nat.reduceLT, ↓reduceIte, Option.map_some, Option.bind_some, List.toList_toArray]; rfl) ?_ | refine AOps.s rfl rfl rfl ?_ | refine AOps.u rfl rfl rfl rfl (by simp only [evS, cond_tt, cond_ff, absV, depthV, Nat.reduceEqDiff, Nat.reduceLT, ↓reduceIte, Option.map_some, Option.bind_some, List.toList_toArray]; rfl) ?_))
  refine AOps.nil ?_
  (repeat refine AWp.seq ?_); change AWp _ _ _ _ _; refine AWp.no (by rfl) (by rfl) (AWp.skip ?_)
  (repeat refine AWp.seq ?_); change AWp _ _ _ _ _; refine AWp.region ?_; (repeat (first | refine AOps.v rfl rfl rfl rfl rfl (by simp only [evS, cond_tt, cond_ff, absV, depthV, Nat.reduceEqDiff, Nat.reduceLT, ↓reduceIte, Option.map_some, Option.bind_some, List.toList_toArray, Tryz.tw, H.lay, Nat.zero_add, Nat.add_zero, ↓reduceIte, List.getElem?_cons_zero, List.getElem?_cons_succ, g0, g1, q0, hch1]; rfl) ?_ | refine AOps.s rfl rfl rfl ?_ | refine AOps.u rfl rfl rfl rfl (by simp only [evS, cond_tt, cond_ff, absV, depthV, Nat.reduceEqDiff, Nat.reduceLT, ↓reduceIte, Option.map_some, Option.bind_some, List.toList_toArray, Tryz.tw, H.lay, Nat.zero_add, Nat.add_zero, ↓reduceIte, List.getElem?_cons_zero, List.getElem?_cons_succ, g0, g1, q0, hch1]; rfl) ?_))
  refine AOps.c rfl rfl rfl rfl rfl (by simp only [callOf_val, callW_fn, evS, cond_tt, cond_ff, absV, depthV, Nat.reduceEqDiff, Nat.reduceLT, ↓reduceIte, Option.map_some, Option.bind_some, List.toList_toArray]; rfl) rfl (Tryz.find10 ps c.part hlp pv ⟨O2, F2, h.next + 1 + 1, h.next⟩ hp2 hpv1 hone) ?_
  rintro r ⟨o3, f3, n3, l3⟩ ⟨hov3, hfq⟩
  have hl3 : l3 = h.next := hov3.low (show h.next ≤ h.next + 1 + 1 by omega)
  subst hl3
  have hn3 : h.next + 1 + 1 ≤ n3 := hov3.next
  obtain ⟨p, is, hr, hpis, hpone⟩ : ∃ (p : Pt) (is : Bool), r = .tup [.agg p.cells, .bool is] ∧ ((is = true ∧ findP ps c.part = some p) ∨ (is = false ∧ findP ps c.part = none)) ∧ oneC p.props = true := by
    cases hf : findP ps c.part with
    | none => rw [hf] at hfq; exact ⟨Pt.zero, false, hfq, .inr ⟨rfl, rfl⟩, rfl⟩
    | some p => rw [hf] at hfq; exact ⟨p, true, hfq, .inl ⟨rfl, rfl⟩, hone p (List.mem_of_find?_eq_some hf)⟩
  subst hr
  have hpall : p.cells.all oneC = true := by simp only [Pt.cells, List.all_cons, List.all_nil, hpone]; rfl
  (repeat (first | refine AOps.v rfl rfl rfl rfl rfl (by simp only [evS, cond_tt, cond_ff, absV, depthV, Nat.reduceEqDiff, Nat.reduceLT, ↓reduceIte, Option.map_some, Option.bind_some, List.toList_toArray, Tryz.zero90, H.lay]; rfl) ?_ | refine AOps.s rfl rfl rfl ?_ | refine AOps.u rfl rfl rfl rfl (by simp only [evS, cond_tt, cond_ff, absV, depthV, Nat.reduceEqDiff, Nat.reduceLT, ↓reduceIte, Option.map_some, Option.bind_some, List.toList_toArray, Tryz.zero90, H.lay]; rfl) ?_))
  refine AOps.st rfl rfl rfl (by simp only [evS, cond_tt, cond_ff, absV, depthV, Nat.reduceEqDiff, Nat.reduceLT, ↓reduceIte, Option.map_some, Option.bind_some, List.toList_toArray]; rfl) (by simp only [evS, cond_tt, cond_ff, absV, depthV, Nat.reduceEqDiff, Nat.reduceLT, ↓reduceIte, Option.map_some, Option.bind_some, List.toList_toArray]; rfl) (by exact Tryz.size90) (by simp only [put_get]; rfl) (by simp only [put_get]; rfl) (by rfl) (by exact hpall) (cs' := p.cells) (by rfl) (minN_left (show h.next ≤ n3 by omega)) ?_
  (repeat (first | refine AOps.v rfl rfl rfl rfl rfl (by simp only [evS, cond_tt, cond_ff, absV, depthV, Nat.reduceEqDiff, Nat.reduceLT, ↓reduceIte, Option.map_some, Option.bind_some, List.toList_toArray]; rfl) ?_ | refine AOps.s rfl rfl rfl ?_ | refine AOps.u rfl rfl rfl rfl (by simp only [evS, cond_tt, cond_ff, absV, depthV, Nat.reduceEqDiff, Nat.reduceLT, ↓reduceIte, Option.map_some, Option.bind_some, List.toList_toArray]; rfl) ?_))
  refine AOps.nil ?_
  rcases hpis with ⟨rfl, hf⟩ | ⟨rfl, hf⟩
  · obtain ⟨O4, hO4⟩ : ∃ X, X = Tr.put (Tr.put o3 n3 (some (.cells Pt.zero.cells n3))) n3 (some (.cells p.cells n3)) := ⟨_, rfl⟩
    obtain ⟨F4, hF4⟩ : ∃ X, X = Tr.put f3 n3 (some (n3, n3)) := ⟨_, rfl⟩
    rw [← hO4, ← hF4]
    have g4p : rowO O4 n3 = some p.cells := by unfold rowO; rw [hO4, put_same]; rfl
    have hov4 : Over n3 ⟨o3, f3, n3, h.next⟩ ⟨O4, F4, n3 + 1, h.next⟩ := Over.mk' (by omega) (fun j hj => by rw [hO4, put_other _ _ (by omega), put_other _ _ (by omega)]) (fun j hj => by rw [hF4, put_other _ _ (by omega)])
    clear hO4 hF4
    have g14 : rowO O4 (h.next + 1) = some c.cells := rowO_of (rowO_of g1 (hov3.objs _ (by simp only; omega))) (hov4.objs _ (by omega))
    have hv4 := rdS_over hov4 (rdS_over hov3 hv2)
    have hp14 := pt_chunk p
    have htop := (hok p (List.mem_of_find?_eq_some hf)).top
    (repeat refine AWp.seq ?_); change AWp _ _ _ _ _; refine AWp.region ?_; (repeat (first | refine AOps.v rfl rfl rfl rfl rfl (by simp only [evS, cond_tt, cond_ff, absV, depthV, Nat.reduceEqDiff, Nat.reduceLT, ↓reduceIte, Option.map_some, Option.bind_some, List.toList_toArray]; rfl) ?_ | refine AOps.s rfl rfl rfl ?_ | refine AOps.u rfl rfl rfl rfl (by simp only [evS, cond_tt, cond_ff, absV, depthV, Nat.reduceEqDiff, Nat.reduceLT, ↓reduceIte, Option.map_some, Option.bind_some, List.toList_toArray]; rfl) ?_)); refine AOps.nil ?_
    (repeat refine AWp.seq ?_); change AWp _ _ _ _ _; refine AWp.no (by rfl) (by rfl) (AWp.skip ?_)
    (repeat refine AWp.seq ?_); change AWp _ _ _ _ _; refine AWp.region ?_; (repeat (first | refine AOps.v rfl rfl rfl rfl rfl (by simp only [evS, cond_tt, cond_ff, absV, depthV, Nat.reduceEqDiff, Nat.reduceLT, ↓reduceIte, Option.map_some, Option.bind_some, List.toList_toArray, Tryz.tw, H.lay, Nat.zero_add, Nat.add_zero, ↓reduceIte, List.getElem?_cons_zero, List.getElem?_cons_succ, g4p, g14, hp14, hch4]; rfl) ?_ | refine AOps.s rfl rfl rfl ?_ | refine AOps.u rfl rfl rfl rfl (by simp only [evS, cond_tt, cond_ff, absV, depthV, Nat.reduceEqDiff, Nat.reduceLT, ↓reduceIte, Option.map_some, Option.bind_some, List.toList_toArray, Tryz.tw, H.lay, Nat.zero_add, Nat.add_zero, ↓reduceIte, List.getElem?_cons_zero, List.getElem?_cons_succ, g4p, g14, hp14, hch4]; rfl) ?_))
    refine AOps.c rfl rfl rfl rfl rfl (by simp only [callOf_val, callW_fn, evS, cond_tt, cond_ff, absV, depthV, Nat.reduceEqDiff, Nat.reduceLT, ↓reduceIte, Option.map_some, Option.bind_some, List.toList_toArray]; rfl) rfl (Tryz.shares43 ws p c er hlw htop v ⟨O4, F4, n3 + 1, h.next⟩ hv4) ?_
    rintro r ⟨o5, f5, n5, l5⟩ ⟨hov5, hrd5, htop5⟩
    have hl5 : l5 = h.next := hov5.low (show h.next ≤ n3 + 1 by omega)
    subst hl5
    have hn5 : n3 + 1 ≤ n5 := hov5.next
    (repeat (first | refine AOps.v rfl rfl rfl rfl rfl (by simp only [evS, cond_tt, cond_ff, absV, depthV, Nat.reduceEqDiff, Nat.reduceLT, ↓reduceIte, Option.map_some, Option.bind_some, List.toList_toArray]; rfl) ?_ | refine AOps.s rfl rfl rfl ?_ | refine AOps.u rfl rfl rfl rfl (by simp only [evS, cond_tt, cond_ff, absV, depthV, Nat.reduceEqDiff, Nat.reduceLT, ↓reduceIte, Option.map_some, Option.bind_some, List.toList_toArray]; rfl) ?_))
    refine AOps.nil ?_
    refine AWp.ret ?_
    (try simp only [OutOf, Then, Round, NoGoto])
    refine ⟨rfl, _, rfl, .tup [r, .int .i64 0], by rfl, .inl ⟨0, r, refS ws p c, rfl, ⟨by show h.next ≤ n5; omega, fun j hj => ?_, fun j hj => ?_, fun hl => minN_left hl⟩, ⟨hrd5.wide, hrd5.at'⟩, htop5, .inr (.inr ⟨p, er, hf, rfl, rfl⟩)⟩⟩
    · show o5.get j = _
      rw [hov5.objs j (by show j < n3 + 1; omega), hov4.objs j (by omega), hov3.objs j (by show j < h.next + 1 + 1; omega), hov2.objs j hj]
    · show f5.get j = _
      rw [hov5.fams j (by show j < n3 + 1; omega), hov4.fams j (by omega), hov3.fams j (by show j < h.next + 1 + 1; omega), hov2.fams j hj]
  · (repeat refine AWp.seq ?_); change AWp _ _ _ _ _; refine AWp.region ?_; (repeat (first | refine AOps.v rfl rfl rfl rfl rfl (by simp only [evS, cond_tt, cond_ff, absV, depthV, Nat.reduceEqDiff, Nat.reduceLT, ↓reduceIte, Option.map_some, Option.bind_some, List.toList_toArray]; rfl) ?_ | refine AOps.s rfl rfl rfl ?_ | refine AOps.u rfl rfl rfl rfl (by simp only [evS, cond_tt, cond_ff, absV, depthV, Nat.reduceEqDiff, Nat.reduceLT, ↓reduceIte, Option.map_some, Option.bind_some, List.toList_toArray]; rfl) ?_)); refine AOps.nil ?_
    (repeat refine AWp.seq ?_); change AWp _ _ _ _ _; refine AWp.yes (by rfl) (by rfl) ?_
    (repeat refine AWp.seq ?_); change AWp _ _ _ _ _; refine AWp.region ?_; (repeat (first | refine AOps.v rfl rfl rfl rfl rfl (by simp only [evS, cond_tt, cond_ff, absV, depthV, Nat.reduceEqDiff, Nat.reduceLT, ↓reduceIte, Option.map_some, Option.bind_some, List.toList_toArray]; rfl) ?_ | refine AOps.s rfl rfl rfl ?_ | refine AOps.u rfl rfl rfl rfl (by simp only [evS, cond_tt, cond_ff, absV, depthV, Nat.reduceEqDiff, Nat.reduceLT, ↓reduceIte, Option.map_some, Option.bind_some, List.toList_toArray]; rfl) ?_)); refine AOps.nil ?_
    refine AWp.ret ?_
    (try simp only [OutOf, Then, Round, NoGoto])
    exact leaves_plain (v := .tup [.slice none 0 0 (some 0), .int .i64 2]) (by rfl) (by rfl) (fun _ => rfl) (by rfl) ⟨2, _, [], rfl, Over.refl _ _, nil _, htn, .inr (.inl ⟨er, hf, rfl, rfl⟩)⟩

end Go.Proofs

/- bogielaw43.CostMatchesReference. No conditions beyond those that each theorem states. -/
namespace Go.Proofs
open Go.Ev
set_option maxRecDepth 100000

theorem match_plain {ws : List Wy} {ps : List Pt} {c : Co} {k1 k2 : Int} {s1 s2 : List Sh}
    (h1 : (rightB ws c = false ∧ k1 = 1 ∧ s1 = []) ∨ (rightB ws c = true ∧ findP ps c.part = none ∧ k1 = 2 ∧ s1 = []) ∨ (rightB ws c = true ∧ (findP ps c.part).isSome = true ∧ k1 = 0 ∧ ListOk (billOf ws (findP ps c.part) c) s1))
    (h2 : (rightB ws c = false ∧ k2 = 1 ∧ s2 = []) ∨ (rightB ws c = true ∧ findP ps c.part = none ∧ k2 = 2 ∧ s2 = []) ∨ (∃ p, rightB ws c = true ∧ findP ps c.part = some p ∧ k2 = 0 ∧ s2 = refS ws p c)) : k1 = k2 ∧ s1 = s2 ∧ s1.length ≤ 1000 := by
  rcases h1 with ⟨a, rfl, rfl⟩ | ⟨a, b, rfl, rfl⟩ | ⟨a, b, rfl, d⟩ <;> rcases h2 with ⟨a', rfl, rfl⟩ | ⟨a', b', rfl, rfl⟩ | ⟨p, a', b', rfl, rfl⟩
  · exact ⟨rfl, rfl, by simp⟩
  · rw [a] at a'; cases a'
  · rw [a] at a'; cases a'
  · rw [a] at a'; cases a'
  · exact ⟨rfl, rfl, by simp⟩
  · rw [b] at b'; cases b'
  · rw [a] at a'; cases a'
  · rw [b'] at b; cases b
  · rw [b'] at d
    have := ref_eq a d
    refine ⟨rfl, this, ?_⟩
    have h1 := d.len
    have h2 := bill_len ws (some p) c
    omega

set_option maxHeartbeats 8000000 in
theorem Tryz.matches (ws : List Wy) (ps : List Pt) (c : Co) (hw : ∀ w ∈ ws, w.kind.length ≤ 1000000000000000 ∧ w.maker.length ≤ 1000000000000000) (hwb : ∀ w ∈ ws, (∀ b ∈ w.kind, b < 256) ∧ ∀ b ∈ w.maker, b < 256)
    (hc : c.part.length ≤ 1000000000000000 ∧ c.owner.length ≤ 1000000000000000) (hcb : (∀ b ∈ c.part, b < 256) ∧ ∀ b ∈ c.owner, b < 256) (hlp : ps.length ≤ 1000000000000000)
    (v pv : AV) (h : H) (hv : RdS h v 5 (ws.map Wy.cells)) (hvt : ∀ n, eqTop (n + 1) v v = true) (hp : RdS h pv 14 (ps.map Pt.cells)) (hpv1 : pv.cells = [pv]) (hok : ∀ p ∈ ps, PtOk h p) :
    ACalls Tryz.prog (.func 3) [v, .agg [pv], .agg c.cells] h (fun r h' => r = .bool true ∧ h' = h) := by
  refine ACalls.body (n := 48) Tryz.nogo Tryz.func3 rfl rfl ?_
  rw [argF3]
  have q0 : c.cells[0]? = some (.str c.part) := rfl
  have q1 : c.cells[1]? = some (.str c.owner) := rfl
  have q2 : c.cells[2]? = some (.int .i64 c.day) := rfl
  have q3 : c.cells[3]? = some (.int .i64 c.am) := rfl
  have hch1 : chunkL [pv] 0 1 = some [pv] := rfl
  have hch4 : chunkL c.cells 0 4 = some c.cells := rfl
  obtain ⟨wo, we, wc, hvs⟩ := hv.len
  rw [List.length_map] at hvs
  have hgood : ∀ (f : Nat → AV) (o : Tr AO) (fm : Tr (Nat × Nat)) (kn : Nat), Lv Tryz.prog Tryz.f3 h (fun r h' => r = .bool true ∧ h' = h) .ret ⟨upd f 6 (.bool true), 48, ⟨o, fm, kn, h.next⟩, []⟩ := fun f o fm kn =>
    leaves_plain (v := .bool true) (by rfl) (by rfl) (fun _ => rfl) (by rfl) ⟨rfl, rfl⟩
  have hv0 : RdS ⟨h.objs, h.fams, h.next, h.next⟩ v 5 (ws.map Wy.cells) := ⟨hv.wide, hv.at'⟩
  have hp0 : RdS ⟨h.objs, h.fams, h.next, h.next⟩ pv 14 (ps.map Pt.cells) := ⟨hp.wide, hp.at'⟩
  have hok0 : ∀ p ∈ ps, PtOk ⟨h.objs, h.fams, h.next, h.next⟩ p := fun p hp => let x := hok p hp; ⟨x.one, x.top, x.n, x.k, x.i, x.s, let ⟨l, h1, h2, h3⟩ := x.pr; ⟨l, ⟨h1.wide, h1.at'⟩, h2, h3⟩⟩
  have hone : ∀ p ∈ ps, oneC p.props = true := fun p hp => (hok p hp).one
  (repeat refine AWp.seq ?_); change AWp _ _ _ _ _; refine AWp.region ?_; (repeat (first | refine AOps.v rfl rfl rfl rfl rfl (by simp only [evS, cond_tt, cond_ff, absV, depthV, Nat.reduceEqDiff, Nat.reduceLT, ↓reduceIte, Option.map_some, Option.bind_some, List.toList_toArray, op_box, H.lay]; rfl) ?_ | refine AOps.s rfl rfl rfl ?_ | refine AOps.u rfl rfl rfl rfl (by simp only [evS, cond_tt, cond_ff, absV, depthV, Nat.reduceEqDiff, Nat.reduceLT, ↓reduceIte, Option.map_some, Option.bind_some, List.toList_toArray, op_box, H.lay]; rfl) ?_)); refine AOps.nil ?_
  obtain ⟨O2, hO2⟩ : ∃ X, X = Tr.put (Tr.put h.objs h.next (some (.cells [pv] h.next))) (h.next + 1) (some (.cells c.cells (h.next + 1))) := ⟨_, rfl⟩
  obtain ⟨F2, hF2⟩ : ∃ X, X = Tr.put (Tr.put h.fams h.next (some (h.next, h.next))) (h.next + 1) (some (h.next + 1, h.next + 1)) := ⟨_, rfl⟩
  rw [← hO2, ← hF2]
  have g0 : rowO O2 h.next = some [pv] := by unfold rowO; rw [hO2, put_other _ _ (by omega), put_same]; rfl
  have g1 : rowO O2 (h.next + 1) = some c.cells := by unfold rowO; rw [hO2, put_same]; rfl
  have hov2 : Over h.next ⟨h.objs, h.fams, h.next, h.next⟩ ⟨O2, F2, h.next + 1 + 1, h.next⟩ := Over.mk' (by omega) (fun j hj => by rw [hO2, put_other _ _ (by omega), put_other _ _ (by omega)]) (fun j hj => by rw [hF2, put_other _ _ (by omega), put_other _ _ (by omega)])
  clear hO2 hF2
  have hv2 := rdS_over hov2 hv0
  have hp2 := rdS_over hov2 hp0
  have hok2 : ∀ p ∈ ps, PtOk ⟨O2, F2, h.next + 1 + 1, h.next⟩ p := fun p hp => (hok0 p hp).over hov2
  (repeat refine AWp.seq ?_); change AWp _ _ _ _ _; refine AWp.region ?_; (repeat (first | refine AOps.v rfl rfl rfl rfl rfl (by simp only [evS, cond_tt, cond_ff, absV, depthV, Nat.reduceEqDiff, Nat.reduceLT, ↓reduceIte, Option.map_some, Option.bind_some, List.toList_toArray]; rfl) ?_ | refine AOps.s rfl rfl rfl ?_ | refine AOps.u rfl rfl rfl rfl (by simp only [evS, cond_tt, cond_ff, absV, depthV, Nat.reduceEqDiff, Nat.reduceLT, ↓reduceIte, Option.map_some, Option.bind_some, List.toList_toArray]; rfl) ?_))
  refine AOps.c rfl rfl rfl rfl rfl (by simp only [callOf_val, callW_fn, evS, cond_tt, cond_ff, absV, depthV, Nat.reduceEqDiff, Nat.reduceLT, ↓reduceIte, Option.map_some, Option.bind_some, List.toList_toArray]; rfl) rfl (Tryz.head43 _) ?_; rintro _ _ ⟨rfl, rfl⟩
  (repeat (first | refine AOps.v rfl rfl rfl rfl rfl (by simp only [evS, cond_tt, cond_ff, absV, depthV, Nat.reduceEqDiff, Nat.reduceLT, ↓reduceIte, Option.map_some, Option.bind_some, List.toList_toArray]; rfl) ?_ | refine AOps.s rfl rfl rfl ?_ | refine AOps.u rfl rfl rfl rfl (by simp only [evS, cond_tt, cond_ff, absV, depthV, Nat.reduceEqDiff, Nat.reduceLT, ↓reduceIte, Option.map_some, Option.bind_some, List.toList_toArray]; rfl) ?_))
  refine AOps.nil ?_
  -- the guard
  (repeat refine AWp.seq ?_); change AWp _ _ _ _ _; refine AWp.region ?_; (repeat (first | refine AOps.v rfl rfl rfl rfl rfl (by simp only [evS, cond_tt, cond_ff, absV, depthV, Nat.reduceEqDiff, Nat.reduceLT, ↓reduceIte, Option.map_some, Option.bind_some, List.toList_toArray, Tryz.tw, H.lay, Nat.zero_add, Nat.add_zero, ↓reduceIte, List.getElem?_cons_zero, List.getElem?_cons_succ, g1, hch4]; rfl) ?_ | refine AOps.s rfl rfl rfl ?_ | refine AOps.u rfl rfl rfl rfl (by simp only [evS, cond_tt, cond_ff, absV, depthV, Nat.reduceEqDiff, Nat.reduceLT, ↓reduceIte, Option.map_some, Option.bind_some, List.toList_toArray, Tryz.tw, H.lay, Nat.zero_add, Nat.add_zero, ↓reduceIte, List.getElem?_cons_zero, List.getElem?_cons_succ, g1, hch4]; rfl) ?_))
  refine AOps.c rfl rfl rfl rfl rfl (by simp only [callOf_val, callW_fn, evS, cond_tt, cond_ff, absV, depthV, Nat.reduceEqDiff, Nat.reduceLT, ↓reduceIte, Option.map_some, Option.bind_some, List.toList_toArray]; rfl) rfl (Tryz.fewCost ws c hw hc _ _ hv2) ?_; rintro _ _ ⟨rfl, rfl⟩
  cases e1 : fewW ws c
  case false =>
    (repeat (first | refine AOps.v rfl rfl rfl rfl rfl (by simp only [evS, cond_tt, cond_ff, absV, depthV, Nat.reduceEqDiff, Nat.reduceLT, ↓reduceIte, Option.map_some, Option.bind_some, List.toList_toArray]; rfl) ?_ | refine AOps.s rfl rfl rfl ?_ | refine AOps.u rfl rfl rfl rfl (by simp only [evS, cond_tt, cond_ff, absV, depthV, Nat.reduceEqDiff, Nat.reduceLT, ↓reduceIte, Option.map_some, Option.bind_some, List.toList_toArray]; rfl) ?_))
    refine AOps.nil ?_
    (repeat refine AWp.seq ?_); change AWp _ _ _ _ _; refine AWp.yes (by rfl) (by rfl) ?_
    (repeat refine AWp.seq ?_); change AWp _ _ _ _ _; refine AWp.region ?_; (repeat (first | refine AOps.v rfl rfl rfl rfl rfl (by simp only [evS, cond_tt, cond_ff, absV, depthV, Nat.reduceEqDiff, Nat.reduceLT, ↓reduceIte, Option.map_some, Option.bind_some, List.toList_toArray]; rfl) ?_ | refine AOps.s rfl rfl rfl ?_ | refine AOps.u rfl rfl rfl rfl (by simp only [evS, cond_tt, cond_ff, absV, depthV, Nat.reduceEqDiff, Nat.reduceLT, ↓reduceIte, Option.map_some, Option.bind_some, List.toList_toArray]; rfl) ?_)); refine AOps.nil ?_
    refine AWp.ret ?_
    (try simp only [OutOf, Then, Round, NoGoto])
    exact hgood _ _ _ _
  (repeat (first | refine AOps.v rfl rfl rfl rfl rfl (by simp only [evS, cond_tt, cond_ff, absV, depthV, Nat.reduceEqDiff, Nat.reduceLT, ↓reduceIte, Option.map_some, Option.bind_some, List.toList_toArray, Tryz.tw, H.lay, Nat.zero_add, Nat.add_zero, ↓reduceIte, List.getElem?_cons_zero, List.getElem?_cons_succ, g0, hch1]; rfl) ?_ | refine AOps.s rfl rfl rfl ?_ | refine AOps.u rfl rfl rfl rfl (by simp only [evS, cond_tt, cond_ff, absV, depthV, Nat.reduceEqDiff, Nat.reduceLT, ↓reduceIte, Option.map_some, Option.bind_some, List.toList_toArray, Tryz.tw, H.lay, Nat.zero_add, Nat.add_zero, ↓reduceIte, List.getElem?_cons_zero, List.getElem?_cons_succ, g0, hch1]; rfl) ?_))
  refine AOps.c rfl rfl rfl rfl rfl (by simp only [callOf_val, callW_fn, evS, cond_tt, cond_ff, absV, depthV, Nat.reduceEqDiff, Nat.reduceLT, ↓reduceIte, Option.map_some, Option.bind_some, List.toList_toArray]; rfl) rfl (Tryz.fewState ps 15 hlp _ ⟨O2, F2, h.next + 1 + 1, h.next⟩ hp2 hok2) ?_
  rintro _ _ ⟨b1, rfl, rfl, hb1⟩
  cases b1
  case false =>
    (repeat (first | refine AOps.v rfl rfl rfl rfl rfl (by simp only [evS, cond_tt, cond_ff, absV, depthV, Nat.reduceEqDiff, Nat.reduceLT, ↓reduceIte, Option.map_some, Option.bind_some, List.toList_toArray]; rfl) ?_ | refine AOps.s rfl rfl rfl ?_ | refine AOps.u rfl rfl rfl rfl (by simp only [evS, cond_tt, cond_ff, absV, depthV, Nat.reduceEqDiff, Nat.reduceLT, ↓reduceIte, Option.map_some, Option.bind_some, List.toList_toArray]; rfl) ?_))
    refine AOps.nil ?_
    (repeat refine AWp.seq ?_); change AWp _ _ _ _ _; refine AWp.yes (by rfl) (by rfl) ?_
    (repeat refine AWp.seq ?_); change AWp _ _ _ _ _; refine AWp.region ?_; (repeat (first | refine AOps.v rfl rfl rfl rfl rfl (by simp only [evS, cond_tt, cond_ff, absV, depthV, Nat.reduceEqDiff, Nat.reduceLT, ↓reduceIte, Option.map_some, Option.bind_some, List.toList_toArray]; rfl) ?_ | refine AOps.s rfl rfl rfl ?_ | refine AOps.u rfl rfl rfl rfl (by simp only [evS, cond_tt, cond_ff, absV, depthV, Nat.reduceEqDiff, Nat.reduceLT, ↓reduceIte, Option.map_some, Option.bind_some, List.toList_toArray]; rfl) ?_)); refine AOps.nil ?_
    refine AWp.ret ?_
    (try simp only [OutOf, Then, Round, NoGoto])
    exact hgood _ _ _ _
  have hlp15 : (ps.length : Int) ≤ 15 := hb1 rfl
  (repeat (first | refine AOps.v rfl rfl rfl rfl rfl (by simp only [evS, cond_tt, cond_ff, absV, depthV, Nat.reduceEqDiff, Nat.reduceLT, ↓reduceIte, Option.map_some, Option.bind_some, List.toList_toArray]; rfl) ?_ | refine AOps.s rfl rfl rfl ?_ | refine AOps.u rfl rfl rfl rfl (by simp only [evS, cond_tt, cond_ff, absV, depthV, Nat.reduceEqDiff, Nat.reduceLT, ↓reduceIte, Option.map_some, Option.bind_some, List.toList_toArray]; rfl) ?_))
  refine AOps.nil ?_
  (repeat refine AWp.seq ?_); change AWp _ _ _ _ _; refine AWp.no (by rfl) (by rfl) (AWp.skip ?_)
  have hfw : ws.length ≤ 6 ∧ (∀ w ∈ ws, w.fits) ∧ c.fits := by
    unfold fewW at e1
    rw [Bool.and_eq_true, Bool.and_eq_true, List.all_eq_true] at e1
    obtain ⟨f1, f2, f3⟩ := e1
    have f1 := of_decide_eq_true f1
    have f3 := of_decide_eq_true f3
    refine ⟨f1, fun w hwm => ?_, ⟨by omega, hcb.1, by omega, hcb.2⟩⟩
    have := f2 w hwm
    unfold Wy.few at this
    have := of_decide_eq_true this
    exact ⟨by omega, (hwb w hwm).1, by omega, (hwb w hwm).2⟩
  obtain ⟨hlw, hwf, hcf⟩ := hfw
  (repeat refine AWp.seq ?_); change AWp _ _ _ _ _; refine AWp.region ?_; (repeat (first | refine AOps.v rfl rfl rfl rfl rfl (by simp only [evS, cond_tt, cond_ff, absV, depthV, Nat.reduceEqDiff, Nat.reduceLT, ↓reduceIte, Option.map_some, Option.bind_some, List.toList_toArray, Tryz.tw, H.lay, Nat.zero_add, Nat.add_zero, ↓reduceIte, List.getElem?_cons_zero, List.getElem?_cons_succ, g0, g1, hch1, hch4]; rfl) ?_ | refine AOps.s rfl rfl rfl ?_ | refine AOps.u rfl rfl rfl rfl (by simp only [evS, cond_tt, cond_ff, absV, depthV, Nat.reduceEqDiff, Nat.reduceLT, ↓reduceIte, Option.map_some, Option.bind_some, List.toList_toArray, Tryz.tw, H.lay, Nat.zero_add, Nat.add_zero, ↓reduceIte, List.getElem?_cons_zero, List.getElem?_cons_succ, g0, g1, hch1, hch4]; rfl) ?_))
  refine AOps.c rfl rfl rfl rfl rfl (by simp only [callOf_val, callW_fn, evS, cond_tt, cond_ff, absV, depthV, Nat.reduceEqDiff, Nat.reduceLT, ↓reduceIte, Option.map_some, Option.bind_some, List.toList_toArray]; rfl) rfl (Tryz.shares ws ps c (by omega) (by omega) hwf hcf _ _ ⟨O2, F2, h.next + 1 + 1, h.next⟩ hv2 hp2 hpv1 hone) ?_
  rintro _ ⟨o3, f3, n3, l3⟩ ⟨code, lv, ss, rfl, hov3, hrd3, htop3, hc3⟩
  have hl3 : l3 = h.next := hov3.low (show h.next ≤ h.next + 1 + 1 by omega)
  subst hl3
  have hn3 : h.next + 1 + 1 ≤ n3 := hov3.next
  have g03 : rowO o3 h.next = some [pv] := rowO_of g0 (hov3.objs h.next (by show h.next < h.next + 1 + 1; omega))
  have g13 : rowO o3 (h.next + 1) = some c.cells := rowO_of g1 (hov3.objs (h.next + 1) (by show h.next + 1 < h.next + 1 + 1; omega))
  have hv3 := rdS_over hov3 hv2
  have hp3 := rdS_over hov3 hp2
  have hok3 : ∀ p ∈ ps, PtOk ⟨o3, f3, n3, h.next⟩ p := fun p hp => (hok2 p hp).over hov3
  (repeat (first | refine AOps.v rfl rfl rfl rfl rfl (by simp only [evS, cond_tt, cond_ff, absV, depthV, Nat.reduceEqDiff, Nat.reduceLT, ↓reduceIte, Option.map_some, Option.bind_some, List.toList_toArray]; rfl) ?_ | refine AOps.s rfl rfl rfl ?_ | refine AOps.u rfl rfl rfl rfl (by simp only [evS, cond_tt, cond_ff, absV, depthV, Nat.reduceEqDiff, Nat.reduceLT, ↓reduceIte, Option.map_some, Option.bind_some, List.toList_toArray]; rfl) ?_))
  refine AOps.nil ?_
  (repeat refine AWp.seq ?_); change AWp _ _ _ _ _; refine AWp.region ?_; (repeat (first | refine AOps.v rfl rfl rfl rfl rfl (by simp only [evS, cond_tt, cond_ff, absV, depthV, Nat.reduceEqDiff, Nat.reduceLT, ↓reduceIte, Option.map_some, Option.bind_some, List.toList_toArray, Tryz.tw, H.lay, Nat.zero_add, Nat.add_zero, ↓reduceIte, List.getElem?_cons_zero, List.getElem?_cons_succ, g03, g13, hch1, hch4]; rfl) ?_ | refine AOps.s rfl rfl rfl ?_ | refine AOps.u rfl rfl rfl rfl (by simp only [evS, cond_tt, cond_ff, absV, depthV, Nat.reduceEqDiff, Nat.reduceLT, ↓reduceIte, Option.map_some, Option.bind_some, List.toList_toArray, Tryz.tw, H.lay, Nat.zero_add, Nat.add_zero, ↓reduceIte, List.getElem?_cons_zero, List.getElem?_cons_succ, g03, g13, hch1, hch4]; rfl) ?_))
  refine AOps.c rfl rfl rfl rfl rfl (by simp only [callOf_val, callW_fn, evS, cond_tt, cond_ff, absV, depthV, Nat.reduceEqDiff, Nat.reduceLT, ↓reduceIte, Option.map_some, Option.bind_some, List.toList_toArray]; rfl) rfl (Tryz.sharesR ws ps c (by omega) (by omega) hwf hcf v pv ⟨o3, f3, n3, h.next⟩ hv3 hp3 hpv1 hok3) ?_
  rintro _ ⟨o4, f4, n4, l4⟩ ⟨code2, lv2, ss2, rfl, hov4, hrd4, htop4, hc4⟩
  have hl4 : l4 = h.next := hov4.low (show h.next ≤ n3 by omega)
  subst hl4
  obtain ⟨rfl, rfl, hsl⟩ := match_plain hc3 hc4
  have hrd3' : RdZ ⟨o4, f4, n4, h.next⟩ lv ss := rdS_over hov4 hrd3
  (repeat (first | refine AOps.v rfl rfl rfl rfl rfl (by simp only [evS, cond_tt, cond_ff, absV, depthV, Nat.reduceEqDiff, Nat.reduceLT, ↓reduceIte, Option.map_some, Option.bind_some, List.toList_toArray]; rfl) ?_ | refine AOps.s rfl rfl rfl ?_ | refine AOps.u rfl rfl rfl rfl (by simp only [evS, cond_tt, cond_ff, absV, depthV, Nat.reduceEqDiff, Nat.reduceLT, ↓reduceIte, Option.map_some, Option.bind_some, List.toList_toArray]; rfl) ?_))
  refine AOps.nil ?_
  have hsame := Tryz.same43 ss ss hsl lv lv2 ⟨o4, f4, n4, h.next⟩ hrd3' hrd4
  rw [decide_eq_true (rfl : ss = ss)] at hsame
  have hcc : decide (code = code) = true := by simp
  (repeat refine AWp.seq ?_); change AWp _ _ _ _ _; refine AWp.region ?_; (repeat (first | refine AOps.v rfl rfl rfl rfl rfl (by simp only [evS, cond_tt, cond_ff, absV, depthV, Nat.reduceEqDiff, Nat.reduceLT, ↓reduceIte, Option.map_some, Option.bind_some, List.toList_toArray, hcc]; rfl) ?_ | refine AOps.s rfl rfl rfl ?_ | refine AOps.u rfl rfl rfl rfl (by simp only [evS, cond_tt, cond_ff, absV, depthV, Nat.reduceEqDiff, Nat.reduceLT, ↓reduceIte, Option.map_some, Option.bind_some, List.toList_toArray, hcc]; rfl) ?_))
  refine AOps.c rfl rfl rfl rfl rfl (by simp only [callOf_val, callW_fn, evS, cond_tt, cond_ff, absV, depthV, Nat.reduceEqDiff, Nat.reduceLT, ↓reduceIte, Option.map_some, Option.bind_some, List.toList_toArray]; rfl) rfl (hsame) ?_; rintro _ _ ⟨rfl, rfl⟩
  (repeat (first | refine AOps.v rfl rfl rfl rfl rfl (by simp only [evS, cond_tt, cond_ff, absV, depthV, Nat.reduceEqDiff, Nat.reduceLT, ↓reduceIte, Option.map_some, Option.bind_some, List.toList_toArray]; rfl) ?_ | refine AOps.s rfl rfl rfl ?_ | refine AOps.u rfl rfl rfl rfl (by simp only [evS, cond_tt, cond_ff, absV, depthV, Nat.reduceEqDiff, Nat.reduceLT, ↓reduceIte, Option.map_some, Option.bind_some, List.toList_toArray]; rfl) ?_))
  refine AOps.nil ?_
  refine AWp.ret ?_
  (try simp only [OutOf, Then, Round, NoGoto])
  exact hgood _ _ _ _

end Go.Proofs

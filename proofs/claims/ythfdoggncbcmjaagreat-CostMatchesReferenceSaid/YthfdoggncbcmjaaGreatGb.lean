/- Equality, keys, arithmetic: the evaluator's values and the model's. No conditions beyond those that each theorem states. -/
import Derived.Test.YthfdoggncbcmjaaGreatGa
import Derived.Laws.StructEq

set_option linter.unusedSimpArgs false
set_option linter.unusedVariables false
set_option linter.unusedSectionVars false

namespace Go.Ev

/-! ### Strings -/

theorem toNat_inj_list : ∀ (x y : List UInt8), x.map (·.toNat) = y.map (·.toNat) → x = y
  | [], [], _ => rfl
  | [], b :: y, h => by simp at h
  | a :: x, [], h => by simp at h
  | a :: x, b :: y, h => by
    simp only [List.map_cons, List.cons.injEq] at h
    rw [UInt8.toNat_inj.1 h.1, toNat_inj_list x y h.2]

theorem eqL_bytes {a b : List Nat} {s t : ByteArray} (h : s.data.toList.map (·.toNat) = a) (k : t.data.toList.map (·.toNat) = b) : eqL a b = (s.toList == t.toList) := by
  rw [eqL_iff, ByteArray.toList_eq, ByteArray.toList_eq, ← h, ← k]
  by_cases e : s.data.toList = t.data.toList
  · simp [e]
  · have : ¬ (s.data.toList.map (·.toNat) = t.data.toList.map (·.toNat)) := fun h => e (toNat_inj_list _ _ h)
    simp only [this, decide_false]
    symm
    exact beq_eq_false_iff_ne.2 e

theorem ltL_bytes : ∀ (x y : List UInt8), ltL (x.map (·.toNat)) (y.map (·.toNat)) = Op.bytesLess x y
  | x, [] => by cases x <;> simp [ltL, Op.bytesLess]
  | [], b :: y => by simp [ltL, Op.bytesLess]
  | a :: x, b :: y => by
    simp only [List.map_cons, ltL, Op.bytesLess, ltL_bytes x y]
    have e1 : Nat.blt a.toNat b.toNat = decide (a < b) := by
      cases h : Nat.blt a.toNat b.toNat
      · have := bltN_ne h; symm; simp [UInt8.lt_iff_toNat_lt]; omega
      · have := bltN h; symm; simp [UInt8.lt_iff_toNat_lt]; omega
    have e2 : Nat.beq a.toNat b.toNat = (a == b) := by
      cases h : Nat.beq a.toNat b.toNat
      · have := beqN_ne h; symm; simp; intro e; subst e; exact this rfl
      · have := beqN h; symm; simp; exact UInt8.toNat_inj.1 this
    rw [e1, e2]

theorem size_str {l : List Nat} {s : ByteArray} (h : s.data.toList.map (·.toNat) = l) : s.size = l.length := by
  rw [← h, List.length_map, Array.length_toList]; rfl

/-! ### Equality -/

theorem run_eqFields {P : Program} {σ : Sg} {w : World} {d D : Nat} (ih : ∀ (t : TypeId) (x y : AV) (v u : Value) (b : Bool), eqA P d t x y = some b → V σ x v → V σ y u → (Op.equalIn D t v u).run P w = .ok b w)
    {xs ys : List AV} {vs us : Array Value} (hx : VL σ xs vs.toList) (hy : VL σ ys us.toList) : ∀ (fs : List Field) (b : Bool), eqFields P (eqA P d) fs xs ys = some b → (Op.eqFields D vs us fs).run P w = .ok b w
  | [], b, h => by simp [eqFields] at h; subst h; rfl
  | f :: fs, b, h => by
    simp only [eqFields] at h
    cases hn : f.name == "_"
    · rw [hn, cond_ff] at h
      have hne : f.name ≠ "_" := by simpa using hn
      cases h1 : partA P f.type xs f.offset with
      | none => simp [h1] at h
      | some a =>
        cases h2 : partA P f.type ys f.offset with
        | none => simp [h1, h2] at h
        | some c =>
          simp only [h1, h2] at h
          obtain ⟨v, hv, hV⟩ := partA_run (w := w) hx h1
          obtain ⟨u, hu, hU⟩ := partA_run (w := w) hy h2
          simp only [Op.eqFields, hne, ne_eq, not_false_eq_true, if_true, Sem.run_bind, hv, Result.andThen_ok, hu]
          cases h3 : eqA P d f.type a c with
          | none => simp [h3] at h
          | some r =>
            rw [ih _ _ _ _ _ _ h3 hV hU]
            cases r
            · simp [h3] at h; subst h; simp
            · simp only [h3] at h
              simp only [Result.andThen_ok, Bool.not_true, Bool.false_eq_true, if_false]
              exact run_eqFields ih hx hy fs b h
    · simp [hn] at h

theorem run_eqElems {P : Program} {σ : Sg} {w : World} {d D e s : Nat} (ih : ∀ (t : TypeId) (x y : AV) (v u : Value) (b : Bool), eqA P d t x y = some b → V σ x v → V σ y u → (Op.equalIn D t v u).run P w = .ok b w)
    {xs ys : List AV} {vs us : Array Value} (hx : VL σ xs vs.toList) (hy : VL σ ys us.toList) : ∀ (m i : Nat) (b : Bool), eqElems P (eqA P d e) e s xs ys m i = some b →
    (forIn (m := Sem) (List.range' i m) ((none, ()) : Option Bool × Unit) fun i _ => do
        let a ← part e vs (i * s)
        let c ← part e us (i * s)
        let q ← Op.equalIn D e a c
        if (!q) = true then pure (.done (some false, ())) else pure (.yield (none, ()))).run P w = .ok (if b then (none, ()) else (some false, ())) w
  | 0, i, b, h => by simp [eqElems] at h; subst h; simp
  | m + 1, i, b, h => by
    simp only [eqElems] at h
    cases h1 : partA P e xs (i * s) with
    | none => simp [h1] at h
    | some a =>
      cases h2 : partA P e ys (i * s) with
      | none => simp [h1, h2] at h
      | some c =>
        simp only [h1, h2] at h
        obtain ⟨v, hv, hV⟩ := partA_run (w := w) hx h1
        obtain ⟨u, hu, hU⟩ := partA_run (w := w) hy h2
        rw [List.range'_succ, List.forIn_cons]
        simp only [Sem.run_bind, hv, Result.andThen_ok, hu]
        cases h3 : eqA P d e a c with
        | none => simp [h3] at h
        | some r =>
          rw [ih _ _ _ _ _ _ h3 hV hU]
          cases r
          · simp [h3] at h; subst h; simp
          · simp only [h3] at h
            simp only [Result.andThen_ok, Bool.not_true, Bool.false_eq_true, if_false, Sem.run_pure]
            exact run_eqElems ih hx hy m (i + 1) b h

theorem eqA_run {P : Program} {σ : Sg} {w : World} (k : Nat) : ∀ (d : Nat) (t : TypeId) (x y : AV) (v u : Value) (b : Bool), eqA P d t x y = some b → V σ x v → V σ y u → (Op.equalIn (d + k) t v u).run P w = .ok b w := by
  intro d
  induction d with
  | zero => intro t x y v u b h; simp [eqA] at h
  | succ d ih =>
    intro t x y v u b h hv hu
    rw [show d + 1 + k = (d + k) + 1 by omega]
    simp only [eqA] at h
    split at h
    case h_1 hu' => simp only [Option.some.injEq] at h; subst h; cases hv; cases hu; simp [Op.equalIn, run_und hu']
    case h_2 hu' =>
      obtain ⟨hk, h⟩ := cond_some h
      simp only [Option.some.injEq] at h; subst h
      have := (kEq_iff _ _).1 hk; subst this
      cases hv; cases hu; simp [Op.equalIn, run_und hu', eqI_iff]
    case h_3 hu' =>
      simp only [Option.some.injEq] at h; subst h
      cases hv with
      | str h1 => cases hu with
        | str h2 => simp [Op.equalIn, run_und hu', eqL_bytes h1 h2, beq_toListBytes]
    case h_4 hu' =>
      simp only [Option.some.injEq] at h; subst h
      cases hv; cases hu <;> simp [Op.equalIn, run_und hu']
    case h_5 hu' => simp only [Option.some.injEq] at h; subst h; cases hv; cases hu; simp [Op.equalIn, run_und hu']
    case h_6 hu' =>
      simp only [Option.some.injEq] at h; subst h
      cases hv; cases hu <;> simp [Op.equalIn, run_und hu']
    case h_7 hu' => simp only [Option.some.injEq] at h; subst h; cases hv; cases hu; simp [Op.equalIn, run_und hu']
    case h_8 hu' =>
      simp only [Option.some.injEq] at h; subst h
      cases hv; cases hu <;> simp [Op.equalIn, run_und hu']
    case h_9 hu' => simp only [Option.some.injEq] at h; subst h; cases hv; cases hu; simp [Op.equalIn, run_und hu']
    case h_10 hu' => simp only [Option.some.injEq] at h; subst h; cases hv; cases hu; simp [Op.equalIn, run_und hu']
    case h_11 hu' => simp only [Option.some.injEq] at h; subst h; cases hv; cases hu <;> simp [Op.equalIn, run_und hu']
    case h_12 hu' => simp only [Option.some.injEq] at h; subst h; cases hu; cases hv <;> simp [Op.equalIn, run_und hu']
    case h_13 fs xs ys hu' =>
      cases hs : P.stoodInHeld t
      · rw [hs, cond_ff] at h
        obtain ⟨vs, rfl, hvs⟩ := hv.of_agg
        obtain ⟨us, rfl, hus⟩ := hu.of_agg
        have hf : P.fieldsOf t = fs := by simp [Program.fieldsOf, hu']
        rw [run_equalIn_struct w (d + k) t vs us (by rw [hf]; exact hu') hs, hf]
        exact run_eqFields (fun t x y v u b h h1 h2 => ih t x y v u b h h1 h2) hvs hus _ _ h
      · simp [hs] at h
    case h_14 n e xs ys hu' =>
      cases hs : sizeA P e with
      | none => simp [hs] at h
      | some s =>
        simp only [hs, Option.bind_some] at h
        obtain ⟨vs, rfl, hvs⟩ := hv.of_agg
        obtain ⟨us, rfl, hus⟩ := hu.of_agg
        have hr := run_eqElems (fun t x y v u b h h1 h2 => ih t x y v u b h h1 h2) hvs hus n 0 b h
        simp only [Op.equalIn, Sem.run_bind, run_und hu', Result.andThen_ok, run_sizeOf' hs]
        simp only [Std.Legacy.Range.forIn_eq_forIn_range', Std.Legacy.Range.size, Nat.sub_zero, Nat.add_sub_cancel, Nat.div_one]
        rw [hr]
        cases b <;> simp
    case h_15 => simp at h

/-! ### Keys -/

theorem run_ckFields {P : Program} {σ : Sg} {w : World} {em : Bool} {D : Nat} {ck : TypeId → AV → Bool} (ih : ∀ (t : TypeId) (x : AV) (v : Value), ck t x = true → V σ x v → (Instr.checkKey em D t v).run P w = .ok () w)
    {xs : List AV} {vs : Array Value} (hx : VL σ xs vs.toList) : ∀ (fs : List Field), ckFields P ck fs xs = true →
    (forIn (m := Sem) fs PUnit.unit fun f _ => if f.name ≠ "_" then do
        let a ← part f.type vs f.offset
        Instr.checkKey em D f.type a
        pure (.yield PUnit.unit) else pure (.yield PUnit.unit)).run P w = .ok PUnit.unit w
  | [], _ => by simp
  | f :: fs, h => by
    simp only [ckFields, Bool.and_eq_true] at h
    obtain ⟨h1, h2, h3⟩ := h
    have hne : f.name ≠ "_" := by simpa using h1
    cases h4 : partA P f.type xs f.offset with
    | none => simp [h4] at h2
    | some a =>
      simp only [h4] at h2
      obtain ⟨v, hv, hV⟩ := partA_run (w := w) hx h4
      rw [List.forIn_cons]
      simp only [hne, ne_eq, not_false_eq_true, if_true, Sem.run_bind, hv, Result.andThen_ok, ih _ _ _ h2 hV, Sem.run_pure]
      exact run_ckFields ih hx fs h3

theorem run_ckElems {P : Program} {σ : Sg} {w : World} {em : Bool} {D e s : Nat} {ck : AV → Bool} (ih : ∀ (x : AV) (v : Value), ck x = true → V σ x v → (Instr.checkKey em D e v).run P w = .ok () w)
    {xs : List AV} {vs : Array Value} (hx : VL σ xs vs.toList) (hs : sizeA P e = some s) : ∀ (m i : Nat), ckElems P ck e s xs m i = true →
    (forIn (m := Sem) (List.range' i m) PUnit.unit fun i _ => do
        let n ← sizeOf e
        let a ← part e vs (i * n)
        Instr.checkKey em D e a
        pure (.yield PUnit.unit)).run P w = .ok PUnit.unit w
  | 0, i, _ => by simp
  | m + 1, i, h => by
    simp only [ckElems, Bool.and_eq_true] at h
    obtain ⟨h1, h2⟩ := h
    cases h4 : partA P e xs (i * s) with
    | none => simp [h4] at h1
    | some a =>
      simp only [h4] at h1
      obtain ⟨v, hv, hV⟩ := partA_run (w := w) hx h4
      rw [List.range'_succ, List.forIn_cons]
      simp only [Sem.run_bind, run_sizeOf' hs, hv, Result.andThen_ok, ih _ _ h1 hV, Sem.run_pure]
      exact run_ckElems ih hx hs m (i + 1) h2

theorem ckA_run {P : Program} {σ : Sg} {w : World} (em : Bool) (k : Nat) : ∀ (d : Nat) (t : TypeId) (x : AV) (v : Value), ckA P d t x = true → V σ x v → (Instr.checkKey em (d + k) t v).run P w = .ok () w := by
  intro d
  induction d with
  | zero => intro t x v h; simp [ckA] at h
  | succ d ih =>
    intro t x v h hv
    rw [show d + 1 + k = (d + k) + 1 by omega]
    simp only [ckA] at h
    split at h
    case h_1 hu => cases hv; simp [Instr.checkKey, run_und hu]
    case h_2 hu => cases hv; simp [Instr.checkKey, run_und hu]
    case h_3 hu => cases hv; simp [Instr.checkKey, run_und hu]
    case h_4 fs xs hu =>
      obtain ⟨vs, rfl, hvs⟩ := hv.of_agg
      have := run_ckFields (w := w) (em := em) (fun t x v h1 h2 => ih t x v h1 h2) hvs fs.toList h
      simp only [Instr.checkKey, Sem.run_bind, run_und hu, Result.andThen_ok]
      rw [← Array.forIn_toList, this]
      simp
    case h_5 n e xs hu =>
      cases hs : sizeA P e with
      | none => simp [hs] at h
      | some s =>
        simp only [hs] at h
        obtain ⟨vs, rfl, hvs⟩ := hv.of_agg
        have := run_ckElems (w := w) (em := em) (fun x v h1 h2 => ih e x v h1 h2) hvs hs n 0 h
        simp only [Instr.checkKey, Sem.run_bind, run_und hu, Result.andThen_ok]
        simp only [Std.Legacy.Range.forIn_eq_forIn_range', Std.Legacy.Range.size, Nat.sub_zero, Nat.add_sub_cancel, Nat.div_one]
        rw [this]
        simp
    case h_6 => simp at h

theorem keyA_run {P : Program} {σ : Sg} {w : World} {t : TypeId} {x : AV} {v : Value} (h : keyA P t x = true) (hv : V σ x v) (em : Bool) : (Instr.checkKey em 10000 t v).run P w = .ok () w :=
  ckA_run em 9996 4 t x v h hv

/-- The entries of a map, place by place. -/
def EL (σ : Sg) (es : List (AV × AV × Nat)) (es' : List MapEntry) : Prop := es.length = es'.length ∧ ∀ (i : Nat) (e : AV × AV × Nat) (m : MapEntry), es[i]? = some e → es'[i]? = some m → ER σ e m

theorem EL.cons {σ : Sg} {e : AV × AV × Nat} {es : List (AV × AV × Nat)} {l : List MapEntry} (h : EL σ (e :: es) l) : ∃ m l', l = m :: l' ∧ ER σ e m ∧ EL σ es l' := by
  cases l with
  | nil => have := h.1; simp at this
  | cons m l' => exact ⟨m, l', rfl, h.2 0 e m (by simp) (by simp), by have := h.1; simpa using this, fun i x y hx hy => h.2 (i + 1) x y (by simpa using hx) (by simpa using hy)⟩

theorem EL.nil {σ : Sg} {l : List MapEntry} (h : EL σ [] l) : l = [] := by
  cases l with
  | nil => rfl
  | cons m l' => have := h.1; simp at this

/-- What findA says of the place: counted on from i. -/
def found (r : Option Nat) (i : Nat) (l : List MapEntry) : Option (Nat × Value) := match r with
  | none => none
  | some j => (l[j - i]?).map fun m => (j, m.val)

theorem findA_ge {P : Program} {kt : TypeId} {k : AV} : ∀ (es : List (AV × AV × Nat)) (i j : Nat), findA P kt k es i = some (some j) → i ≤ j ∧ j < i + es.length
  | [], i, j, h => by simp [findA] at h
  | e :: es, i, j, h => by
    simp only [findA] at h
    split at h
    · simp at h; subst h; simp
    · have := findA_ge es (i + 1) j h; simp; omega
    · simp at h

theorem found_step {r : Option Nat} {i : Nat} {m : MapEntry} {l : List MapEntry} (h : ∀ j, r = some j → i + 1 ≤ j) : found r i (m :: l) = found r (i + 1) l := by
  cases r with
  | none => rfl
  | some j => have := h j rfl; simp only [found]; rw [show j - i = (j - (i + 1)) + 1 by omega, List.getElem?_cons_succ]

theorem findAsking_run {P : Program} {σ : Sg} {w : World} {kt : TypeId} {k : AV} {v : Value} (hk : V σ k v) : ∀ (es : List (AV × AV × Nat)) (l : List MapEntry) (i : Nat) (r : Option Nat),
    findA P kt k es i = some r → EL σ es l → (Instr.findAsking kt v l i).run P w = .ok (found r i l) w
  | [], l, i, r, h, hl => by have := hl.nil; subst this; simp [findA] at h; subst h; simp [Instr.findAsking, found]
  | e :: es, l, i, r, h, hl => by
    obtain ⟨m, l', rfl, he, hl'⟩ := hl.cons
    simp only [findA] at h
    cases h1 : eqA P 4 kt k e.1 with
    | none => simp [h1] at h
    | some b =>
      have hr : (Op.equal kt v m.key).run P w = .ok b w := eqA_run 9996 4 kt k e.1 v m.key b h1 hk he.1
      simp only [Instr.findAsking, Sem.run_bind, hr, Result.andThen_ok]
      cases b
      · simp only [h1] at h
        rw [if_neg (by simp), findAsking_run hk es l' (i + 1) r h hl']
        rw [found_step]
        intro j hj; subst hj; exact (findA_ge es (i + 1) j h).1
      · simp only [h1, Option.some.injEq] at h
        subst h
        simp [found]

theorem sameNow_of {P : Program} {σ : Sg} {d : Nat} {kt : TypeId} {kd : TypeDesc} (hu : P.underlying kt = some kd) {x y : AV} {v u : Value} {b c : Bool} (h : eqA P (d + 1) kt x y = some b) (hx : V σ x v) (hy : V σ y u) (hn : Instr.sameNow kd v u = some c) : c = b := by
  simp only [eqA, hu] at h
  unfold Instr.sameNow at hn
  split at hn
  · cases hx; cases hy
    obtain ⟨h1, h2⟩ := cond_some h
    have := (kEq_iff _ _).1 h1; subst this
    simp only [if_true, Option.some.injEq] at hn h2
    rw [← hn, ← h2, eqI_iff]
  · cases hx with
    | str h1 => cases hy with
      | str h2 =>
        simp only [Option.some.injEq] at h hn
        rw [← hn, ← h, eqL_bytes h1 h2, beq_toListBytes]
  · cases hx; cases hy
    simp only [Option.some.injEq] at h hn
    rw [← hn, ← h]
  · simp at hn

theorem findNow_of {P : Program} {σ : Sg} {kt : TypeId} {kd : TypeDesc} (hu : P.underlying kt = some kd) {k : AV} {v : Value} (hk : V σ k v) : ∀ (es : List (AV × AV × Nat)) (l : List MapEntry) (i : Nat) (r : Option Nat) (q : Option (Nat × Value)),
    findA P kt k es i = some r → EL σ es l → Instr.findNow kd v l i = some q → q = found r i l
  | [], l, i, r, q, h, hl, hn => by have := hl.nil; subst this; simp [findA] at h; subst h; simp [Instr.findNow] at hn; subst hn; rfl
  | e :: es, l, i, r, q, h, hl, hn => by
    obtain ⟨m, l', rfl, he, hl'⟩ := hl.cons
    simp only [findA] at h
    cases h1 : eqA P 4 kt k e.1 with
    | none => simp [h1] at h
    | some b =>
      simp only [Instr.findNow] at hn
      cases hs : Instr.sameNow kd v m.key with
      | none => simp [hs] at hn
      | some c =>
        have := sameNow_of hu h1 hk he.1 hs
        subst this
        cases c
        · simp only [h1] at h
          simp only [hs] at hn
          rw [findNow_of hu hk es l' (i + 1) r q h hl' hn, found_step]
          intro j hj; subst hj; exact (findA_ge es (i + 1) j h).1
        · simp only [h1, Option.some.injEq] at h
          simp only [hs, Option.some.injEq] at hn
          subst h; subst hn
          simp [found]

theorem findKey_run {P : Program} {σ : Sg} {w : World} {kt : TypeId} {kd : TypeDesc} (hu : P.underlying kt = some kd) {k : AV} {v : Value} (hk : V σ k v) {es : List (AV × AV × Nat)} {l : List MapEntry} {r : Option Nat}
    (h : findA P kt k es 0 = some r) (hl : EL σ es l) : (Instr.findKey kt v l).run P w = .ok (found r 0 l) w := by
  simp only [Instr.findKey, Sem.run_bind, run_und hu, Result.andThen_ok]
  cases hn : Instr.findNow kd v l 0 with
  | some q => rw [findNow_of hu hk es l 0 r q h hl hn]; simp
  | none => exact findAsking_run hk es l 0 r h hl

/-! ### Equal to the bottom -/

theorem all2_eq {eq : AV → AV → Bool} (ih : ∀ a b, eq a b = true → a = b) : ∀ xs ys : List AV, all2 eq xs ys = true → xs = ys
  | [], [], _ => rfl
  | [], _ :: _, h => by simp [all2] at h
  | _ :: _, [], h => by simp [all2] at h
  | x :: xs, y :: ys, h => by
    simp only [all2, Bool.and_eq_true] at h
    rw [ih x y h.1, all2_eq ih xs ys h.2]

theorem eqTop_eq : ∀ (n : Nat) (a b : AV), eqTop n a b = true → a = b := by
  intro n
  induction n with
  | zero => intro a b h; simp [eqTop] at h
  | succ n ih =>
    intro a b h
    simp only [eqTop] at h
    split at h
    case h_1 => simp at h; rw [h]
    case h_2 => simp only [Bool.and_eq_true] at h; have h2 := h.2; rw [eqI_iff] at h2; rw [(kEq_iff _ _).1 h.1, beq_iff_eq.1 h2]
    case h_3 => rw [eqL_iff] at h; rw [of_decide_eq_true h]
    case h_4 => rfl
    case h_5 => simp only [Bool.and_eq_true] at h; rw [beqN h.1, beqN h.2]
    case h_6 =>
      simp only [Bool.and_eq_true] at h
      obtain ⟨⟨⟨⟨h1, h2⟩, h3⟩, h4⟩, h5⟩ := h
      rw [beqN h1, beqN h2, beqN h3, beqN h4]
      split at h5
      · rfl
      · rw [beqN h5]
      · simp at h5
    case h_7 => simp only [Bool.and_eq_true] at h; rw [beqN h.1.1, beqN h.1.2, beqN h.2]
    case h_8 => rfl
    case h_9 => rw [beqN h]
    case h_10 => rfl
    case h_11 => rfl
    case h_12 => rw [all2_eq ih _ _ h]
    case h_13 => rw [all2_eq ih _ _ h]
    case h_14 => rw [beqN h]
    case h_15 => simp only [Bool.and_eq_true] at h; rw [beqN h.1, all2_eq ih _ _ h.2.1, all2_eq ih _ _ h.2.2]
    case h_16 => simp only [Bool.and_eq_true] at h; rw [beqN h.1, ih _ _ h.2]
    case h_17 => simp at h

theorem flat_fun {σ : Sg} {x : AV} {v u : Value} (hf : flatA x = true) (h : V σ x v) (k : V σ x u) : v = u ∧ ∀ n, Instr.sameBits n v u = true := by
  cases x <;> simp [flatA] at hf
  · cases h; cases k; exact ⟨rfl, fun n => by cases n <;> simp [Instr.sameBits]⟩
  · cases h; cases k; exact ⟨rfl, fun n => by cases n <;> simp [Instr.sameBits]⟩
  · cases h with
    | @str _ s h1 => cases k with
      | @str _ t h2 =>
        have e : s = t := by
          have := toNat_inj_list _ _ (h1.trans h2.symm)
          obtain ⟨⟨a⟩⟩ := s; obtain ⟨⟨b⟩⟩ := t
          simp only at this; subst this; rfl
        subst e
        have hb : (s == s) = true := by rw [beq_toListBytes]; simp
        exact ⟨rfl, fun n => by cases n <;> simpa [Instr.sameBits] using hb⟩

theorem flats_fun {σ : Sg} : ∀ (xs : List AV) (vs us : List Value), xs.all flatA = true → VL σ xs vs → VL σ xs us → vs = us ∧ ∀ n, (vs.zip us).all (fun (x, y) => Instr.sameBits n x y) = true
  | [], vs, us, _, h, k => by have := h.inv_nil; subst this; have := k.inv_nil; subst this; exact ⟨rfl, fun n => by simp⟩
  | x :: xs, vs, us, hf, h, k => by
    obtain ⟨v, vs', rfl, h1, h2⟩ := h.inv_cons
    obtain ⟨u, us', rfl, k1, k2⟩ := k.inv_cons
    simp only [List.all_cons, Bool.and_eq_true] at hf
    obtain ⟨a, b⟩ := flat_fun hf.1 h1 k1
    obtain ⟨c, d⟩ := flats_fun xs vs' us' hf.2 h2 k2
    exact ⟨by rw [a, c], fun n => by simp only [List.zip_cons_cons, List.all_cons, b n, d n, Bool.and_self]⟩

theorem stays_run {P : Program} {σ : Sg} {w : World} {k old : AV} {v u : Value} (h : stays k old = true) (hv : V σ k v) (hu : V σ old u) : (Instr.keyThatStays u v).run P w = .ok v w := by
  simp only [stays, Bool.and_eq_true] at h
  have := eqTop_eq _ _ _ h.2
  subst this
  have hs : Instr.sameBits 10000 u v = true := by
    have hk := h.1
    cases k with
    | agg cs =>
      obtain ⟨vs, rfl, hvs⟩ := hv.of_agg
      obtain ⟨us, rfl, hus⟩ := hu.of_agg
      obtain ⟨e, hall⟩ := flats_fun cs us.toList vs.toList hk hus hvs
      have hsz : us.size = vs.size := by have := congrArg List.length e; simpa using this
      simp only [Instr.sameBits, hsz, beq_self_eq_true, Bool.true_and]
      exact hall 9999
    | bool _ => exact (flat_fun rfl hu hv).2 _
    | int _ _ => exact (flat_fun rfl hu hv).2 _
    | str _ => exact (flat_fun rfl hu hv).2 _
    | _ => simp [plainK, flatA] at hk
  simp [Instr.keyThatStays, hs]

end Go.Ev

/- The evaluator's operations that only compute, and the model's. No conditions beyond those that each theorem states. -/
namespace Go.Ev

theorem cmpA_run {P : Program} {σ : Sg} {w : World} {op : BinOp} {a b : Int} {r : AV} (h : cmpA op a b = some r) : ∃ v, (Op.intCmp op a b).run P w = .ok v w ∧ V σ r v := by
  unfold cmpA at h
  split at h
  all_goals first
    | (simp only [Option.some.injEq] at h; subst h; refine ⟨_, rfl, ?_⟩)
    | (simp at h; done)
  · rw [eqI_iff]; exact .bool _
  · rw [eqI_iff]; exact .bool _
  · rw [leI_iff]
    have e : (!decide (b ≤ a)) = decide (a < b) := by by_cases h : b ≤ a <;> simp [h] <;> omega
    rw [e]; exact .bool _
  · rw [leI_iff]; exact .bool _
  · rw [leI_iff]
    have e : (!decide (a ≤ b)) = decide (a > b) := by by_cases h : a ≤ b <;> simp [h] <;> omega
    rw [e]; exact .bool _
  · rw [leI_iff]; exact .bool _

theorem isZ_iff {b : Int} (h : isZ b = false) : b ≠ 0 := by
  intro e; subst e; simp [isZ] at h

theorem binA_run {P : Program} {σ : Sg} {w : World} {op : BinOp} {t : TypeId} {x y : AV} {v u : Value} {r : AV} (h : binA P op t x y = some r) (hv : V σ x v) (hu : V σ y u) :
    ∃ z, (binOp op t v u).run P w = .ok z w ∧ V σ r z := by
  unfold binA at h
  split at h
  case h_1 k a k' b =>
    cases hv; cases hu
    split at h
    case h_1 =>
      obtain ⟨h0, h⟩ := cond_some h
      simp only [Bool.and_eq_true, leI_iff, decide_eq_true_eq] at h0
      simp only [Option.some.injEq] at h; subst h
      refine ⟨_, by simp only [binOp, Op.shift]; rw [if_neg (by omega)]; rfl, ?_⟩
      rw [wrapA_eq]; simp only [Int.natCast_pow]; exact .int _ _
    case h_2 =>
      obtain ⟨h0, h⟩ := cond_some h
      simp only [Bool.and_eq_true, leI_iff, decide_eq_true_eq] at h0
      simp only [Option.some.injEq] at h; subst h
      refine ⟨_, by simp only [binOp, Op.shift]; rw [if_neg (by omega)]; rfl, ?_⟩
      simp only [Int.natCast_pow]; exact .int _ _
    case h_3 hn1 hn2 =>
      obtain ⟨hk, h2⟩ := cond_some h
      clear h
      have := (kEq_iff _ _).1 hk; subst this
      have h := h2
      clear h2
      split at h
      · simp only [Option.some.injEq] at h; subst h
        exact ⟨.int k (k.wrap (a + b)), by simp [binOp, Op.intArith], by rw [wrapA_eq]; exact .int _ _⟩
      · simp only [Option.some.injEq] at h; subst h
        exact ⟨.int k (k.wrap (a - b)), by simp [binOp, Op.intArith], by rw [wrapA_eq]; exact .int _ _⟩
      · simp only [Option.some.injEq] at h; subst h
        exact ⟨.int k (k.wrap (a * b)), by simp [binOp, Op.intArith], by rw [wrapA_eq]; exact .int _ _⟩
      · cases hz : isZ b
        · rw [hz, cond_ff] at h
          have := isZ_iff hz
          simp only [Option.some.injEq] at h; subst h
          exact ⟨.int k (k.wrap (a.tdiv b)), by simp [binOp, Op.intDiv, this], by rw [wrapA_eq]; exact .int _ _⟩
        · simp [hz] at h
      · cases hz : isZ b
        · rw [hz, cond_ff] at h
          have := isZ_iff hz
          simp only [Option.some.injEq] at h; subst h
          exact ⟨.int k (a.tmod b), by simp [binOp, Op.intDiv, this], .int _ _⟩
        · simp [hz] at h
      · simp at h
      · simp at h
      · simp at h
      · simp at h
      · obtain ⟨z, hz, hV⟩ := cmpA_run (P := P) (σ := σ) (w := w) h
        refine ⟨z, ?_, hV⟩
        cases op <;> simp_all [binOp]
  case h_2 a b =>
    cases hv with
    | str h1 => cases hu with
      | str h2 =>
        rename_i s1 s2
        have e1 := eqL_bytes h1 h2
        have e2 : ltL a b = Op.bytesLess s1.toList s2.toList := by rw [← h1, ← h2, ByteArray.toList_eq, ByteArray.toList_eq]; exact ltL_bytes _ _
        split at h
        · obtain ⟨h0, h9⟩ := cond_some h
          have h0 := bleN h0
          simp only [Option.some.injEq] at h9; subst h9
          refine ⟨_, by simp only [binOp, Op.stringOp]; rw [if_neg]; rfl; rw [size_str h1, size_str h2]; simp [IntKind.max, IntKind.signed, IntKind.bits]; omega, ?_⟩
          refine .str ?_
          rw [← h1, ← h2]
          simp [ByteArray.data_append]
        all_goals first
          | (simp only [Option.some.injEq] at h; subst h; refine ⟨_, rfl, ?_⟩; simp only [e1, e2]; exact .bool _)
          | simp at h
  case h_3 => simp at h
  case h_4 =>
    have hne : (∀ k a k' b, ¬ (v = .int k a ∧ u = .int k' b)) ∧ (∀ a b, ¬ (v = .string a ∧ u = .string b)) := by
      refine ⟨?_, ?_⟩
      · rintro k a k' b ⟨rfl, rfl⟩
        cases hv; cases hu; simp_all
        rename_i hx
        exact hx _ _ _ _ rfl rfl rfl rfl
      · rintro a b ⟨rfl, rfl⟩
        cases hv; cases hu; simp_all
    have heq : ∀ b, eqA P 8 t x y = some b → (Op.equal t v u).run P w = .ok b w := fun b hb => eqA_run 9992 8 t x y v u b hb hv hu
    split at h
    · cases hg : P.eqGuardType P.depth t
      · rw [hg, cond_ff] at h
        cases he : eqA P 8 t x y with
        | none => simp [he] at h
        | some b =>
          simp only [he, Option.map_some, Option.some.injEq] at h; subst h
          refine ⟨.bool b, ?_, .bool _⟩
          have := heq b he
          simp only [eqA] at he
          split at he <;> cases hv <;> cases hu <;> first
            | (simp only [binOp, Sem.run_bind, this, Result.andThen_ok, Sem.run_pure]; done)
            | (exact absurd ⟨rfl, rfl⟩ (hne.1 _ _ _ _))
            | (exact absurd ⟨rfl, rfl⟩ (hne.2 _ _))
            | (simp at he; done)
      · simp [hg] at h
    · cases hg : P.eqGuardType P.depth t
      · rw [hg, cond_ff] at h
        cases he : eqA P 8 t x y with
        | none => simp [he] at h
        | some b =>
          simp only [he, Option.map_some, Option.some.injEq] at h; subst h
          refine ⟨.bool (!b), ?_, .bool _⟩
          have := heq b he
          simp only [eqA] at he
          split at he <;> cases hv <;> cases hu <;> first
            | (simp only [binOp, Sem.run_bind, this, Result.andThen_ok, Sem.run_pure]; done)
            | (exact absurd ⟨rfl, rfl⟩ (hne.1 _ _ _ _))
            | (exact absurd ⟨rfl, rfl⟩ (hne.2 _ _))
            | (simp at he; done)
      · simp [hg] at h
    · simp at h

theorem eqGuard_run {P : Program} {σ : Sg} {w : World} {op : BinOp} {t : TypeId} {X Y : Operand} {x y : AV} {v u : Value} {r : AV} (h : binA P op t x y = some r) (hv : V σ x v) (hu : V σ y u) :
    (eqGuard op t X Y v u).run P w = .ok () w := by
  by_cases hop : op = .eql ∨ op = .neq
  · have hx : v ≠ .nilIface := by
      intro e; subst e; cases hv
      unfold binA at h; split at h <;> simp_all
    have hg : ∀ a b, v = .agg a → u = .agg b → P.eqGuardType P.depth t = false := by
      intro a b e1 e2; subst e1; subst e2
      cases hv; cases hu
      cases hg : P.eqGuardType P.depth t
      · rfl
      · unfold binA at h
        rcases hop with rfl | rfl <;> simp [hg] at h
    unfold eqGuard
    rcases hop with rfl | rfl <;> simp only [Bool.not_true, Bool.false_eq_true, if_false]
    all_goals
      cases v <;> first
        | exact absurd rfl hx
        | (cases u <;> first
            | rfl
            | (simp [hg _ _ rfl rfl]; done)
            | (simp; done))
  · cases op <;> first
      | exact absurd (.inl rfl) hop
      | exact absurd (.inr rfl) hop
      | rfl

theorem unA_run {P : Program} {σ : Sg} {w : World} {op : UnOp} {x : AV} {v : Value} {r : AV} (h : unA op x = some r) (hv : V σ x v) : ∃ z, (Op.unary op v).run P w = .ok z w ∧ V σ r z := by
  unfold unA at h
  split at h
  · cases hv
    simp only [Option.some.injEq] at h; subst h
    exact ⟨_, rfl, by rw [wrapA_eq]; exact .int _ _⟩
  · cases hv
    simp only [Option.some.injEq] at h; subst h
    exact ⟨_, rfl, .bool _⟩
  · simp at h

theorem convA_run {P : Program} {σ : Sg} {w : World} {s d : TypeId} {x : AV} {v : Value} {r : AV} (h : convA P s d x = some r) (hv : V σ x v) : ∃ z, (convert s d v).run P w = .ok z w ∧ V σ r z := by
  unfold convA at h
  split at h
  · rename_i h1 h2
    cases hv
    simp only [Option.some.injEq] at h; subst h
    rename_i k _ n
    exact ⟨.int k (k.wrap n), by simp [convert, run_und h1, run_und h2, Conv.intToInt], by rw [wrapA_eq]; exact .int _ _⟩
  · rename_i h1 h2
    simp only [Option.some.injEq] at h; subst h
    cases hv with
    | str hs => exact ⟨_, by simp [convert, run_und h1, run_und h2], .str hs⟩
  · simp at h

end Go.Ev

/- The evaluator's operations on structs, arrays, slices and addresses, and the model's. No conditions beyond those that each theorem states. -/
namespace Go.Ev

/-! ### Building -/

theorem foldl_set (off : Nat) : ∀ (l : List Value) (k : Nat) (cells : Array Value), off + k + l.length ≤ cells.size →
    ((l.zipIdx k).foldl (fun cs (p : Value × Nat) => cs.setIfInBounds (off + p.2) p.1) cells).toList = cells.toList.take (off + k) ++ (l ++ cells.toList.drop (off + k + l.length))
  | [], k, cells, _ => by simp
  | v :: l, k, cells, h => by
    simp only [List.length_cons] at h
    rw [List.zipIdx_cons, List.foldl_cons, foldl_set off l (k + 1) _ (by simp; omega)]
    apply List.ext_getElem?
    intro j
    have hlen : (cells.setIfInBounds (off + k) v).toList.length = cells.size := by simp
    rw [show off + (k + 1) = (off + k) + 1 by omega]
    have a1 := getElem?_splice (cells.setIfInBounds (off + k) v).toList l (off + k + 1) (by rw [hlen]; omega) j
    rw [a1]
    have a2 := getElem?_splice cells.toList (v :: l) (off + k) (by simp; omega) j
    rw [a2]
    simp only [List.length_cons, Array.toList_setIfInBounds]
    by_cases h1 : j = off + k
    · subst h1
      rw [if_neg (by omega), if_pos (by omega), List.getElem?_set_self (by simp; omega)]
      simp
    · rw [List.getElem?_set_ne (by omega)]
      by_cases h2 : off + k + 1 ≤ j ∧ j < off + k + 1 + l.length
      · rw [if_pos h2, if_pos (by omega), show j - (off + k) = (j - (off + k + 1)) + 1 by omega, List.getElem?_cons_succ]
      · rw [if_neg h2, if_neg (by omega)]

def PL (σ : Sg) (ps : List (Nat × AV)) (qs : List (Nat × Value)) : Prop := ps.length = qs.length ∧ ∀ (i : Nat) (a : Nat × AV) (v : Nat × Value), ps[i]? = some a → qs[i]? = some v → a.1 = v.1 ∧ V σ a.2 v.2

theorem fill_run {σ : Sg} {place : Nat → Option (Nat × Nat)} : ∀ (parts : List (Nat × AV)) (parts' : List (Nat × Value)) (cells : List AV) (cells' : Array Value) (r : List AV),
    fillA place cells parts = some r → PL σ parts parts' → VL σ cells cells'.toList →
    ∃ r' : Array Value, Instr.fill place cells' parts' = some r' ∧ VL σ r r'.toList
  | [], parts', cells, cells', r, h, hp, hc => by
    cases parts' with
    | nil => simp [fillA] at h; subst h; exact ⟨cells', rfl, hc⟩
    | cons x y => have := hp.1; simp at this
  | (i, a) :: parts, parts', cells, cells', r, h, hp, hc => by
    cases parts' with
    | nil => have := hp.1; simp at this
    | cons x parts' =>
      obtain ⟨i', v⟩ := x
      have h0 := hp.2 0 (i, a) (i', v) (by simp) (by simp)
      simp only at h0
      obtain ⟨rfl, hV⟩ := h0
      simp only [fillA] at h
      cases hpl : place i with
      | none => simp [hpl] at h
      | some q =>
        obtain ⟨off, size⟩ := q
        simp only [hpl] at h
        obtain ⟨hc1, h9⟩ := cond_some h
        simp only [Bool.and_eq_true] at hc1
        have e1 := beqN hc1.1
        have e2 := bleN hc1.2
        have hvc := hV.cells
        have hl1 := hvc.1
        have hl2 := hc.1
        have hsz : v.cells.size = size := by simp at hl1; omega
        have hcs : cells'.size = cells.length := by simp at hl2; omega
        have hst : (v.cells.zipIdx.foldl (fun cs (c, j) => cs.setIfInBounds (off + j) c) cells').toList = cells'.toList.take off ++ (v.cells.toList ++ cells'.toList.drop (off + v.cells.toList.length)) := by
          have := foldl_set off v.cells.toList 0 cells' (by simp; omega)
          rw [← Array.foldl_toList, Array.toList_zipIdx]
          simpa using this
        obtain ⟨r', hr', hV'⟩ := fill_run parts parts' _ (v.cells.zipIdx.foldl (fun cs (c, j) => cs.setIfInBounds (off + j) c) cells') r h9
          ⟨by have := hp.1; simpa using this, fun i a v x y => hp.2 (i + 1) a v (by simpa using x) (by simpa using y)⟩
          (by
            rw [hst]
            refine (hc.take off).append (hvc.append ?_)
            have : off + v.cells.toList.length = off + size := by simp [hsz]
            rw [this]
            exact hc.drop _)
        refine ⟨r', ?_, hV'⟩
        simp only [Instr.fill, hpl]
        rw [if_neg (by simp; omega)]
        exact hr'

/-- The parts, evaluated. -/
theorem parts_rel {σ : Sg} {t : Tr AV} {ρ : Operand → Value} (hρ : ∀ x a, ev t x = some a → V σ a (ρ x)) : ∀ (l : List (Nat × Operand)) (ps : List (Nat × AV)), partsA t l = some ps →
    PL σ ps (l.map fun (i, x) => (i, ρ x))
  | [], ps, h => by simp [partsA] at h; subst h; exact ⟨rfl, fun i a v x _ => by simp at x⟩
  | (k, x) :: l, ps, h => by
    simp only [partsA, List.mapM_cons] at h
    cases h1 : ev t x with
    | none => simp [h1] at h
    | some a =>
      cases h2 : l.mapM (fun p => (ev t p.2).map fun v => (p.1, v)) with
      | none => simp [h1, h2] at h
      | some qs =>
        simp [h1, h2] at h
        subst h
        obtain ⟨i1, i2⟩ := parts_rel hρ l qs h2
        refine ⟨by simpa using i1, ?_⟩
        intro i a' v hx hy
        cases i with
        | zero => simp at hx hy; subst hx; subst hy; exact ⟨rfl, hρ x a h1⟩
        | succ i => exact i2 i a' v (by simpa using hx) (by simpa using hy)

theorem evs_rel {σ : Sg} {t : Tr AV} {ρ : Operand → Value} (hρ : ∀ x a, ev t x = some a → V σ a (ρ x)) : ∀ (l : List Operand) (as : List AV), evs t l = some as → VL σ as (l.map ρ)
  | [], as, h => by simp [evs] at h; subst h; exact .nil
  | x :: l, as, h => by
    simp only [evs, List.mapM_cons] at h
    cases h1 : ev t x with
    | none => simp [h1] at h
    | some a =>
      cases h2 : l.mapM (ev t) with
      | none => simp [h1, h2] at h
      | some bs => simp [h1, h2] at h; subst h; exact .cons (hρ x a h1) (evs_rel hρ l bs h2)

theorem run_mapM_list {P : Program} {w : World} {α β : Type} {f : α → Sem β} {g : α → β} : ∀ (l : List α), (∀ x ∈ l, (f x).run P w = .ok (g x) w) → (l.mapM f).run P w = .ok (l.map g) w
  | [], _ => by simp
  | x :: l, h => by
    rw [List.mapM_cons]
    simp only [Sem.run_bind, h x (by simp), Result.andThen_ok, run_mapM_list l (fun y hy => h y (by simp [hy])), Sem.run_pure, List.map_cons]

theorem run_mapM_array {P : Program} {w : World} {α β : Type} {f : α → Sem β} {g : α → β} (l : Array α) (h : ∀ x ∈ l.toList, (f x).run P w = .ok (g x) w) : (l.mapM f).run P w = .ok (l.map g) w := by
  have e : l.mapM f = Functor.map List.toArray (l.toList.mapM f) := by
    obtain ⟨l⟩ := l
    exact List.mapM_toArray
  rw [e, Sem.run_map, run_mapM_list l.toList h]
  show Result.ok (l.toList.map g).toArray w = _
  obtain ⟨l⟩ := l
  simp

theorem buildA_run {P : Program} {σ : Sg} {w : World} {t : TypeId} {parts : List (Nat × AV)} {parts' : Array (Nat × Value)} {r : AV} (h : buildA P t parts = some r)
    (hp : PL σ parts parts'.toList) :
    ∃ v, (Instr.build t parts').run P w = .ok v w ∧ V σ r v := by
  unfold buildA at h
  cases hz : zeroA P t with
  | none => simp [hz] at h
  | some z =>
    simp only [hz, Option.bind_some] at h
    obtain ⟨zv, hzr, hzV, _⟩ := run_zero' (w := w) (σ := σ) hz
    split at h
    · rename_i fs hu
      obtain ⟨hall, h9⟩ := cond_some h
      cases hf : fillA (placeA P fs) z.cells parts with
      | none => simp [hf] at h9
      | some cs =>
        simp only [hf, Option.map_some, Option.some.injEq] at h9
        subst h9
        obtain ⟨r', hr', hV⟩ := fill_run parts parts'.toList z.cells zv.cells cs hf hp hzV.cells
        have hsz : ∀ f ∈ fs.toList, (do pure (f.offset, ← sizeOf f.type) : Sem (Nat × Nat)).run P w = .ok (f.offset, (sizeA P f.type).getD 0) w := by
          intro f hf'
          have := List.all_eq_true.1 hall f hf'
          cases hs : sizeA P f.type with
          | none => simp [hs] at this
          | some n => simp [run_sizeOf' hs]
        have hpl : (fun i => (fs.map fun f => (f.offset, (sizeA P f.type).getD 0))[i]?) = placeA P fs := by
          funext i
          simp only [placeA, Array.getElem?_map]
          cases hfi : fs[i]? with
          | none => rfl
          | some f =>
            simp only [Option.map_some, Option.bind_some]
            have hmem : f ∈ fs.toList := by simpa using Array.mem_of_getElem? hfi
            have := List.all_eq_true.1 hall f hmem
            cases hs : sizeA P f.type with
            | none => simp [hs] at this
            | some n => simp
        refine ⟨.agg r', ?_, .mk_agg' hV⟩
        simp only [Instr.build, Sem.run_bind, hzr, Result.andThen_ok, run_und hu, run_mapM_array fs hsz]
        simp only [hpl, hr', Sem.run_pure]
    · rename_i n e hu
      cases hs : sizeA P e with
      | none => simp [hs] at h
      | some s =>
        simp only [hs, Option.bind_some] at h
        cases hf : fillA (fun i => some (i * s, s)) z.cells parts with
        | none => simp [hf] at h
        | some cs =>
          simp only [hf, Option.map_some, Option.some.injEq] at h
          subst h
          obtain ⟨r', hr', hV⟩ := fill_run parts parts'.toList z.cells zv.cells cs hf hp hzV.cells
          refine ⟨.agg r', ?_, .mk_agg' hV⟩
          simp only [Instr.build, Sem.run_bind, hzr, Result.andThen_ok, run_und hu, run_sizeOf' hs, hr', Sem.run_pure]
    · simp at h

/-! ### Rows of zeros -/

theorem rep_length (z : List AV) : ∀ n, (rep z n).length = n * z.length
  | 0 => by simp [rep]
  | n + 1 => by simp [rep, rep_length z n, Nat.succ_mul]; omega

theorem rep_get (z : List AV) (hz : 0 < z.length) : ∀ (n i : Nat), i < n * z.length → (rep z n)[i]? = z[i % z.length]?
  | 0, i, h => by simp at h
  | n + 1, i, h => by
    simp only [rep, List.getElem?_append]
    by_cases hi : i < z.length
    · rw [if_pos hi, Nat.mod_eq_of_lt hi]
    · rw [if_neg hi, rep_get z hz n _ (by rw [Nat.succ_mul] at h; omega)]
      rw [Nat.mod_eq_sub_mod (a := i) (by omega)]

theorem rep_VL {σ : Sg} {z : List AV} {zv : Array Value} (h : VL σ z zv.toList) (hz : 0 < z.length) (n : Nat) : VL σ (rep z n) ((Array.range (n * z.length)).map fun i => zv[i % z.length]!).toList := by
  refine ⟨by simp [rep_length], ?_⟩
  intro i a v ha hv
  have hi : i < n * z.length := by
    rcases Nat.lt_or_ge i (n * z.length) with h | h
    · exact h
    · rw [List.getElem?_eq_none (by rw [rep_length]; omega)] at ha; simp at ha
  rw [rep_get z hz n i hi] at ha
  simp only [Array.toList_map, Array.toList_range, List.getElem?_map, List.getElem?_range hi, Option.map_some, Option.some.injEq] at hv
  obtain ⟨u, hu, hV⟩ := h.get ha
  have : zv[i % z.length]? = some u := by simpa using hu
  rw [← hv]
  rw [Array.getElem!_eq_getD, Array.getD_eq_getD_getElem?, this]
  exact hV

theorem buildSliceA_run {P : Program} {σ : Sg} {w : World} {t : TypeId} {len s : Nat} {cs : List AV} {parts : List (Nat × AV)} {parts' : Array (Nat × Value)} (h : buildSliceA P t len parts = some (s, cs))
    (hp : PL σ parts parts'.toList) :
    ∃ (c : Array Value) (e : TypeId), (Instr.buildSlice t len parts').run P w = .ok (.slice (some ⟨w.heap.size, 0, none⟩) len len) { w with heap := w.heap.push (.cells c e (0, 0)) } ∧ VL σ cs c.toList ∧ cs.length = len * s := by
  unfold buildSliceA at h
  split at h
  · rename_i e hu
    cases hs : sizeA P e with
    | none => simp [hs] at h
    | some s' =>
      cases hz : zeroA P e with
      | none => simp [hs, hz] at h
      | some z =>
        simp only [hs, hz, Option.bind_some] at h
        obtain ⟨hc, h9⟩ := cond_some h
        simp only [Bool.and_eq_true] at hc
        obtain ⟨hle, hlen, hpos⟩ := hc
        have hle := bleN hle
        have hlen := beqN hlen
        have hpos : s' ≠ 0 := by intro e0; subst e0; simp at hpos
        cases hf : fillA (fun i => some (i * s', s')) (rep z.cells len) parts with
        | none => simp [hf] at h9
        | some cs' =>
          simp only [hf, Option.map_some, Option.some.injEq, Prod.mk.injEq] at h9
          obtain ⟨rfl, rfl⟩ := h9
          obtain ⟨zv, hzr, hzV, _⟩ := run_zero' (w := w) (σ := σ) hz
          have hzl : zv.cells.size = s' := by have := hzV.cells.1; simp at this; omega
          have hrep := rep_VL hzV.cells (by omega) len
          rw [hlen] at hrep
          obtain ⟨r', hr', hV⟩ := fill_run parts parts'.toList (rep z.cells len) ((Array.range (len * s')).map fun i => zv.cells[i % s']!) cs' hf hp hrep
          refine ⟨r', e, ?_, hV, ?_⟩
          · simp only [Instr.buildSlice, Sem.run_bind, run_und hu, Result.andThen_ok, run_sizeOf' hs]
            rw [if_neg (by simpa using hle)]
            by_cases h0 : len * s' = 0
            · simp only [h0, if_true, Sem.run_bind, Sem.run_pure, Result.andThen_ok]
              have he : ((Array.range 0).map fun i => (#[] : Array Value)[i % (#[] : Array Value).size]!) = ((Array.range (len * s')).map fun i => zv.cells[i % s']!) := by rw [h0]; simp
              rw [he, hr']
              simp [newRow]
            · simp only [h0, if_false, Sem.run_bind, hzr, Result.andThen_ok, Sem.run_pure, hzl, hr']
              simp [newRow]
          · have : ∀ (ps : List (Nat × AV)) (a b : List AV), fillA (fun i => some (i * s', s')) a ps = some b → b.length = a.length := by
              intro ps
              induction ps with
              | nil => intro a b hb; simp [fillA] at hb; rw [hb]
              | cons p ps ih =>
                intro a b hb
                obtain ⟨i, v⟩ := p
                simp only [fillA] at hb
                obtain ⟨hc, hb⟩ := cond_some hb
                simp only [Bool.and_eq_true] at hc
                have e1 := beqN hc.1; have e2 := bleN hc.2
                rw [ih _ _ hb]
                simp; omega
            rw [this _ _ _ hf, rep_length, hlen]
  · simp at h

/-! ### Addresses -/

theorem natOf_run {P : Program} {σ : Sg} {w : World} {x : AV} {v : Value} {n : Nat} (h : natOf x = some n) (hv : V σ x v) : ∃ k, v = .int k (n : Int) ∧ (asIntOf v).run P w = .ok (k, (n : Int)) w := by
  unfold natOf at h
  split at h
  · simp only [Option.some.injEq] at h; subst h
    cases hv
    exact ⟨_, rfl, rfl⟩
  · simp at h

theorem fieldAddrA_run {P : Program} {σ : Sg} {w : World} {s : TypeId} {x : AV} {v : Value} {f : Nat} {r : AV} (h : fieldAddrA P s x f = some r) (hv : V σ x v) : ∃ z, (Instr.fieldAt s v f).run P w = .ok z w ∧ V σ r z := by
  unfold fieldAddrA at h
  split at h
  · rename_i fs id off hu
    cases hf : fs[f]? with
    | none => simp [hf] at h
    | some fd =>
      simp only [hf, Option.bind_some] at h
      cases hs : sizeA P fd.type with
      | none => simp [hs] at h
      | some n =>
        simp only [hs, Option.bind_some] at h
        cases hn : Nat.beq n 0
        · rw [hn, cond_ff] at h
          simp only [Option.some.injEq] at h; subst h
          have hn0 : n ≠ 0 := beqN_ne hn
          cases hv with
          | ptr hp =>
            refine ⟨_, ?_, .ptr (off := off + fd.offset) hp⟩
            simp only [Instr.fieldAt, Sem.run_bind, run_und hu, Result.andThen_ok, hf, Instr.sureAddr, Sem.run_pure, fieldPlace, run_sizeOf' hs, hn0, if_false, add_addr, Nat.add_assoc]
        · simp [hn] at h
  · simp at h

theorem fieldA_run {P : Program} {σ : Sg} {w : World} {s : TypeId} {x : AV} {v : Value} {f : Nat} {r : AV} (h : fieldA P s x f = some r) (hv : V σ x v) : ∃ z, (Instr.field s v f).run P w = .ok z w ∧ V σ r z := by
  unfold fieldA at h
  split at h
  · rename_i fs cs hu
    cases hf : fs[f]? with
    | none => simp [hf] at h
    | some fd =>
      simp only [hf, Option.bind_some] at h
      obtain ⟨vs, rfl, hvs⟩ := hv.of_agg
      obtain ⟨z, hz, hV⟩ := partA_run (w := w) hvs h
      exact ⟨z, by simp only [Instr.field, Sem.run_bind, run_und hu, Result.andThen_ok, hf, asAgg, Sem.run_pure]; exact hz, hV⟩
  · simp at h

theorem indexAddrA_run {P : Program} {σ : Sg} {w : World} {t : TypeId} {x i : AV} {v u : Value} {r : AV} (h : indexAddrA P t x i = some r) (hv : V σ x v) (hi : V σ i u) : ∃ z, (Instr.indexAt t v u).run P w = .ok z w ∧ V σ r z := by
  unfold indexAddrA at h
  cases hn : natOf i with
  | none => simp [hn] at h
  | some n =>
    simp only [hn, Option.bind_some] at h
    obtain ⟨k, rfl, hk⟩ := natOf_run (P := P) (w := w) hn hi
    split at h
    · rename_i m e id off hu
      cases hs : sizeA P e with
      | none => simp [hs] at h
      | some s =>
        simp only [hs, Option.bind_some] at h
        obtain ⟨hlt, h9⟩ := cond_some h
        have hlt := bltN hlt
        simp only [Option.some.injEq] at h9; subst h9
        cases hv with
        | ptr hp =>
          refine ⟨_, ?_, .ptr (off := off + n * s) hp⟩
          simp only [Instr.indexAt, Sem.run_bind, hk, Result.andThen_ok, run_und hu, Instr.sureAddr, Sem.run_pure]
          have : (0 : Int) ≤ (n : Int) ∧ (n : Int) < (m : Int) := by omega
          cases hm : decide (m ≤ 1) <;> simp [this, run_sizeOf' hs, add_addr, Nat.add_assoc]
    · rename_i e id off len es c hu
      cases hs : sizeA P e with
      | none => simp [hs] at h
      | some s =>
        simp only [hs, Option.bind_some] at h
        obtain ⟨hc, h9⟩ := cond_some h
        simp only [Bool.and_eq_true] at hc
        have hlt := bltN hc.1
        have := beqN hc.2; subst this
        simp only [Option.some.injEq] at h9; subst h9
        cases hv with
        | slice hp hl hr hcap ha =>
          have ha := ha.resolve_right (by omega)
          subst ha
          refine ⟨_, ?_, .ptr (off := off + n * s) hp⟩
          simp only [Instr.indexAt, Sem.run_bind, hk, Result.andThen_ok, run_und hu, Sem.run_pure]
          have : (0 : Int) ≤ (n : Int) ∧ (n : Int) < (len : Int) := by omega
          cases hm : decide (len ≤ 1) <;> simp [this, run_sizeOf' hs, add_addr, Nat.add_assoc]
    · simp at h

theorem indexA_run {P : Program} {σ : Sg} {w : World} {t : TypeId} {x i : AV} {v u : Value} {r : AV} (h : indexA P t x i = some r) (hv : V σ x v) (hi : V σ i u) : ∃ z, (Instr.index t v u).run P w = .ok z w ∧ V σ r z := by
  unfold indexA at h
  cases hn : natOf i with
  | none => simp [hn] at h
  | some n =>
    simp only [hn, Option.bind_some] at h
    obtain ⟨k, rfl, hk⟩ := natOf_run (P := P) (w := w) hn hi
    split at h
    · rename_i m e cs hu
      cases hs : sizeA P e with
      | none => simp [hs] at h
      | some s =>
        simp only [hs, Option.bind_some] at h
        obtain ⟨hlt, h9⟩ := cond_some h
        have hlt := bltN hlt
        obtain ⟨vs, rfl, hvs⟩ := hv.of_agg
        obtain ⟨z, hz, hV⟩ := partA_run (w := w) hvs h9
        refine ⟨z, ?_, hV⟩
        have : (0 : Int) ≤ (n : Int) ∧ (n : Int) < (m : Int) := by omega
        simp only [Instr.index, Sem.run_bind, hk, Result.andThen_ok, run_und hu, this, and_self, if_true, run_sizeOf' hs, Int.toNat_natCast, hz]
    · rename_i s hu
      cases hb : s[n]? with
      | none => simp [hb] at h
      | some b =>
        simp only [hb, Option.map_some, Option.some.injEq] at h; subst h
        cases hv with
        | @str _ bs hs =>
          rw [← hs, List.getElem?_map] at hb
          cases hb' : bs.data.toList[n]? with
          | none => simp [hb'] at hb
          | some c =>
            simp only [hb', Option.map_some, Option.some.injEq] at hb
            subst hb
            refine ⟨.int .u8 c.toNat, ?_, .int _ _⟩
            have hlt : n < bs.size := by
              rcases Nat.lt_or_ge n bs.data.toList.length with h | h
              · simpa using h
              · simp [List.getElem?_eq_none h] at hb'
            have hg : bs[n]? = some c := by
              rw [getElem?_pos bs n hlt]
              have : bs.data.toList[n]? = some bs.data[n] := by simp
              rw [this] at hb'
              exact hb'
            simp only [Instr.index, Sem.run_bind, hk, Result.andThen_ok, run_und hu]
            rw [if_pos (by omega), Int.toNat_natCast, hg]
            rfl
    · simp at h

end Go.Ev

/- The evaluator's operations on slices, maps and iterators, and the model's. No conditions beyond those that each theorem states. -/
namespace Go.Ev

/-! ### Slice expressions -/

def VO (σ : Sg) (x : Option AV) (v : Option Value) : Prop := match x, v with
  | none, none => True
  | some x, some v => V σ x v
  | _, _ => False

theorem sliceBound_run {P : Program} {σ : Sg} {w : World} {x : AV} {v : Value} {n y : Nat} (h : natOf x = some n) (hv : V σ x v) (hle : n ≤ y) (code : BoundsCode) : (Instr.sliceBound v y code).run P w = .ok n w := by
  obtain ⟨k, rfl, hk⟩ := natOf_run (P := P) (w := w) h hv
  simp only [Instr.sliceBound, Sem.run_bind, hk, Result.andThen_ok]
  rw [if_pos (by omega)]
  simp

def hiB (isS : Bool) (len c : Nat) (hi : Option Value) : Sem Nat := match hi with
  | some v => Instr.sliceBound v c (if isS then .sliceAcap else .sliceAlen)
  | none => pure len

def loB (h : Nat) (lo : Option Value) : Sem Nat := match lo with
  | some v => Instr.sliceBound v h .sliceB
  | none => pure 0

theorem sliceBounds_eq {P : Program} {w : World} (isS : Bool) (len c : Nat) (lo hi : Option Value) :
    (Instr.sliceBounds isS len c lo hi none).run P w = ((hiB isS len c hi).run P w).andThen fun h w1 => ((loB h lo).run P w1).andThen fun l w2 => .ok (l, h, c) w2 := by
  cases hi <;> cases lo <;> simp [Instr.sliceBounds, hiB, loB]

theorem bounds_run {P : Program} {σ : Sg} {w : World} {len c : Nat} {cap : Option Nat} {lo hi mx : Option AV} {lo' hi' mx' : Option Value} {l h : Nat} {m : Option Nat} (isS : Bool)
    (hb : boundsA len cap lo hi mx = some (l, h, m)) (hlen : len ≤ c) (hcap : ∀ x, cap = some x → x = c) (h1 : VO σ lo lo') (h2 : VO σ hi hi') (h3 : VO σ mx mx') :
    ∃ m', (Instr.sliceBounds isS len c lo' hi' mx').run P w = .ok (l, h, m') w ∧ l ≤ h ∧ h ≤ m' ∧ m' ≤ c ∧ (∀ x, m = some x → x = m') := by
  have fitsle : ∀ n, fitsA len cap n = true → n ≤ c := by
    intro n hn
    simp only [fitsA, Bool.or_eq_true] at hn
    rcases hn with hn | hn
    · have := bleN hn; omega
    · cases cap with
      | none => simp at hn
      | some x => have := hcap x rfl; have := bleN hn; omega
  unfold boundsA at hb
  cases mx with
  | some v3 =>
    cases mx' with
    | none => exact h3.elim
    | some u3 =>
      simp only at hb
      cases hm : natOf v3 with
      | none => simp [hm] at hb
      | some m0 =>
        simp only [hm, Option.bind_some] at hb
        obtain ⟨hf, hb⟩ := cond_some hb
        have hmc := fitsle _ hf
        cases hi with
        | none => simp at hb
        | some v2 =>
          cases hi' with
          | none => exact h2.elim
          | some u2 =>
            simp only at hb
            cases hh : natOf v2 with
            | none => simp [hh] at hb
            | some h0 =>
              simp only [hh, Option.bind_some] at hb
              obtain ⟨hhm, hb⟩ := cond_some hb
              have hhm := bleN hhm
              cases lo with
              | none =>
                cases lo' with
                | some _ => exact h1.elim
                | none =>
                  simp only [Option.some.injEq, Prod.mk.injEq] at hb
                  obtain ⟨rfl, rfl, rfl⟩ := hb
                  refine ⟨m0, ?_, by omega, hhm, hmc, fun x hx => by simpa using hx.symm⟩
                  simp only [Instr.sliceBounds, Sem.run_bind, sliceBound_run hm h3 hmc, Result.andThen_ok, sliceBound_run hh h2 hhm, Sem.run_pure]
              | some v1 =>
                cases lo' with
                | none => exact h1.elim
                | some u1 =>
                  simp only at hb
                  cases hl : natOf v1 with
                  | none => simp [hl] at hb
                  | some l0 =>
                    simp only [hl, Option.bind_some] at hb
                    obtain ⟨hlh, hb⟩ := cond_some hb
                    have hlh := bleN hlh
                    simp only [Option.some.injEq, Prod.mk.injEq] at hb
                    obtain ⟨rfl, rfl, rfl⟩ := hb
                    refine ⟨m0, ?_, hlh, hhm, hmc, fun x hx => by simpa using hx.symm⟩
                    simp only [Instr.sliceBounds, Sem.run_bind, sliceBound_run hm h3 hmc, Result.andThen_ok, sliceBound_run hh h2 hhm, sliceBound_run hl h1 hlh, Sem.run_pure]
  | none =>
    cases mx' with
    | some _ => exact h3.elim
    | none =>
      simp only at hb
      have hh : ∃ h0, highA len cap hi = some h0 ∧ h0 ≤ c ∧
          (hiB isS len c hi').run P w = .ok h0 w := by
        cases hi with
        | none =>
          cases hi' with
          | some _ => exact h2.elim
          | none => exact ⟨len, rfl, hlen, rfl⟩
        | some v2 =>
          cases hi' with
          | none => exact h2.elim
          | some u2 =>
            cases hn : natOf v2 with
            | none => simp [highA, hn] at hb
            | some h0 =>
              cases hf : fitsA len cap h0 with
              | false => simp [highA, hn, hf] at hb
              | true => exact ⟨h0, by simp [highA, hn, hf], fitsle _ hf, sliceBound_run hn h2 (fitsle _ hf) _⟩
      obtain ⟨h0, e1, e2, e3⟩ := hh
      simp only [e1, Option.bind_some] at hb
      have e4 : (Instr.sliceBounds isS len c lo' hi' none).run P w = ((loB h0 lo').run P w).andThen fun l w2 => .ok (l, h0, c) w2 := by
        rw [sliceBounds_eq, e3, Result.andThen_ok]
      cases lo with
      | none =>
        cases lo' with
        | some _ => exact h1.elim
        | none =>
          simp only [Option.some.injEq, Prod.mk.injEq] at hb
          obtain ⟨rfl, rfl, rfl⟩ := hb
          exact ⟨c, by rw [e4]; rfl, by omega, e2, Nat.le_refl _, hcap⟩
      | some v1 =>
        cases lo' with
        | none => exact h1.elim
        | some u1 =>
          simp only at hb
          cases hl : natOf v1 with
          | none => simp [hl] at hb
          | some l0 =>
            simp only [hl, Option.bind_some] at hb
            obtain ⟨hlh, hb⟩ := cond_some hb
            have hlh := bleN hlh
            simp only [Option.some.injEq, Prod.mk.injEq] at hb
            obtain ⟨rfl, rfl, rfl⟩ := hb
            refine ⟨c, ?_, hlh, e2, Nat.le_refl _, hcap⟩
            rw [e4]
            simp only [loB, sliceBound_run hl h1 hlh, Result.andThen_ok]

theorem isSub_some {m : Option Nat} {l m' x : Nat} (hm : ∀ x, m = some x → x = m') (h : isSub m l = some x) : x = m' - l := by
  cases m with
  | none => simp [isSub] at h
  | some y => simp [isSub] at h; rw [← h, hm y rfl]

theorem sliceA_run {P : Program} {σ : Sg} {h : H} {w : World} (hr : HR σ h w) {t : TypeId} {x r : AV} {v : Value} {lo hi mx : Option AV} {lo' hi' mx' : Option Value} (hs : sliceA P h t x lo hi mx = some r)
    (hv : V σ x v) (h1 : VO σ lo lo') (h2 : VO σ hi hi') (h3 : VO σ mx mx') : ∃ z, (Instr.sliceAt t v lo' hi' mx').run P w = .ok z w ∧ V σ r z := by
  unfold sliceA at hs
  split at hs
  · rename_i n e id off hu
    cases hsz : sizeA P e with
    | none => simp [hsz] at hs
    | some s =>
      simp only [hsz, Option.bind_some] at hs
      cases hb : boundsA n (some n) lo hi mx with
      | none => simp [hb] at hs
      | some q =>
        obtain ⟨l, hh, m⟩ := q
        simp only [hb, Option.bind_some] at hs
        obtain ⟨m', hrun, a1, a2, a3, a4⟩ := bounds_run (P := P) (w := w) false hb (Nat.le_refl _) (fun x hx => by simpa using hx.symm) h1 h2 h3
        cases m with
        | none => simp at hs
        | some m =>
          have := a4 m rfl; subst this
          simp only at hs
          split at hs
          · rename_i cs f ho
            obtain ⟨hle, hs⟩ := cond_some hs
            have hle := bleN hle
            simp only [Option.some.injEq] at hs; subst hs
            cases hv with
            | ptr hp =>
              obtain ⟨q, c, e', hq, b1, b2, b3, b4⟩ := hr.cells ho
              rw [hp] at hq; cases hq
              refine ⟨_, by simp only [Instr.sliceAt, Sem.run_bind, run_und hu, Result.andThen_ok, Instr.sureAddr, Sem.run_pure, hrun, run_sizeOf' hsz]; rfl, ?_⟩
              have hmul : l * s + (m - l) * s = m * s := by rw [← Nat.add_mul]; congr 1; omega
              have hmn : m * s ≤ n * s := Nat.mul_le_mul_right _ a3
              refine .slice hp (by omega) (by omega) (fun x hx => by simpa using hx.symm) ?_
              by_cases hml : m = l
              · right; omega
              · left; rw [if_neg hml, add_addr, Nat.add_assoc]
          · simp at hs
  · rename_i s hu
    cases mx with
    | some _ => simp at hs
    | none =>
      cases mx' with
      | some _ => exact h3.elim
      | none =>
        simp only at hs
        cases hb : boundsA s.length (some s.length) lo hi none with
        | none => simp [hb] at hs
        | some q =>
          obtain ⟨l, hh, m⟩ := q
          simp only [hb, Option.map_some, Option.some.injEq] at hs; subst hs
          cases hv with
          | @str _ bs hbs =>
            have hsize := size_str hbs
            rw [← hsize] at hb
            obtain ⟨m', hrun, a1, a2, a3, a4⟩ := bounds_run (P := P) (w := w) (mx' := none) false hb (Nat.le_refl _) (fun x hx => by simpa using hx.symm) h1 h2 trivial
            refine ⟨.string (bs.extract l hh), ?_, .str ?_⟩
            · simp only [Instr.sliceAt, Sem.run_bind, run_und hu, Result.andThen_ok, Instr.slice, Option.isSome_none, Bool.false_eq_true, if_false, hrun, Sem.run_pure]
            · rw [← hbs]
              have : (bs.extract l hh).data.toList = (bs.data.toList.drop l).take (hh - l) := by
                rw [ByteArray.data_extract]; simp [List.extract_eq_take_drop]
              rw [this]
              simp
  · rename_i e o len es cap hu
    cases hsz : sizeA P e with
    | none => simp [hsz] at hs
    | some s =>
      simp only [hsz, Option.bind_some] at hs
      cases hb : boundsA len cap lo hi mx with
      | none => simp [hb] at hs
      | some q =>
        obtain ⟨l, hh, m⟩ := q
        simp only [hb, Option.bind_some] at hs
        cases o with
        | none =>
          simp only [Option.some.injEq] at hs; subst hs
          cases hv with
          | sliceN hl0 =>
            subst hl0
            obtain ⟨m', hrun, a1, a2, a3, a4⟩ := bounds_run (P := P) (w := w) (c := 0) true hb (Nat.le_refl _) (fun x hx => by simpa using hx.symm) h1 h2 h3
            have : m' = 0 := by omega
            subst this
            have : hh = 0 := by omega
            subst this
            have : l = 0 := by omega
            subst this
            exact ⟨_, by simp only [Instr.sliceAt, Sem.run_bind, run_und hu, Result.andThen_ok, Instr.slice, hrun, run_sizeOf' hsz, Sem.run_pure, if_true], .sliceN rfl⟩
        | some q =>
          obtain ⟨id, off⟩ := q
          obtain ⟨hes, hs9⟩ := cond_some hs
          clear hs
          have := beqN hes; subst this
          simp only [Option.some.injEq] at hs9; subst hs9
          cases hv with
          | @slice _ _ _ _ _ a p c hp hl hroom hcap ha =>
            obtain ⟨m', hrun, a1, a2, a3, a4⟩ := bounds_run (P := P) (w := w) true hb hl hcap h1 h2 h3
            refine ⟨_, by simp only [Instr.sliceAt, Sem.run_bind, run_und hu, Result.andThen_ok, Instr.slice, hrun, run_sizeOf' hsz, Sem.run_pure]; rfl, ?_⟩
            have hmul : l * s + (m' - l) * s = m' * s := by rw [← Nat.add_mul]; congr 1; omega
            have hmn : m' * s ≤ c * s := Nat.mul_le_mul_right _ a3
            by_cases hml : m' = l
            · rw [if_pos hml]
              exact .slice hp (by omega) (by omega) (fun x hx => isSub_some a4 hx) (.inr (by omega))
            · rw [if_neg hml]
              have ha := ha.resolve_right (by omega)
              subst ha
              exact .slice hp (by omega) (by omega) (fun x hx => isSub_some a4 hx) (.inl (by show Addr.add _ _ = _; rw [add_addr, Nat.add_assoc]))
  · simp at hs

theorem wrap_small (n : Nat) (h : n ≤ 1000000000000) : IntKind.i64.wrap (n : Int) = (n : Int) := by
  have h1 : decide (loK .i64 ≤ (n : Int)) = true := decide_eq_true (show (-9223372036854775808 : Int) ≤ (n : Int) by omega)
  have h2 : decide ((n : Int) ≤ hiK .i64) = true := decide_eq_true (show (n : Int) ≤ (9223372036854775807 : Int) by omega)
  rw [← wrapA_eq]
  unfold wrapA
  rw [leI_iff, leI_iff, h1, h2]
  rfl

theorem makeSliceA_run {P : Program} {σ : Sg} {w : World} {t : TypeId} {l c : AV} {l' c' : Value} {n s m : Nat} {cs : List AV} (h : makeSliceA P t l c = some (n, s, m, cs)) (hl : V σ l l') (hc : V σ c c') :
    ∃ (a : Array Value) (e : TypeId), (Instr.makeSlice t l' c').run P w = .ok (.slice (some ⟨w.heap.size, 0, none⟩) n m) { w with heap := w.heap.push (.cells a e (0, 0)) } ∧ VL σ cs a.toList ∧ n ≤ m ∧ cs.length = m * s := by
  unfold makeSliceA at h
  split at h
  · rename_i e hu
    cases h1 : natOf l with
    | none => simp [h1] at h
    | some l0 =>
      cases h2 : natOf c with
      | none => simp [h1, h2] at h
      | some c0 =>
        cases hi : P.info? e with
        | none => simp [h1, h2, hi] at h
        | some i =>
          cases hz : zeroA P e with
          | none => simp [h1, h2, hi, hz] at h
          | some z =>
            simp only [h1, h2, hi, hz, Option.bind_some] at h
            obtain ⟨hcd, h⟩ := cond_some h
            simp only [Bool.and_eq_true] at hcd
            obtain ⟨q1, q2, q3, q4, q5⟩ := hcd
            have q1 := bleN q1; have q2 := bleN q2; have q3 := bleN q3; have q4 := beqN q4
            have q5 : i.size ≠ 0 := by intro e0; rw [e0] at q5; simp at q5
            simp only [Option.some.injEq, Prod.mk.injEq] at h
            obtain ⟨rfl, rfl, rfl, rfl⟩ := h
            obtain ⟨k1, rfl, hk1⟩ := natOf_run (P := P) (w := w) h1 hl
            obtain ⟨k2, rfl, hk2⟩ := natOf_run (P := P) (w := w) h2 hc
            obtain ⟨zv, hzr, hzV, i', hi', hzi⟩ := run_zero' (w := w) (σ := σ) hz
            rw [hi] at hi'; cases hi'
            have hzl : zv.cells.size = i.size := by have := hzV.cells.1; simp at this; omega
            have hrep := rep_VL hzV.cells (by omega) c0
            rw [q4] at hrep
            have w1 : IntKind.i64.wrap (l0 : Int) = (l0 : Int) := wrap_small _ (by omega)
            have w2 : IntKind.i64.wrap (c0 : Int) = (c0 : Int) := wrap_small _ (by omega)
            have hbc0 : i.bytes * c0 ≤ 10000000000 := by have := Nat.mul_le_mul q3 q2; omega
            have hbc : (i.bytes : Int) * (c0 : Int) ≤ 10000000000 := by rw [← Int.natCast_mul]; omega
            refine ⟨_, e, ?_, hrep, q1, by rw [rep_length, q4]⟩
            simp only [Instr.makeSlice, Sem.run_bind, run_und hu, Result.andThen_ok, asInt, hk1, hk2, Sem.run_pure, run_typeInfo' hi, w1, w2]
            have g1 : ¬ ((decide ((c0 : Int) < 0) || decide ((i.bytes : Int) * (c0 : Int) > 2 ^ 48)) || decide ((l0 : Int) < 0) || decide ((l0 : Int) > (c0 : Int))) = true := by
              simp only [Bool.or_eq_true, decide_eq_true_eq, not_or]
              refine ⟨⟨⟨by omega, by omega⟩, by omega⟩, by omega⟩
            rw [if_neg g1]
            simp only [Sem.run_bind, run_askRoom, Result.andThen_ok, run_sizeOf' (show sizeA P e = some i.size by simp [sizeA, hi]), Int.toNat_natCast]
            by_cases h0 : c0 * i.size = 0
            · have hr0 : Array.range 0 = (#[] : Array Nat) := rfl
              simp only [h0, if_true, Sem.run_bind, Sem.run_pure, Result.andThen_ok, newRow, run_newObj]
              simp [hr0]
            · simp only [h0, if_false, Sem.run_bind, hzr, Result.andThen_ok, Sem.run_pure, newRow, run_newObj, hzl]
  · simp at h

end Go.Ev

/- The evaluator's maps and iterators, and the model's. No conditions beyond those that each theorem states. -/
namespace Go.Ev

def isCells : AO → Bool
  | .cells _ _ => true
  | .ro _ => true
  | _ => false

theorem run_getObj {P : Program} {w : World} {r : Nat} {o : Obj} (h : w.heap[r]? = some o) (hn : ∀ c e f, o ≠ .cells c e f) : (getObj r).run P w = .ok o w := by
  simp only [getObj, Sem.run, h]
  try (split <;> simp_all)
  try (cases o <;> simp_all [Sem.run])

theorem run_setObj {P : Program} {w : World} {r : Nat} {o o' : Obj} (h : w.heap[r]? = some o) (hn : ∀ c e f, o ≠ .cells c e f) : (setObj r o').run P w = .ok () { w with heap := w.heap.setIfInBounds r o' } := by
  simp only [setObj, Sem.run, h]
  try (split <;> simp_all)
  try (cases o <;> simp_all [Sem.run])

/-- An object that is no row of cells is laid anew. -/
theorem HR.set_obj {σ : Sg} {h : H} {w : World} (hr : HR σ h w) {id : Nat} {p : Plc} {o o' : AO} {ob : Obj} (ho : h.objs.get id = some o) (hc : isCells o = false) (hc' : isCells o' = false) (hp : σ id = some p)
    (hor : OR σ o' p (some ob)) : HR σ (h.set id o') { w with heap := w.heap.setIfInBounds p.b ob } ∧ Ext σ σ h (h.set id o') w { w with heap := w.heap.setIfInBounds p.b ob } := by
  have hlt := hr.lt ho hp
  refine hr.update (o' := o') ho hp ?_ rfl ?_ ?_ ?_ (by simp) rfl rfl rfl (minN_le _ _).1 ?_ (fun cs f e => by subst e; simp [isCells] at hc') (fun cs e => by subst e; simp [isCells] at hc)
  · intro j x hx
    simp only [H.set, put_get] at hx
    split at hx
    · rename_i e; cases hx; exact .inl ⟨e, rfl⟩
    · rename_i hne
      refine .inr ⟨hne, hx, ?_⟩
      intro q hq hb
      rcases hr.sep j id x o q p hne hx ho hq hp hb with ⟨cs, cs', f, e1, e2⟩ | ⟨cs, cs', e1, e2⟩ <;> (rw [e2] at hc; simp [isCells] at hc)
  · intro i cs f hi
    simp only [H.set, put_get] at hi
    split at hi
    · cases hi; simp [isCells] at hc'
    · exact hr.fam i cs f hi
  · simp only [Array.getElem?_setIfInBounds]
    simp only [if_true, hlt]
    exact hor
  · intro b hb
    simp only [Array.getElem?_setIfInBounds]
    rw [if_neg (fun e => hb e.symm)]
  · intro j hj hjn
    have := minN_le h.low id
    simp only [H.set] at hj ⊢
    rw [put_other _ _ (by omega)]

theorem HR.map {σ : Sg} {h : H} {w : World} (hr : HR σ h w) {id : Nat} {p : Plc} {es : List (AV × AV × Nat)} {c : Nat} (hm : h.mapOf id = some (es, c)) (hp : σ id = some p) :
    h.objs.get id = some (.map es c) ∧ ∃ es' : Array MapEntry, w.heap[p.b]? = some (.map es' c) ∧ EL σ es es'.toList := by
  unfold H.mapOf at hm
  split at hm
  · rename_i es0 c0 ho
    simp only [Option.some.injEq, Prod.mk.injEq] at hm
    obtain ⟨rfl, rfl⟩ := hm
    obtain ⟨q, hq, es', h1, h2, h3⟩ := hr.obj id _ ho
    rw [hp] at hq; cases hq
    exact ⟨ho, es', h1, by simpa using h2, fun i e m he hm => h3 i e m he (by simpa using hm)⟩
  · simp at hm

theorem EL.get {σ : Sg} {es : List (AV × AV × Nat)} {l : List MapEntry} (h : EL σ es l) {i : Nat} {e : AV × AV × Nat} (he : es[i]? = some e) : ∃ m, l[i]? = some m ∧ ER σ e m := by
  have hi : i < es.length := by
    rcases Nat.lt_or_ge i es.length with h | h
    · exact h
    · simp [List.getElem?_eq_none h] at he
  have hl : i < l.length := h.1 ▸ hi
  exact ⟨l[i], List.getElem?_eq_getElem hl, h.2 i e _ he (List.getElem?_eq_getElem hl)⟩

theorem EL.append {σ : Sg} {es fs : List (AV × AV × Nat)} {l k : List MapEntry} (h : EL σ es l) (g : EL σ fs k) : EL σ (es ++ fs) (l ++ k) := by
  refine ⟨by simp [h.1, g.1], ?_⟩
  intro i x y hx hy
  rw [List.getElem?_append] at hx hy
  have e := h.1
  by_cases hi : i < es.length
  · rw [if_pos hi] at hx; rw [if_pos (by omega)] at hy; exact h.2 i x y hx hy
  · rw [if_neg hi] at hx; rw [if_neg (by omega), ← e] at hy; exact g.2 _ x y hx hy

theorem EL.one {σ : Sg} {e : AV × AV × Nat} {m : MapEntry} (h : ER σ e m) : EL σ [e] [m] :=
  ⟨rfl, fun i x y hx hy => by
    cases i with
    | zero => simp at hx hy; subst hx; subst hy; exact h
    | succ i => simp at hx⟩

theorem setAt_length (x : AV × AV × Nat) : ∀ (es : List (AV × AV × Nat)) (i : Nat), (setAt x es i).length = es.length
  | [], i => by simp [setAt]
  | e :: es, 0 => by simp [setAt]
  | e :: es, i + 1 => by simp [setAt, setAt_length x es i]

theorem setAt_get (x : AV × AV × Nat) : ∀ (es : List (AV × AV × Nat)) (i j : Nat), i < es.length → (setAt x es i)[j]? = if j = i then some x else es[j]?
  | [], i, j, h => by simp at h
  | e :: es, 0, j, h => by cases j <;> simp [setAt]
  | e :: es, i + 1, j, h => by
    cases j with
    | zero => simp [setAt]
    | succ j => simp only [setAt, List.getElem?_cons_succ, setAt_get x es i j (by simpa using h)]; by_cases hj : j = i <;> simp [hj]

theorem EL.set {σ : Sg} {es : List (AV × AV × Nat)} {l : Array MapEntry} (h : EL σ es l.toList) {i : Nat} {x : AV × AV × Nat} {f : MapEntry → MapEntry} (hi : i < es.length) (hf : ∀ m, l.toList[i]? = some m → ER σ x (f m)) :
    EL σ (setAt x es i) (l.modify i f).toList := by
  refine ⟨by rw [setAt_length]; have := h.1; simpa using this, ?_⟩
  intro j e m he hm
  rw [setAt_get x es i j hi] at he
  have hm' : (l.modify i f)[j]? = some m := by rw [← Array.getElem?_toList]; exact hm
  rw [Array.getElem?_modify] at hm'
  by_cases hj : j = i
  · subst hj
    rw [if_pos rfl] at he hm'
    simp only [Option.some.injEq] at he; subst he
    cases hl : l[j]? with
    | none => simp [hl] at hm'
    | some m0 =>
      simp only [hl, Option.map_some, Option.some.injEq] at hm'
      subst hm'
      exact hf m0 (by simpa using hl)
  · rw [if_neg hj] at he
    rw [if_neg (fun e => hj e.symm)] at hm'
    exact h.2 j e m he (by simpa using hm')

theorem mapTypeA_eq {P : Program} {t k e : TypeId} (h : mapTypeA P t = some (k, e)) : P.underlying t = some (.map k e) := by
  unfold mapTypeA at h
  split at h
  · rename_i h1; simp only [Option.some.injEq, Prod.mk.injEq] at h; obtain ⟨rfl, rfl⟩ := h; exact h1
  · simp at h

theorem keyUnd {P : Program} {t : TypeId} {k : AV} (h : keyA P t k = true) : ∃ d, P.underlying t = some d := by
  simp only [keyA, ckA] at h
  cases hu : P.underlying t with
  | none => simp [hu] at h
  | some d => exact ⟨d, rfl⟩

theorem lookupA_run {P : Program} {σ : Sg} {h : H} {w : World} (hr : HR σ h w) {t : TypeId} {x k r : AV} {v u : Value} {ok : Bool} (hl : lookupA P h t x k ok = some r) (hv : V σ x v) (hk : V σ k u) :
    ∃ z, (Instr.lookup t v u ok).run P w = .ok z w ∧ V σ r z := by
  unfold lookupA at hl
  cases hm : mapTypeA P t with
  | none => simp [hm] at hl
  | some q =>
    obtain ⟨kt, et⟩ := q
    simp only [hm, Option.bind_some] at hl
    obtain ⟨hka, hl9⟩ := cond_some hl
    clear hl
    have hu := mapTypeA_eq hm
    obtain ⟨kd, hkd⟩ := keyUnd hka
    have main : ∀ (es : List (AV × AV × Nat)) (es' : Array MapEntry), EL σ es es'.toList →
        (∀ (r0 : Option (Nat × Value)) (z : Value) (b : Bool), (Instr.findKey kt u es'.toList).run P w = .ok r0 w →
          (match r0 with | some q => z = q.2 ∧ b = true | none => (zeroValue et).run P w = .ok z w ∧ b = false) →
          (Instr.lookup t v u ok).run P w = .ok (if ok then .tuple #[z, .bool b] else z) w) →
        ((findA P kt k es 0).bind fun r =>
          ((match r with
            | some i => (es[i]?).map fun e => (e.2.1, true)
            | none => (zeroA P et).map fun z => (z, false) : Option (AV × Bool))).map fun (v, b) => cond ok (AV.tup [v, .bool b]) v) = some r →
        ∃ z, (Instr.lookup t v u ok).run P w = .ok z w ∧ V σ r z := by
      intro es es' hel hget h
      cases hf : findA P kt k es 0 with
      | none => simp [hf] at h
      | some r0 =>
        simp only [hf, Option.bind_some] at h
        have hfind := findKey_run (w := w) hkd hk hf hel
        have fin : ∀ (a : AV) (b : Bool) (z : Value), V σ a z → (cond ok (AV.tup [a, .bool b]) a) = r → V σ r (if ok then .tuple #[z, .bool b] else z) := by
          intro a b z hz e
          subst e
          cases ok
          · exact hz
          · exact .mk_tup' (.cons hz (.cons (.bool b) .nil))
        cases r0 with
        | some i =>
          cases he : es[i]? with
          | none => simp [he] at h
          | some e =>
            simp only [he, Option.map_some, Option.some.injEq] at h
            obtain ⟨m, hm1, hm2⟩ := hel.get he
            refine ⟨_, hget _ m.val true hfind ?_, fin _ _ _ hm2.2.1 h⟩
            simp [found, hm1]
        | none =>
          cases hz : zeroA P et with
          | none => simp [hz] at h
          | some z =>
            simp only [hz, Option.map_some, Option.some.injEq] at h
            obtain ⟨zv, hzr, hzV, _⟩ := run_zero' (w := w) (σ := σ) hz
            exact ⟨_, hget _ zv false hfind ⟨hzr, rfl⟩, fin _ _ _ hzV h⟩
    split at hl9
    · cases hv
      refine main [] #[] ⟨rfl, fun i e m he _ => by simp at he⟩ ?_ hl9
      intro r0 z b hf hz
      simp only [Instr.lookup, Sem.run_bind, run_und hu, Result.andThen_ok, Sem.run_pure, keyA_run hka hk, hf]
      cases r0 with
      | some q => obtain ⟨rfl, rfl⟩ := hz; rfl
      | none => obtain ⟨hz, rfl⟩ := hz; simp only [Sem.run_bind, hz, Result.andThen_ok, Sem.run_pure]
    · rename_i id
      cases hv with
      | map hp =>
        cases hmo : h.mapOf id with
        | none => simp [hmo] at hl9
        | some q =>
          obtain ⟨es, c⟩ := q
          simp only [hmo, Option.map_some, Option.bind_some] at hl9
          obtain ⟨_, es', h1, h2⟩ := hr.map hmo hp
          refine main es es' h2 ?_ hl9
          intro r0 z b hf hz
          simp only [Instr.lookup, Sem.run_bind, run_und hu, Result.andThen_ok, run_getObj h1 (by simp), Sem.run_pure, keyA_run hka hk, hf]
          cases r0 with
          | some q => obtain ⟨rfl, rfl⟩ := hz; rfl
          | none => obtain ⟨hz, rfl⟩ := hz; simp only [Sem.run_bind, hz, Result.andThen_ok, Sem.run_pure]
    · simp at hl9

theorem found_at {es : List (AV × AV × Nat)} {l : List MapEntry} {σ : Sg} (hel : EL σ es l) {i : Nat} {e : AV × AV × Nat} (he : es[i]? = some e) : ∃ m, l[i]? = some m ∧ ER σ e m ∧ found (some i) 0 l = some (i, m.val) := by
  obtain ⟨m, h1, h2⟩ := hel.get he
  exact ⟨m, h1, h2, by simp [found, h1]⟩

theorem lt_of_some {α : Type} {l : List α} {i : Nat} {x : α} (h : l[i]? = some x) : i < l.length := by
  rcases Nat.lt_or_ge i l.length with h' | h'
  · exact h'
  · simp [List.getElem?_eq_none h'] at h

theorem OR_map {σ : Sg} {es : List (AV × AV × Nat)} {es' : Array MapEntry} {c : Nat} {p : Plc} (h : EL σ es es'.toList) : OR σ (.map es c) p (some (.map es' c)) :=
  ⟨es', rfl, by have := h.1; simpa using this, fun i e m he hm => h.2 i e m he (by simpa using hm)⟩

theorem mapUpdateA_run {P : Program} {σ : Sg} {h h' : H} {w : World} (hr : HR σ h w) {t : TypeId} {x k a : AV} {v u z : Value} (hl : mapUpdateA P h t x k a = some h') (hv : V σ x v) (hk : V σ k u) (ha : V σ a z) :
    ∃ w', (Instr.mapUpdate t v u z).run P w = .ok () w' ∧ HR σ h' w' ∧ Ext σ σ h h' w w' := by
  unfold mapUpdateA at hl
  cases hm : mapTypeA P t with
  | none => simp [hm] at hl
  | some q =>
    obtain ⟨kt, et⟩ := q
    simp only [hm, Option.bind_some] at hl
    obtain ⟨hka, hl9⟩ := cond_some hl
    clear hl
    have hu := mapTypeA_eq hm
    obtain ⟨kd, hkd⟩ := keyUnd hka
    split at hl9
    · rename_i id
      cases hv with
      | @map _ p hp =>
        cases hmo : h.mapOf id with
        | none => simp [hmo] at hl9
        | some q =>
          obtain ⟨es, c⟩ := q
          simp only [hmo, Option.bind_some] at hl9
          obtain ⟨ho, es', h1, h2⟩ := hr.map hmo hp
          cases hf : findA P kt k es 0 with
          | none => simp [hf] at hl9
          | some r0 =>
            simp only [hf, Option.bind_some] at hl9
            have hfind := findKey_run (w := w) hkd hk hf h2
            cases r0 with
            | some i =>
              cases he : es[i]? with
              | none => simp [he] at hl9
              | some e =>
                simp only [he, Option.bind_some] at hl9
                obtain ⟨hst, hl9⟩ := cond_some hl9
                simp only [Option.some.injEq] at hl9
                subst hl9
                obtain ⟨m, hm1, hm2, hfo⟩ := found_at h2 he
                have hm1' : es'[i]? = some m := by simpa using hm1
                have hst' := stays_run (P := P) (w := w) hst hk hm2.1
                have hel : EL σ (setAt (k, a, e.2.2) es i) (es'.modify i fun m => { m with key := u, val := z }).toList :=
                  h2.set (lt_of_some he) (fun m' hm' => by rw [hm1] at hm'; cases hm'; exact ⟨hk, ha, hm2.2.2⟩)
                obtain ⟨g1, g2⟩ := hr.set_obj ho rfl rfl hp (OR_map (c := c) (p := p) hel)
                refine ⟨_, ?_, g1, g2⟩
                simp only [Instr.mapUpdate, Sem.run_bind, run_und hu, Result.andThen_ok, run_getObj h1 (by simp), keyA_run hka hk, hfind, hfo, hm1', Option.map_some, Option.getD_some, hst']
                exact run_setObj h1 (by simp)
            | none =>
              simp only [Option.some.injEq] at hl9
              subst hl9
              have hel : EL σ (es ++ [(k, a, c)]) (es'.push { key := u, val := z, born := c }).toList := by
                rw [Array.toList_push]
                exact h2.append (.one ⟨hk, ha, rfl⟩)
              obtain ⟨g1, g2⟩ := hr.set_obj ho rfl rfl hp (OR_map (c := c + 1) (p := p) hel)
              refine ⟨_, ?_, g1, g2⟩
              simp only [Instr.mapUpdate, Sem.run_bind, run_und hu, Result.andThen_ok, run_getObj h1 (by simp), keyA_run hka hk, hfind, found]
              exact run_setObj h1 (by simp)
    · simp at hl9

theorem mapEntryA_run {P : Program} {σ : Sg} {h h' : H} {w : World} (hr : HR σ h w) {t : TypeId} {x k r : AV} {v u : Value} (hl : mapEntryA P h t x k = some (r, h')) (hv : V σ x v) (hk : V σ k u) :
    ∃ z w', (Instr.mapEntry t v u).run P w = .ok z w' ∧ V σ r z ∧ HR σ h' w' ∧ Ext σ σ h h' w w' := by
  unfold mapEntryA at hl
  cases hm : mapTypeA P t with
  | none => simp [hm] at hl
  | some q =>
    obtain ⟨kt, et⟩ := q
    simp only [hm, Option.bind_some] at hl
    obtain ⟨hka, hl9⟩ := cond_some hl
    clear hl
    have hu := mapTypeA_eq hm
    obtain ⟨kd, hkd⟩ := keyUnd hka
    split at hl9
    · rename_i id
      cases hv with
      | @map _ p hp =>
        cases hmo : h.mapOf id with
        | none => simp [hmo] at hl9
        | some q =>
          obtain ⟨es, c⟩ := q
          simp only [hmo, Option.bind_some] at hl9
          obtain ⟨ho, es', h1, h2⟩ := hr.map hmo hp
          cases hf : findA P kt k es 0 with
          | none => simp [hf] at hl9
          | some r0 =>
            simp only [hf, Option.bind_some] at hl9
            have hfind := findKey_run (w := w) hkd hk hf h2
            cases r0 with
            | some i =>
              cases he : es[i]? with
              | none => simp [he] at hl9
              | some e =>
                simp only [he, Option.bind_some] at hl9
                obtain ⟨hst, hl9⟩ := cond_some hl9
                simp only [Option.some.injEq, Prod.mk.injEq] at hl9
                obtain ⟨rfl, rfl⟩ := hl9
                obtain ⟨m, hm1, hm2, hfo⟩ := found_at h2 he
                have hm1' : es'[i]? = some m := by simpa using hm1
                have hst' := stays_run (P := P) (w := w) hst hk hm2.1
                have hel : EL σ (setAt (k, e.2.1, e.2.2) es i) (es'.modify i fun m => { m with key := u }).toList :=
                  h2.set (lt_of_some he) (fun m' hm' => by rw [hm1] at hm'; cases hm'; exact ⟨hk, hm2.2.1, hm2.2.2⟩)
                obtain ⟨g1, g2⟩ := hr.set_obj ho rfl rfl hp (OR_map (c := c) (p := p) hel)
                refine ⟨.tuple #[m.val, goInt m.born], _, ?_, ?_, g1, g2⟩
                · simp only [Instr.mapEntry, Sem.run_bind, run_und hu, Result.andThen_ok, run_getObj h1 (by simp), keyA_run hka hk, hfind, hfo, hm1', Option.map_some, Option.getD_some, hst', run_setObj h1 (by simp), Sem.run_pure]
                · rw [hm2.2.2]
                  exact .mk_tup' (.cons hm2.2.1 (.cons (.int _ _) .nil))
            | none =>
              cases hz : zeroA P et with
              | none => simp [hz] at hl9
              | some z =>
                simp only [hz, Option.map_some, Option.some.injEq, Prod.mk.injEq] at hl9
                obtain ⟨rfl, rfl⟩ := hl9
                obtain ⟨zv, hzr, hzV, _⟩ := run_zero' (w := w) (σ := σ) hz
                have hel : EL σ (es ++ [(k, z, c)]) (es'.push { key := u, val := zv, born := c }).toList := by
                  rw [Array.toList_push]
                  exact h2.append (.one ⟨hk, hzV, rfl⟩)
                obtain ⟨g1, g2⟩ := hr.set_obj ho rfl rfl hp (OR_map (c := c + 1) (p := p) hel)
                refine ⟨.tuple #[zv, goInt c], _, ?_, .mk_tup' (.cons hzV (.cons (.int _ _) .nil)), g1, g2⟩
                simp only [Instr.mapEntry, Sem.run_bind, run_und hu, Result.andThen_ok, run_getObj h1 (by simp), keyA_run hka hk, hfind, found, hzr, run_setObj h1 (by simp), Sem.run_pure]
    · simp at hl9

theorem bornAt_get {b : Nat} : ∀ (es : List (AV × AV × Nat)) (k i : Nat), bornAt b es k = some i → k ≤ i ∧ i < k + es.length ∧ (∃ e, es[i - k]? = some e ∧ e.2.2 = b) ∧ ∀ j, j < i - k → ∀ e, es[j]? = some e → e.2.2 ≠ b
  | [], k, i, h => by simp [bornAt] at h
  | e :: es, k, i, h => by
    simp only [bornAt] at h
    cases hb : Nat.beq e.2.2 b
    · rw [hb, cond_ff] at h
      obtain ⟨h1, h2, ⟨x, h3, h4⟩, h5⟩ := bornAt_get es (k + 1) i h
      refine ⟨by omega, by simp; omega, ⟨x, ?_, h4⟩, ?_⟩
      · rw [show i - k = (i - (k + 1)) + 1 by omega, List.getElem?_cons_succ]; exact h3
      · intro j hj y hy
        cases j with
        | zero => simp at hy; subst hy; exact beqN_ne hb
        | succ j => exact h5 j (by omega) y (by simpa using hy)
    · rw [hb, cond_tt] at h
      simp only [Option.some.injEq] at h; subst h
      exact ⟨Nat.le_refl _, by simp, ⟨e, by simp, beqN hb⟩, fun j hj => by omega⟩

theorem findIdx_of {b i : Nat} {σ : Sg} {es : List (AV × AV × Nat)} {l : Array MapEntry} (h : EL σ es l.toList) (hb : bornAt b es 0 = some i) : l.findIdx? (fun e => (e.born : Int) == (b : Int)) = some i := by
  obtain ⟨h1, h2, ⟨x, h3, h4⟩, h5⟩ := bornAt_get es 0 i hb
  obtain ⟨m, hm1, hm2⟩ := h.get (i := i) (by simpa using h3)
  have hi : i < l.size := by have := lt_of_some hm1; simpa using this
  have hm1' : l[i] = m := by
    have : l[i]? = some m := by simpa using hm1
    rw [Array.getElem?_eq_getElem hi] at this
    simpa using this
  rw [Array.findIdx?_eq_some_iff_getElem]
  refine ⟨hi, ?_, ?_⟩
  · rw [hm1']; have := hm2.2.2; simp; omega
  · intro j hj
    have hjl : j < es.length := by have := h.1; simp at this; omega
    have := h5 j (by omega) _ (List.getElem?_eq_getElem hjl)
    have hr := (h.2 j _ (l[j]'(by omega)) (List.getElem?_eq_getElem hjl) (by simp)).2.2
    simp; omega

theorem entryStoreA_run {P : Program} {σ : Sg} {h h' : H} {w : World} (hr : HR σ h w) {t : TypeId} {x s a : AV} {v u z : Value} (hl : entryStoreA h x s a = some h') (hv : V σ x v) (hs : V σ s u) (ha : V σ a z) :
    ∃ w', (Instr.entryStore t v u z).run P w = .ok () w' ∧ HR σ h' w' ∧ Ext σ σ h h' w w' := by
  unfold entryStoreA at hl
  split at hl
  · rename_i id
    cases hv with
    | @map _ p hp =>
      cases hmo : h.mapOf id with
      | none => simp [hmo] at hl
      | some q =>
        obtain ⟨es, c⟩ := q
        simp only [hmo, Option.bind_some] at hl
        obtain ⟨ho, es', h1, h2⟩ := hr.map hmo hp
        cases hn : natOf s with
        | none => simp [hn] at hl
        | some b =>
          simp only [hn, Option.bind_some] at hl
          obtain ⟨k, rfl, hk⟩ := natOf_run (P := P) (w := w) hn hs
          cases hb : bornAt b es 0 with
          | none => simp [hb] at hl
          | some i =>
            simp only [hb, Option.bind_some] at hl
            cases he : es[i]? with
            | none => simp [he] at hl
            | some e =>
              simp only [he, Option.map_some, Option.some.injEq] at hl
              subst hl
              obtain ⟨m, hm1, hm2⟩ := h2.get he
              have hel : EL σ (setAt (e.1, a, e.2.2) es i) (es'.modify i fun m => { m with val := z }).toList :=
                h2.set (lt_of_some he) (fun m' hm' => by rw [hm1] at hm'; cases hm'; exact ⟨hm2.1, ha, hm2.2.2⟩)
              obtain ⟨g1, g2⟩ := hr.set_obj ho rfl rfl hp (OR_map (c := c) (p := p) hel)
              refine ⟨_, ?_, g1, g2⟩
              simp only [Instr.entryStore, Sem.run_bind, Sem.run_pure, Result.andThen_ok, run_getObj h1 (by simp), asInt, hk, findIdx_of h2 hb]
              exact run_setObj h1 (by simp)
  · simp at hl

end Go.Ev

/- The evaluator's builtins, and the model's. No conditions beyond those that each theorem states. -/
namespace Go.Ev

theorem growBy_le (n : Nat) : ∀ (r c : Nat), c ≤ n + n / 4 + 192 → Builtin.growBy n r c ≤ n + n / 4 + 192
  | 0, c, h => by simpa [Builtin.growBy] using h
  | r + 1, c, h => by
    simp only [Builtin.growBy]
    split
    · exact h
    · exact growBy_le n r _ (by omega)

theorem nextcap_le {n c : Nat} (h : c < n) : Builtin.nextslicecap n c ≤ 2 * n + 192 := by
  unfold Builtin.nextslicecap
  split
  · omega
  · split
    · omega
    · have := growBy_le n 4 c (by omega); omega

/-- The cells of a slice, as firstCells reads them. -/
theorem sliceCells_run {P : Program} {σ : Sg} {h : H} {w : World} (hr : HR σ h w) {o : Option (Nat × Nat)} {n len es s : Nat} {cap : Option Nat} {cs : List AV} {v : Value} (hc : sliceCells h o n s = some cs) (hes : es = s ∨ n = 0) (hn : n ≤ len)
    (hv : V σ (.slice o len es cap) v) : ∃ vs, VL σ cs vs ∧ cs.length = n * s ∧ ∀ w', w'.heap = w.heap → (Builtin.firstCells s n v).run P w' = .ok vs.toArray w' := by
  unfold sliceCells at hc
  cases o with
  | none =>
    obtain ⟨h0, hc2⟩ := cond_some hc
    clear hc
    have := beqN h0; subst this
    simp only [Option.some.injEq] at hc2; subst hc2
    cases hv
    exact ⟨[], .nil, by simp, fun w' _ => by simp [Builtin.firstCells]⟩
  | some q =>
    obtain ⟨id, off⟩ := q
    simp only at hc
    cases h0 : Nat.beq n 0
    · rw [h0, cond_ff] at hc
      have hn0 := beqN_ne h0
      have hes := hes.resolve_right hn0
      subst hes
      cases hv with
      | @slice _ _ _ _ _ a p c hp hl hroom hcap ha =>
        have ha := ha.resolve_right (by omega)
        subst ha
        obtain ⟨vs, h1, h2, h3⟩ := hr.chunk hc hp
        refine ⟨vs, h1, h2, fun w' hw' => ?_⟩
        have e : n * es = vs.length := by rw [← h1.1]; exact h2.symm
        simp only [Builtin.firstCells]
        rw [e]
        exact run_loadChunk fun j v hv => by rw [← h3 j v hv]; simp [World.cell?, hw']
    · rw [h0, cond_tt] at hc
      have := beqN h0; subst this
      simp only [Option.some.injEq] at hc; subst hc
      cases hv with
      | slice hp hl hroom hcap ha => exact ⟨[], .nil, by simp, fun w' _ => by simp [Builtin.firstCells, loadCells, loadCellsFrom]⟩

/-- What is known of what is appended: how many elements, their cells. -/
def App (P : Program) (w : World) (e s : Nat) (xt : TypeId) (u : Value) (n : Nat) (vs : List Value) : Prop :=
  ∃ d, P.underlying xt = some d ∧
      (((∃ k, d = .int k) ∧ ∃ k, u = .int k (n : Int) ∧ ∃ z, (zeroValue e).run P w = .ok z w ∧ (n * s ≠ 0 → Builtin.zeroCells z.cells n = vs.toArray) ∧ (n * s = 0 → vs = [])) ∨
       ((∀ k, d ≠ .int k) ∧ (Builtin.lenOf u).run P w = .ok n w ∧ (Builtin.firstCells s n u).run P w = .ok vs.toArray w))

/-- What is appended. -/
theorem appendedA_run {P : Program} {σ : Sg} {h : H} {w : World} (hr : HR σ h w) {e s : Nat} {xt : TypeId} {y : AV} {u : Value} {n : Nat} {cs : List AV} (hs0 : s ≠ 0)
    (ha : appendedA P h e s xt y = some (n, cs)) (hu : V σ y u) : ∃ vs, VL σ cs vs ∧ cs.length = n * s ∧ ∀ w', w'.heap = w.heap → App P w' e s xt u n vs := by
  unfold appendedA at ha
  split at ha
  · rename_i k hd
    cases hn : natOf y with
    | none => simp [hn] at ha
    | some n0 =>
      cases hz : zeroA P e with
      | none => simp [hn, hz] at ha
      | some z =>
        simp only [hn, hz, Option.bind_some] at ha
        obtain ⟨hc, ha2⟩ := cond_some ha
        clear ha
        simp only [Bool.and_eq_true] at hc
        have hzl := beqN hc.2
        simp only [Option.some.injEq, Prod.mk.injEq] at ha2
        obtain ⟨rfl, rfl⟩ := ha2
        obtain ⟨zv, _, hzV, iz, hiz, hizz⟩ := run_zero' (w := w) (σ := σ) hz
        obtain ⟨k1, rfl, hk1⟩ := natOf_run (P := P) (w := w) hn hu
        have hzs : zv.cells.size = s := by have := hzV.cells.1; simp at this; omega
        have hrep := rep_VL hzV.cells (by omega) n0
        rw [hzl] at hrep
        refine ⟨_, hrep, by rw [rep_length, hzl], fun w' _ => ⟨_, hd, .inl ⟨⟨k, rfl⟩, k1, rfl, zv, by simp [zeroValue, run_typeInfo' hiz, hizz], ?_, ?_⟩⟩⟩
        · intro _
          simp only [Builtin.zeroCells, hzs]
        · intro h0; rw [h0]; simp
  · rename_i d hnd hd
    split at ha
    · rename_i o m es cp
      obtain ⟨hc, ha2⟩ := cond_some ha
      clear ha
      cases hsc : sliceCells h o m s with
      | none => simp [hsc] at ha2
      | some cs0 =>
        simp only [hsc, Option.map_some, Option.some.injEq, Prod.mk.injEq] at ha2
        obtain ⟨rfl, rfl⟩ := ha2
        have hes : es = s ∨ m = 0 := by
          simp only [Bool.or_eq_true] at hc
          rcases hc with hc | hc
          · exact .inl (beqN hc)
          · exact .inr (beqN hc)
        obtain ⟨vs, h1, h2, h3⟩ := sliceCells_run (P := P) hr hsc hes (Nat.le_refl _) hu
        refine ⟨vs, h1, h2, fun w' hw' => ⟨d, hd, .inr ⟨fun k e => hnd k e, ?_, h3 w' hw'⟩⟩⟩
        cases hu with
        | sliceN h0 => subst h0; rfl
        | slice hp hl hroom hcap ha => rfl
    · simp at ha
  · simp at ha

theorem append_in_place {P : Program} {w : World} {ats : Array TypeId} {T st xt e s : TypeId} {args : Array Value} {base : Option Addr} {u : Value} {len c n : Nat} {vs : List Value} {i : TypeInfo}
    (h0 : ats[0]? = some st) (h1 : ats[1]? = some xt) (h2 : args[0]? = some (.slice base len c)) (h3 : args[1]? = some u) (hst : P.underlying st = some (.slice e)) (hi : P.info? e = some i) (his : i.size = s) (hib : i.bytes ≤ 10000)
    (happ : App P w e s xt u n vs) (hn : n ≤ 1000000) (hle : len + n ≤ c) :
    (Builtin.append_ ats T args).run P w = (match base with
      | some a => ((storeCells (a.add (len * s)) vs).run P w).andThen fun _ w' => .ok (.slice base (len + n) c) w'
      | none => .ok (.slice base (len + n) c) w) := by
  have hsz : (sizeOf e).run P w = .ok s w := by simp [sizeOf, run_typeInfo' hi, his]
  obtain ⟨d, hd, happ⟩ := happ
  rcases happ with ⟨⟨k, rfl⟩, k2, rfl, z, hz, hz1, hz2⟩ | ⟨hk, hl, hf⟩
  · have hw := wrap_small n (by omega)
    have hb : ¬ ((n : Int) * (i.bytes : Int) > 2 ^ 48) := by
      have : n * i.bytes ≤ 1000000 * 10000 := Nat.mul_le_mul hn hib
      rw [← Int.natCast_mul]
      have e2 : ((2 : Int) ^ 48) = 281474976710656 := by decide
      rw [e2]; omega
    have hneg : ¬ ((n : Int) < 0) := by omega
    simp only [Builtin.append_, h0, h1, h2, h3, Sem.run_bind, run_und hst, Result.andThen_ok, hsz, run_und hd, Sem.run_pure, if_true, asInt, asIntOf, hw, hneg, if_false, run_typeInfo' hi, hb, Int.toNat_natCast, hle, Bool.not_true, Bool.false_eq_true]
    by_cases hz0 : n * s = 0
    · simp only [hz0, if_true, Sem.run_pure, Result.andThen_ok, hz2 hz0]
      cases base <;> simp [storeCells]
    · simp only [hz0, if_false, Sem.run_bind, hz, Result.andThen_ok, Sem.run_pure, hz1 hz0]
      cases base <;> simp
  · simp only [Builtin.append_, h0, h1, h2, h3, Sem.run_bind, run_und hst, Result.andThen_ok, hsz, run_und hd, Sem.run_pure, Bool.false_eq_true, if_false, hl, hle, if_true, Bool.not_false, hf]
    cases base <;> simp

theorem append_grow {P : Program} {w : World} {ats : Array TypeId} {T st xt e s : TypeId} {args : Array Value} {base : Option Addr} {u z : Value} {len c n : Nat} {vs old : List Value} {i : TypeInfo}
    (h0 : ats[0]? = some st) (h1 : ats[1]? = some xt) (h2 : args[0]? = some (.slice base len c)) (h3 : args[1]? = some u) (hst : P.underlying st = some (.slice e)) (hi : P.info? e = some i) (his : i.size = s) (hib : i.bytes ≤ 10000)
    (happ : ∀ w', w'.heap = w.heap → App P w' e s xt u n vs) (hn : n ≤ 1000000) (hln : len ≤ 1000000) (hgt : c < len + n) (hzv : ∀ w', (zeroValue e).run P w' = .ok z w') (hold : ∀ w', w'.heap = w.heap → (Builtin.firstCells s len (.slice base len c)).run P w' = .ok old.toArray w') :
    ∃ (nc : Nat) (w1 : World) (rest : Array Value), len + n ≤ nc ∧ w1.heap = w.heap ∧ w1.os = w.os ∧ w1.tape = w.tape ∧ w1.output = w.output ∧
      (Builtin.append_ ats T args).run P w = .ok (.slice (some ⟨w.heap.size, 0, none⟩) (len + n) nc) { w1 with heap := w.heap.push (.cells (old.toArray ++ vs.toArray ++ rest) e (0, 0)) } ∧ rest.size = (nc - (len + n)) * z.cells.size := by
  have hsz : ∀ w', (sizeOf e).run P w' = .ok s w' := fun w' => by simp [sizeOf, run_typeInfo' hi, his]
  have hnle : ¬ (len + n ≤ c) := by omega
  have hcap := nextcap_le hgt
  have hroom : ¬ (Builtin.nextslicecap (len + n) c * i.bytes > 2 ^ 48) := by
    have : Builtin.nextslicecap (len + n) c * i.bytes ≤ 5000000 * 10000 := Nat.mul_le_mul (by omega) hib
    omega
  let w1 : World := { w with drawn := w.drawn + 1 }
  let nc := (len + n) + (w.tape w.drawn (.appendCap (len + n) c e)) % (2 ^ 63 - (len + n))
  refine ⟨nc, w1, Builtin.zeroCells z.cells (nc - (len + n)), Nat.le_add_right _ _, rfl, rfl, rfl, rfl, ?_, by simp [Builtin.zeroCells]⟩
  have hforced : (Question.appendCap (len + n) c e).forced = false := rfl
  have hcut : (Question.appendCap (len + n) c e).cut (w.tape w.drawn (.appendCap (len + n) c e)) = nc := rfl
  have happ0 := happ w rfl
  have happ1 := happ w1 rfl
  have hold1 := hold w1 rfl
  obtain ⟨d, hd, happ0⟩ := happ0
  obtain ⟨d', hd', happ1⟩ := happ1
  rw [hd] at hd'; cases hd'
  have hint : ∀ (q : Bool), ¬ (((len + n : Nat) : Int) > IntKind.i64.max ∧ q = true) := by
    intro q hq
    have e2 : IntKind.i64.max = 9223372036854775807 := by decide
    rw [e2] at hq; omega
  have hint' : ∀ (q : Prop), ¬ (((len + n : Nat) : Int) > IntKind.i64.max ∧ q) := by
    intro q hq
    have e2 : IntKind.i64.max = 9223372036854775807 := by decide
    rw [e2] at hq; omega
  rcases happ0 with ⟨⟨k, rfl⟩, k2, rfl, z', hz, hz1, hz2⟩ | ⟨hk, hl, hf⟩
  · have hzz : z' = z := by have := hzv w; rw [hz] at this; simpa using this
    subst hzz
    have hw := wrap_small n (by omega)
    have hb : ¬ ((n : Int) * (i.bytes : Int) > 2 ^ 48) := by
      have : n * i.bytes ≤ 1000000 * 10000 := Nat.mul_le_mul hn hib
      rw [← Int.natCast_mul]
      have e2 : ((2 : Int) ^ 48) = 281474976710656 := by decide
      rw [e2]; omega
    have hneg : ¬ ((n : Int) < 0) := by omega
    simp only [Builtin.append_, h0, h1, h2, h3, Sem.run_bind, run_und hst, Result.andThen_ok, hsz, run_und hd, Sem.run_pure, if_true, asInt, asIntOf, hw, hneg, if_false, run_typeInfo' hi, hb, Int.toNat_natCast, hnle, Bool.not_true, Bool.false_eq_true, hint', hroom, run_choose, hforced, hcut, run_askRoom]
    show _ = _
    rw [hold1]
    simp only [Result.andThen_ok]
    by_cases hz0 : n * s = 0
    · simp only [hz0, if_true, Sem.run_pure, Result.andThen_ok, hz2 hz0, hzv, newRow, Sem.run_bind, run_newObj]
      rfl
    · simp only [hz0, if_false, Sem.run_bind, hzv, Result.andThen_ok, Sem.run_pure, hz1 hz0, newRow, run_newObj]
      rfl
  · rcases happ1 with ⟨⟨k, rfl⟩, _⟩ | ⟨_, _, hf1⟩
    · exact absurd rfl (hk k)
    simp only [Builtin.append_, h0, h1, h2, h3, Sem.run_bind, run_und hst, Result.andThen_ok, hsz, run_und hd, Sem.run_pure, Bool.false_eq_true, if_false, hl, hnle, if_true, Bool.not_false, run_typeInfo' hi, hint', hroom, run_choose, hforced, hcut, run_askRoom]
    show _ = _
    rw [hold1]
    simp only [Result.andThen_ok]
    rw [hf1]
    simp only [Result.andThen_ok, Sem.run_bind, hzv, Sem.run_pure, newRow, run_newObj]
    rfl

/-- A block that may lie in the block of an elder one. -/
theorem HR.fork {σ : Sg} {h : H} {w w' : World} (hr : HR σ h w) {id fam k : Nat} {bs cs' : List AV} {p q : Plc} (ho : h.objs.get id = some (.cells bs fam)) (hp : σ id = some p)
    (hq : q.b = p.b ∨ w.heap.size ≤ q.b) (h1 : OR σ (.cells (bs.take k) fam) p w'.heap[p.b]?) (h2 : OR (up σ h.next q) (.cells cs' fam) q w'.heap[q.b]?)
    (hw : ∀ b, b < w.heap.size → b ≠ p.b → w'.heap[b]? = w.heap[b]?) (hsz : w.heap.size ≤ w'.heap.size) (e1 : w'.os = w.os) (e2 : w'.tape = w.tape) (e3 : w'.output = w.output) :
    HR (up σ h.next q) (h.forked id fam (bs.take k) cs') w' ∧ Ext σ (up σ h.next q) h (h.forked id fam (bs.take k) cs') w w' := by
  obtain ⟨a1, a2, a3, a4, a5, a6, a7, a8⟩ := alone_facts hr ho
  have hnone : σ h.next = none := hr.fresh _ (Nat.le_refl _)
  have hle := up_le (p := q) hnone
  have hidn := hr.ltN ho
  have hget : ∀ j x, (h.forked id fam (bs.take k) cs').objs.get j = some x →
      (j = h.next ∧ x = .cells cs' fam) ∨ (j = id ∧ x = .cells (bs.take k) fam) ∨ (j ≠ id ∧ j ≠ h.next ∧ h.objs.get j = some x ∧ (∀ q, σ j = some q → q.b ≠ p.b) ∧ ∀ cs f, x = .cells cs f → f ≠ fam) := by
    intro j x hx
    simp only [H.forked] at hx
    rw [put_get, a4] at hx
    split at hx
    · rename_i e; cases hx; exact .inl ⟨e, rfl⟩
    · rename_i hn
      rw [put_get] at hx
      split at hx
      · rename_i e; cases hx; exact .inr (.inl ⟨e, rfl⟩)
      · rename_i hne
        have hx' := a2 j x hx
        refine .inr (.inr ⟨hne, hn, hx', ?_, ?_⟩)
        · intro q' hq' hb
          obtain ⟨cs1, f1⟩ := (hr.sep j id x _ q' p hne hx' ho hq' hp hb).left
          subst f1
          exact hne (a3 j cs1 hx)
        · intro cs f e hf; subst e; subst hf; exact hne (a3 j cs hx)
  have hup : ∀ j, j ≠ h.next → ∀ r, up σ h.next q j = some r → σ j = some r := by
    intro j hj r hr'; simpa [up, hj] using hr'
  refine ⟨⟨?_, ?_, ?_, ?_, ?_⟩, ⟨hle, by simp only [H.forked]; omega, hsz, e1, e2, e3, ?_, ?_, ?_, ?_, ?_, ?_⟩⟩
  · intro j x hx
    rcases hget j x hx with ⟨rfl, rfl⟩ | ⟨rfl, rfl⟩ | ⟨c1, c2, c3, c4, _⟩
    · exact ⟨q, up_same _ _ _, h2⟩
    · exact ⟨p, hle _ _ hp, h1.mono hle⟩
    · obtain ⟨r, r1, r2⟩ := hr.obj j x c3
      exact ⟨r, hle _ _ r1, by rw [hw _ (hr.lt c3 r1) (c4 r r1)]; exact r2.mono hle⟩
  · intro j hj
    simp only [H.forked] at hj
    have : j ≠ h.next := by omega
    simp [up, this, hr.fresh j (by omega)]
  · intro i j x y r s hij hx hy h3 h4 hb
    rcases hget i x hx with ⟨rfl, rfl⟩ | ⟨rfl, rfl⟩ | ⟨c1, c2, c3, c4, _⟩
    · rw [up_same] at h3; cases h3
      rcases hget j y hy with ⟨rfl, rfl⟩ | ⟨rfl, rfl⟩ | ⟨d1, d2, d3, d4, _⟩
      · exact absurd rfl hij
      · exact .inl ⟨_, _, _, rfl, rfl⟩
      · have h4' := hup j d2 s h4
        have := hr.lt d3 h4'
        have := d4 s h4'
        rcases hq with hq | hq <;> omega
    · have h3' := hup i (by omega) r h3
      rw [hp] at h3'; cases h3'
      rcases hget j y hy with ⟨rfl, rfl⟩ | ⟨rfl, rfl⟩ | ⟨d1, d2, d3, d4, _⟩
      · exact .inl ⟨_, _, _, rfl, rfl⟩
      · exact absurd rfl hij
      · exact absurd hb.symm (d4 s (hup j d2 s h4))
    · have h3' := hup i c2 r h3
      rcases hget j y hy with ⟨rfl, rfl⟩ | ⟨rfl, rfl⟩ | ⟨d1, d2, d3, d4, _⟩
      · rw [up_same] at h4; cases h4
        have := hr.lt c3 h3'
        have := c4 r h3'
        rcases hq with hq | hq <;> omega
      · have h4' := hup j (by omega) s h4
        rw [hp] at h4'; cases h4'
        exact absurd hb (c4 r h3')
      · exact hr.sep i j x y r s hij c3 d3 h3' (hup j d2 s h4) hb
  · intro i cs f hi
    have hfn : (h.forked id fam (bs.take k) cs').next = (h.alone id fam).next + 1 := rfl
    have hff : (h.forked id fam (bs.take k) cs').fams = (h.alone id fam).fams.put fam (some (id, (h.alone id fam).next)) := rfl
    rw [hfn, hff]
    rcases hget i _ hi with ⟨rfl, hx⟩ | ⟨rfl, hx⟩ | ⟨c1, c2, c3, c4, c5⟩
    · cases hx
      have := (hr.fam id _ _ ho).1
      exact ⟨by omega, _, _, put_same _ _ _, .inr a4.symm⟩
    · cases hx
      have := (hr.fam i _ _ ho).1
      exact ⟨by omega, _, _, put_same _ _ _, .inl rfl⟩
    · obtain ⟨b1, x, y, b2, b3⟩ := hr.fam i _ _ c3
      have hne := c5 cs f rfl
      exact ⟨by omega, x, y, by rw [put_other _ _ hne, a6 f hne]; exact b2, b3⟩
  · have := minN_le (h.alone id fam).low id
    simp only [H.forked]
    omega
  · intro j x r hx hr'
    rcases hget j x hx with ⟨rfl, rfl⟩ | ⟨rfl, rfl⟩ | ⟨c1, c2, c3, c4, _⟩
    · rw [up_same] at hr'; cases hr'
      rcases hq with hq | hq
      · exact .inr ⟨id, _, p, ho, hp, hq.symm, fun _ cs e => by cases e⟩
      · exact .inl hq
    · exact .inr ⟨j, _, r, ho, hup j (by omega) r hr', rfl, fun _ cs e => by cases e⟩
    · exact .inr ⟨j, x, r, c3, hup j c2 r hr', rfl, fun h => h⟩
  · intro b hb hn
    exact hw b hb fun e => hn id _ p ho (fun cs e => by cases e) hp e.symm
  · exact Nat.le_trans (minN_le _ _).1 a7
  · intro j hj hjn
    simp only [H.forked] at hj ⊢
    have := minN_le (h.alone id fam).low id
    rw [put_other _ _ (by omega), put_other _ _ (by omega)]
    exact a8 j (by omega)
  · intro j hj hn
    simp only [up]; rw [if_neg (by omega)]; exact hn
  · intro j cs f hj
    rcases hget j _ hj with ⟨rfl, hx⟩ | ⟨rfl, hx⟩ | ⟨c1, c2, c3, c4, c5⟩
    · cases hx; exact .inr ⟨id, bs, ho⟩
    · cases hx; exact .inr ⟨j, bs, ho⟩
    · exact .inr ⟨j, cs, c3⟩

/-- The result of one operation that yields a value. -/
def Yields (P : Program) (σ : Sg) (h h' : H) (w : World) (r : AV) (s : Sem Value) : Prop :=
  ∃ σ' z w', s.run P w = .ok z w' ∧ V σ' r z ∧ HR σ' h' w' ∧ Ext σ σ' h h' w w'

theorem newCells_eq (h : H) (cs : List AV) : h.newCells cs = (h.next, { h.lay h.next (.cells cs h.next) with next := h.next + 1 }) := rfl

/-- A new row, at the next number, and the slice over it. -/
theorem HR.new_row {σ : Sg} {h : H} {w w1 : World} (hr : HR σ h w) {as : List AV} {vs : List Value} {c : Array Value} {e : TypeId} (hv : VL σ as vs) (hc : c.toList.take vs.length = vs)
    (e1 : w1.os = w.os) (e2 : w1.tape = w.tape) (e3 : w1.output = w.output) :
    HR (up σ h.next ⟨w.heap.size, 0, c.size⟩) { h.lay h.next (.cells as h.next) with next := h.next + 1 } { w1 with heap := w.heap.push (.cells c e (0, 0)) } ∧
    Ext σ (up σ h.next ⟨w.heap.size, 0, c.size⟩) h { h.lay h.next (.cells as h.next) with next := h.next + 1 } w { w1 with heap := w.heap.push (.cells c e (0, 0)) } :=
  hr.new (fun cs f hf => by cases hf; rfl) (OR_row (hv.mono (up_le (hr.fresh _ (Nat.le_refl _)))) hc) rfl e1 e2 e3

theorem appendA_run {P : Program} {σ : Sg} {h h' : H} {w : World} (hr : HR σ h w) {ats : Array TypeId} {T st xt : TypeId} {args : Array Value} {x y r : AV} {v u : Value} (ha : appendA P h st xt x y = some (r, h'))
    (h0 : ats[0]? = some st) (h1 : ats[1]? = some xt) (h2 : args[0]? = some v) (h3 : args[1]? = some u) (hv : V σ x v) (hu : V σ y u) : Yields P σ h h' w r (Builtin.append_ ats T args) := by
  unfold appendA at ha
  split at ha
  · rename_i e o len es cap hst
    cases hi : P.info? e with
    | none => simp [hi] at ha
    | some i =>
      cases hz : zeroA P e with
      | none => simp [hi, hz] at ha
      | some z =>
        simp only [hi, hz, Option.bind_some] at ha
        obtain ⟨hc, ha2⟩ := cond_some ha
        clear ha
        simp only [Bool.and_eq_true] at hc
        obtain ⟨q1, q2, q3, q4⟩ := hc
        have q1 := beqN q1; have q3 := bleN q3; have q4 := bleN q4
        have q2 : i.size ≠ 0 := by intro e0; rw [e0] at q2; simp at q2
        cases hap : appendedA P h e i.size xt y with
        | none => simp [hap] at ha2
        | some nc =>
          obtain ⟨n, cs⟩ := nc
          simp only [hap, Option.bind_some] at ha2
          obtain ⟨vs, v1, v2, v3⟩ := appendedA_run hr q2 hap hu
          obtain ⟨zv, _, hzV, iz, hiz, hizz⟩ := run_zero' (w := w) (σ := σ) hz
          have hzr : ∀ w', (zeroValue e).run P w' = .ok zv w' := fun w' => by simp [zeroValue, run_typeInfo' hiz, hizz]
          have hzs : zv.cells.size = i.size := by have := hzV.cells.1; simp at this; omega
          have hvl := v1.1
          cases hn0 : Nat.beq n 0
          · rw [hn0, cond_ff] at ha2
            have hn0 := beqN_ne hn0
            obtain ⟨hn6, ha3⟩ := cond_some ha2
            clear ha2
            have hn6 := bleN hn6
            have grow : ∀ (base : Option Addr) (c : Nat) (old : List AV) (olds : List Value) (fam : Nat), v = .slice base len c → c < len + n → VL σ old olds → (∀ w', w'.heap = w.heap → (Builtin.firstCells i.size len (.slice base len c)).run P w' = .ok olds.toArray w') → old.length = len * i.size →
                ∃ (nc : Nat) (w1 : World) (rest : Array Value), len + n ≤ nc ∧ w1.heap = w.heap ∧ w1.os = w.os ∧ w1.tape = w.tape ∧ w1.output = w.output ∧
                  (Builtin.append_ ats T args).run P w = .ok (.slice (some ⟨w.heap.size, 0, none⟩) (len + n) nc) { w1 with heap := w.heap.push (.cells (olds.toArray ++ vs.toArray ++ rest) e (0, 0)) } ∧
                  (olds.toArray ++ vs.toArray ++ rest).size = nc * i.size ∧ ((olds.toArray ++ vs.toArray ++ rest).toList.take (olds ++ vs).length = olds ++ vs) ∧ fam = fam := by
              intro base c old olds fam hv0 hlt hvo hold hol
              subst hv0
              obtain ⟨nc, w1, rest, g1, g2, g3, g4, g5, g6, g7⟩ := append_grow (T := T) h0 h1 h2 h3 hst hi rfl q4 (fun w' hw' => v3 w' hw') hn6 q3 hlt hzr hold
              refine ⟨nc, w1, rest, g1, g2, g3, g4, g5, g6, ?_, ?_, rfl⟩
              · have := hvo.1
                simp only [Array.size_append, List.size_toArray, g7, hzs]
                have e1 : olds.length = len * i.size := by omega
                have e2 : vs.length = n * i.size := by omega
                rw [e1, e2, ← Nat.add_mul, ← Nat.add_mul]
                congr 1; omega
              · simp only [Array.toList_append]
                rw [List.take_left']
                simp
            split at ha3
            · simp only [newCells_eq, Option.some.injEq, Prod.mk.injEq] at ha3
              obtain ⟨rfl, rfl⟩ := ha3
              cases hv with
              | sliceN hl0 =>
                subst hl0
                obtain ⟨nc, w1, rest, g1, g2, g3, g4, g5, g6, g7, g8, _⟩ := grow none 0 [] [] 0 rfl (by omega) .nil (fun w' _ => by simp [Builtin.firstCells]) (by simp)
                obtain ⟨k1, k2⟩ := hr.new_row (w1 := w1) (e := e) (VL.append .nil v1) g8 g3 g4 g5
                refine ⟨_, _, _, g6, ?_, k1, k2⟩
                rw [Nat.zero_add] at g1 ⊢
                exact .slice (up_same _ _ _) g1 (by simp only [g7]; omega) (fun x hx => by cases hx) (.inl rfl)
            · rename_i id off
              obtain ⟨hes, ha4⟩ := cond_some ha3
              clear ha3
              have hes := beqN hes
              subst hes
              cases hv with
              | @slice _ _ _ _ _ a p c hp hl hroom hcap haddr =>
                split at ha4
                · rename_i c0
                  have := hcap c0 rfl; subst this
                  cases hle : Nat.ble (len + n) c0
                  · rw [hle, cond_ff] at ha4
                    have hlt := bleN_ne hle
                    cases hsc : sliceCells h (some (id, off)) len i.size with
                    | none => simp [hsc] at ha4
                    | some old =>
                      simp only [hsc, Option.map_some, newCells_eq, Option.some.injEq, Prod.mk.injEq] at ha4
                      obtain ⟨rfl, rfl⟩ := ha4
                      obtain ⟨olds, o1, o2, o3⟩ := sliceCells_run (P := P) (cap := some c0) (v := .slice (some a) len c0) hr hsc (.inl rfl) (Nat.le_refl _) (.slice hp hl hroom hcap haddr)
                      obtain ⟨nc, w1, rest, g1, g2, g3, g4, g5, g6, g7, g8, _⟩ := grow (some a) c0 old olds 0 rfl hlt o1 o3 o2
                      obtain ⟨k1, k2⟩ := hr.new_row (w1 := w1) (e := e) (VL.append o1 v1) g8 g3 g4 g5
                      refine ⟨_, _, _, g6, ?_, k1, k2⟩
                      exact .slice (up_same _ _ _) g1 (by simp only [g7]; omega) (fun x hx => by cases hx) (.inl rfl)
                  · rw [hle, cond_tt] at ha4
                    have hle := bleN hle
                    cases hst2 : h.store id (off + len * i.size) cs with
                    | none => simp [hst2] at ha4
                    | some h9 =>
                      simp only [hst2, Option.map_some, Option.some.injEq, Prod.mk.injEq] at ha4
                      obtain ⟨rfl, rfl⟩ := ha4
                      have haddr := haddr.resolve_right (by omega)
                      subst haddr
                      obtain ⟨w', s1, s2, s3⟩ := hr.store_run (P := P) hst2 hp v1
                      refine ⟨σ, .slice (some ⟨p.b, p.d + off, none⟩) (len + n) c0, w', ?_, .slice hp hle hroom hcap (.inl rfl), s2, s3⟩
                      rw [append_in_place h0 h1 h2 h3 hst hi rfl q4 (v3 w rfl) hn6 hle]
                      simp only [add_addr]
                      rw [Nat.add_assoc, s1]
                      rfl
                · split at ha4
                  · rename_i bs fam ho
                    obtain ⟨hlb, ha5⟩ := cond_some ha4
                    clear ha4
                    have hlb := bleN hlb
                    obtain ⟨hone, ha6⟩ := cond_some ha5
                    clear ha5
                    simp only [Option.some.injEq, Prod.mk.injEq] at ha6
                    obtain ⟨rfl, rfl⟩ := ha6
                    obtain ⟨_, _, _, a4, _⟩ := alone_facts hr ho
                    obtain ⟨q', carr, e', hq', b1, b2, b3, b4⟩ := hr.cells ho
                    rw [hp] at hq'; cases hq'
                    have hsc : h.chunk id off (len * i.size) = some ((bs.drop off).take (len * i.size)) := by
                      simp [H.chunk, ho, Nble hlb]
                    obtain ⟨olds, o1, o2, o3⟩ := hr.chunk hsc hp
                    by_cases hin : len + n ≤ c
                    · have haddr := haddr.resolve_right (by omega)
                      subst haddr
                      have hmul : (len + n) * i.size ≤ c * i.size := Nat.mul_le_mul_right _ hin
                      have hmul2 : (len + n) * i.size = len * i.size + n * i.size := Nat.add_mul _ _ _
                      obtain ⟨w', c', hrun, hw', hsz, hget, hoth, s1, s2, s3, s4⟩ := run_storeCells (P := P) (o := p.d + off + len * i.size) vs 0 w carr b1 (by omega) (v1.oneC hone)
                      have hcl : ∀ j : Nat, j < off + len * i.size → c'[p.d + j]? = carr[p.d + j]? := by
                        intro j hj; rw [hget, if_neg (by omega)]
                      obtain ⟨k1, k2⟩ := hr.fork (w' := w') (k := off + len * i.size) (cs' := (bs.drop off).take (len * i.size) ++ cs) (q := ⟨p.b, p.d + off, p.r - off⟩) ho hp (.inl rfl)
                        (by
                          refine ⟨c', e', hw', by rw [hsz]; exact b2, by simp; omega, ?_⟩
                          intro j aj haj
                          rw [List.getElem?_take] at haj
                          split at haj
                          · rename_i hj
                            obtain ⟨vj, e1, e2⟩ := b4 j aj haj
                            exact ⟨vj, by rw [hcl j hj]; exact e1, e2⟩
                          · cases haj)
                        (by
                          refine ⟨c', e', hw', by rw [hsz]; simp only; omega, by simp only [List.length_append, o2, v2]; omega, ?_⟩
                          intro j aj haj
                          rw [List.getElem?_append, o2] at haj
                          have hle' := up_le (p := ⟨p.b, p.d + off, p.r - off⟩) (hr.fresh h.next (Nat.le_refl _))
                          split at haj
                          · rename_i hj
                            rw [List.getElem?_take, if_pos hj, List.getElem?_drop] at haj
                            obtain ⟨vj, e1, e2⟩ := b4 _ aj haj
                            exact ⟨vj, by simp only; rw [show p.d + off + j = p.d + (off + j) by omega, hcl _ (by omega)]; exact e1, e2.mono hle'⟩
                          · rename_i hj
                            obtain ⟨vj, e1, e2⟩ := v1.get haj
                            have hjl := lt_of_some e1
                            refine ⟨vj, ?_, e2.mono hle'⟩
                            simp only
                            rw [hget, if_pos (by omega), show p.d + off + j - (p.d + off + len * i.size + 0) = j - len * i.size by omega]
                            exact e1)
                        (fun b _ hb => hoth b hb) (by omega) s2 s3 s4
                      refine ⟨_, .slice (some ⟨p.b, p.d + off, none⟩) (len + n) c, w', ?_, ?_, k1, k2⟩
                      · rw [append_in_place h0 h1 h2 h3 hst hi rfl q4 (v3 w rfl) hn6 hin]
                        simp only [add_addr]
                        rw [hrun]
                        rfl
                      · rw [a4]
                        exact .slice (up_same _ _ _) hin (by simp only; omega) (fun x hx => by cases hx) (.inl (by simp))
                    · have hlt : c < len + n := by omega
                      have hfc : ∀ w', w'.heap = w.heap → (Builtin.firstCells i.size len (.slice (some a) len c)).run P w' = .ok olds.toArray w' := by
                        intro w' hww
                        by_cases hl0 : len = 0
                        · subst hl0
                          have : olds = [] := by
                            have := o1.1; rw [o2] at this; simp at this; exact List.eq_nil_of_length_eq_zero this.symm
                          subst this
                          simp [Builtin.firstCells, loadCells, loadCellsFrom]
                        · have haddr := haddr.resolve_right (by omega)
                          subst haddr
                          have el : len * i.size = olds.length := by rw [← o1.1]; exact o2.symm
                          simp only [Builtin.firstCells]
                          rw [el]
                          exact run_loadChunk fun j vj hj => by rw [← o3 j vj hj]; simp [World.cell?, hww]
                      obtain ⟨nc, w1, rest, g1, g2, g3, g4, g5, g6, g7, g8, _⟩ := grow (some a) c _ olds 0 rfl hlt o1 hfc o2
                      have hor := OR_row (id := fam) (b := w.heap.size) (e := e) (VL.append (o1.mono (up_le (p := ⟨w.heap.size, 0, (olds.toArray ++ vs.toArray ++ rest).size⟩) (hr.fresh h.next (Nat.le_refl _)))) (v1.mono (up_le (hr.fresh h.next (Nat.le_refl _))))) g8
                      have hltp := hr.lt ho hp
                      obtain ⟨k1, k2⟩ := hr.fork (w' := { w1 with heap := w.heap.push (.cells (olds.toArray ++ vs.toArray ++ rest) e (0, 0)) }) (k := off + len * i.size) (q := ⟨w.heap.size, 0, (olds.toArray ++ vs.toArray ++ rest).size⟩) ho hp (.inr (Nat.le_refl _))
                        (by
                          simp only [Array.getElem?_push]
                          rw [if_neg (by omega), b1]
                          refine ⟨carr, e', rfl, b2, by simp; omega, ?_⟩
                          intro j aj haj
                          rw [List.getElem?_take] at haj
                          split at haj
                          · exact b4 j aj haj
                          · cases haj)
                        (by simpa using hor)
                        (fun b hb _ => by simp only [Array.getElem?_push]; rw [if_neg (by omega)]) (by simp) g3 g4 g5
                      refine ⟨_, _, _, g6, ?_, k1, k2⟩
                      rw [a4]
                      exact .slice (up_same _ _ _) g1 (by simp only [g7]; omega) (fun x hx => by cases hx) (.inl rfl)
                  · simp at ha4
          · rw [hn0, cond_tt] at ha2
            have := beqN hn0; subst this
            simp only [Option.some.injEq, Prod.mk.injEq] at ha2
            obtain ⟨rfl, rfl⟩ := ha2
            have hvs : vs = [] := by
              rw [v2] at hvl; simp at hvl; exact List.eq_nil_of_length_eq_zero hvl.symm
            subst hvs
            refine ⟨σ, v, w, ?_, hv, hr, .refl _ _ _⟩
            cases hv with
            | sliceN hl0 =>
              subst hl0
              rw [append_in_place h0 h1 h2 h3 hst hi rfl q4 (v3 w rfl) (by omega) (by omega)]
            | slice hp hl hroom hcap haddr =>
              rw [append_in_place h0 h1 h2 h3 hst hi rfl q4 (v3 w rfl) (by omega) (by omega)]
              simp [storeCells]
  · simp at ha

end Go.Ev

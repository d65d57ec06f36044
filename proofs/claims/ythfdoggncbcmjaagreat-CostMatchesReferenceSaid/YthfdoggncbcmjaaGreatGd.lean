/- Several ways out that lead to the same: sound. No conditions beyond those that each theorem states. -/
import Derived.Test.YthfdoggncbcmjaaGreatGc
import Derived.OrdersIn

set_option linter.unusedSimpArgs false
set_option linter.unusedVariables false
set_option linter.unusedSectionVars false

namespace Go.Ev

theorem V.back {σ σ' : Sg} (hle : ∀ id p, σ id = some p → σ' id = some p) {a : AV} {v0 v : Value} (h0 : V σ a v0) (h : V σ' a v) : V σ a v := by
  induction h0 generalizing v with
  | bool b => cases h; exact .bool _
  | int k n => cases h; exact .int _ _
  | str e => cases h with | str e' => exact .str e'
  | ptrN => cases h; exact .ptrN
  | ptr e => cases h with | ptr e' => have := hle _ _ e; rw [this] at e'; cases e'; exact .ptr e
  | sliceN hl => cases h; exact .sliceN hl
  | slice e hl hr hc ha => cases h with | slice e' hl' hr' hc' ha' => have := hle _ _ e; rw [this] at e'; cases e'; exact .slice e hl' hr' hc' ha'
  | mapN => cases h; exact .mapN
  | map e => cases h with | map e' => have := hle _ _ e; rw [this] at e'; cases e'; exact .map e
  | @fn f fs cs fs0 cs0 hf h1 h2 h3 h4 ih2 ih4 =>
    cases h with
    | @fn _ _ _ fs' cs' hf' g1 g2 g3 g4 =>
      refine .fn hf g1 (fun i x y hx hy => ?_) g3 (fun i x y hx hy => ?_)
      · have hi : i < fs0.size := by
          obtain ⟨h, _⟩ := List.getElem?_eq_some_iff.1 hx; omega
        exact ih2 i x _ hx (Array.getElem?_eq_getElem hi) (g2 i x y hx hy)
      · have hi : i < cs0.size := by
          obtain ⟨h, _⟩ := List.getElem?_eq_some_iff.1 hx; omega
        exact ih4 i x _ hx (Array.getElem?_eq_getElem hi) (g4 i x y hx hy)
    | yield e => exact absurd rfl (hf _)
  | yield e =>
    cases h with
    | fn hf => exact absurd rfl (hf _)
    | yield e' => have := hle _ _ e; rw [this] at e'; cases e'; exact .yield e
  | nilFn => cases h; exact .nilFn
  | iface e ih => cases h with | iface e' => exact .iface (ih e')
  | nilI => cases h; exact .nilI
  | @agg cs vs h1 h2 ih =>
    cases h with
    | agg g1 g2 =>
      refine .agg g1 (fun i x y hx hy => ?_)
      have hi : i < vs.size := by
        obtain ⟨h, _⟩ := List.getElem?_eq_some_iff.1 hx; omega
      exact ih i x _ hx (Array.getElem?_eq_getElem hi) (g2 i x y hx hy)
  | @tup cs vs h1 h2 ih =>
    cases h with
    | tup g1 g2 =>
      refine .tup g1 (fun i x y hx hy => ?_)
      have hi : i < vs.size := by
        obtain ⟨h, _⟩ := List.getElem?_eq_some_iff.1 hx; omega
      exact ih i x _ hx (Array.getElem?_eq_getElem hi) (g2 i x y hx hy)

theorem TR.back {σ σ' : Sg} (hle : ∀ id p, σ id = some p → σ' id = some p) {t : Tr AV} {n : Nat} {b0 b : Array Value} (h0 : TR σ t n b0) (h : TR σ' t n b) : TR σ t n b :=
  ⟨h.1, fun i => (h0.2 i).back hle (h.2 i)⟩

theorem OR.back {σ σ' : Sg} (hle : ∀ id p, σ id = Option.some p → σ' id = Option.some p) {o : AO} {p : Plc} {b0 b : Option Obj} (h0 : OR σ o p b0) (h : OR σ' o p b) : OR σ o p b := by
  cases o with
  | cells cs f =>
    obtain ⟨c0, e0, _, _, _, k0⟩ := h0
    obtain ⟨c, e, h1, h2, h3, h4⟩ := h
    refine ⟨c, e, h1, h2, h3, fun i a ha => ?_⟩
    obtain ⟨v, hv, hV⟩ := h4 i a ha
    obtain ⟨v0, _, hV0⟩ := k0 i a ha
    exact ⟨v, hv, hV0.back hle hV⟩
  | ro cs =>
    obtain ⟨c0, e0, _, _, _, _, k0⟩ := h0
    obtain ⟨c, e, f, h1, h2, h3, h4⟩ := h
    refine ⟨c, e, f, h1, h2, h3, fun i a ha => ?_⟩
    obtain ⟨v, hv, hV⟩ := h4 i a ha
    obtain ⟨v0, _, hV0⟩ := k0 i a ha
    exact ⟨v, hv, hV0.back hle hV⟩
  | map es ck =>
    obtain ⟨es0, _, n0, k0⟩ := h0
    obtain ⟨es', h1, h2, h3⟩ := h
    refine ⟨es', h1, h2, fun i e m he hm => ?_⟩
    have hi : i < es0.size := by
      obtain ⟨h, _⟩ := List.getElem?_eq_some_iff.1 he; omega
    obtain ⟨a0, b0, _⟩ := k0 i e _ he (Array.getElem?_eq_getElem hi)
    obtain ⟨a, b, c⟩ := h3 i e m he hm
    exact ⟨a0.back hle a, b0.back hle b, c⟩
  | siter s pos => exact h
  | miter m since seen st =>
    obtain ⟨m0, _, _, k0⟩ := h0
    obtain ⟨m', h1, h2, h3⟩ := h
    refine ⟨m', h1, h2, ?_⟩
    cases m with
    | none => exact h3
    | some id =>
      obtain ⟨q0, e0, _⟩ := k0
      obtain ⟨q, hq, hm⟩ := h3
      have := hle _ _ e0; rw [this] at hq; cases hq
      exact ⟨_, e0, hm⟩
  | loop st pend t n ps a bd d =>
    obtain ⟨f0, t0, q0, _, e0, r0⟩ := h0
    obtain ⟨f, t', q, h1, h2, h3⟩ := h
    have := hle _ _ e0; rw [this] at h2; cases h2
    exact ⟨f, t', _, h1, e0, r0.back hle h3⟩
  | dfr tk => exact h

theorem plain_V : ∀ (n : Nat) (a : AV), plainA n a = true → ∀ (σ τ : Sg) (v : Value), V σ a v → V τ a v := by
  intro n
  induction n with
  | zero => intro a h; simp [plainA] at h
  | succ n ih =>
    intro a h σ τ v hv
    unfold plainA at h
    split at h
    · cases hv; exact .bool _
    · cases hv; exact .int _ _
    · cases hv with | str e => exact .str e
    · cases hv; exact .ptrN
    · cases hv with | sliceN e => exact .sliceN e
    · cases hv; exact .mapN
    · cases hv; exact .nilFn
    · cases hv; exact .nilI
    · obtain ⟨vs, rfl, hl⟩ := hv.of_agg
      exact .mk_agg' ⟨hl.1, fun i x y hx hy => ih x (List.all_eq_true.1 h x (List.mem_of_getElem? hx)) σ τ y (hl.2 i x y hx hy)⟩
    · obtain ⟨vs, rfl, hl⟩ := hv.of_tup
      exact .mk_tup' ⟨hl.1, fun i x y hx hy => ih x (List.all_eq_true.1 h x (List.mem_of_getElem? hx)) σ τ y (hl.2 i x y hx hy)⟩
    · cases hv with
      | iface e => exact .iface (ih _ h σ τ _ e)
    · simp at h

theorem plain_VL {n : Nat} {as : List AV} (h : as.all (plainA n) = true) {σ τ : Sg} {vs : List Value} (hl : VL σ as vs) : VL τ as vs :=
  ⟨hl.1, fun i x y hx hy => plain_V n x (List.all_eq_true.1 h x (List.mem_of_getElem? hx)) σ τ y (hl.2 i x y hx hy)⟩

/-- The places of the rows that are kept. -/
inductive Rows (σ' : Sg) (h' : H) (w' : World) (lo : Nat) : List Nat → List (List AV) → List Plc → Prop
  | nil : Rows σ' h' w' lo [] [] []
  | snoc {used : List Nat} {acc : List (List AV)} {pl : List Plc} (h : Rows σ' h' w' lo used acc pl) {id off fam n : Nat} {cs : List AV} {q : Plc}
      (hid : lo ≤ id) (hfam : lo ≤ fam) (hu : fam ∉ used) (ho : h'.objs.get id = some (.cells cs fam)) (hq : σ' id = some q) (hn : off + n ≤ cs.length)
      (hp : ((cs.drop off).take n).all (plainA 4) = true) : Rows σ' h' w' lo (fam :: used) (acc ++ [(cs.drop off).take n]) (pl ++ [⟨q.b, q.d + off, q.r - off⟩])

theorem Rows.len {σ' : Sg} {h' : H} {w' : World} {lo : Nat} {used : List Nat} {acc : List (List AV)} {pl : List Plc} (h : Rows σ' h' w' lo used acc pl) : acc.length = pl.length := by
  induction h with
  | nil => rfl
  | snoc h _ _ _ _ _ _ _ ih => simp [ih]

/-- What is known of the row at an index. -/
theorem Rows.at {σ' : Sg} {h' : H} {w' : World} (hr : HR σ' h' w') {lo : Nat} {used : List Nat} {acc : List (List AV)} {pl : List Plc} (h : Rows σ' h' w' lo used acc pl) :
    ∀ (i : Nat) (p : Plc) (cs : List AV), pl[i]? = some p → acc[i]? = some cs → ∃ id fam bs q, fam ∈ used ∧ lo ≤ id ∧ lo ≤ fam ∧ h'.objs.get id = some (.cells bs fam) ∧ σ' id = some q ∧ p.b = q.b ∧ ∀ (τ : Sg) (f : Nat), OR τ (.cells cs f) p w'.heap[p.b]? := by
  induction h with
  | nil => intro i p cs h; simp at h
  | @snoc used acc pl h id off fam n bs q hid hfam hu ho hq hn hp ih =>
    intro i p cs hpi hci
    have hl := h.len
    rw [List.getElem?_append] at hpi hci
    by_cases hi : i < pl.length
    · rw [if_pos hi] at hpi; rw [if_pos (by omega)] at hci
      obtain ⟨id', fam', bs', q', k0, k⟩ := ih i p cs hpi hci
      exact ⟨id', fam', bs', q', List.mem_cons_of_mem _ k0, k⟩
    · rw [if_neg hi] at hpi; rw [if_neg (by omega), hl] at hci
      have hz : i - pl.length = 0 := by
        rcases Nat.eq_zero_or_pos (i - pl.length) with e | e
        · exact e
        · rw [List.getElem?_eq_none (by simp; omega)] at hpi; simp at hpi
      rw [hz] at hpi hci
      simp only [List.getElem?_cons_zero, Option.some.injEq] at hpi hci
      subst hpi; subst hci
      refine ⟨id, fam, bs, q, List.mem_cons_self .., hid, hfam, ho, hq, rfl, fun τ f => ?_⟩
      obtain ⟨q', c, e, hq', h1, h2, h3, h4⟩ := hr.cells ho
      rw [hq] at hq'; cases hq'
      refine ⟨c, e, h1, by simp only; omega, by simp only [List.length_take, List.length_drop]; omega, ?_⟩
      intro j a ha
      rw [List.getElem?_take] at ha
      split at ha
      · rename_i hj
        rw [List.getElem?_drop] at ha
        obtain ⟨v, hv, hV⟩ := h4 _ _ ha
        refine ⟨v, by simp only; rw [Nat.add_assoc]; exact hv, ?_⟩
        refine plain_V 4 a (List.all_eq_true.1 hp a ?_) _ _ _ hV
        exact List.mem_of_getElem? (i := j) (by rw [List.getElem?_take, if_pos hj, List.getElem?_drop]; exact ha)
      · simp at ha

/-- Two rows lie in two blocks. -/
theorem Rows.sep {σ' : Sg} {h' : H} {w' : World} (hr : HR σ' h' w') {lo : Nat} {used : List Nat} {acc : List (List AV)} {pl : List Plc} (h : Rows σ' h' w' lo used acc pl) :
    ∀ (i j : Nat) (p q : Plc), i < j → pl[i]? = some p → pl[j]? = some q → p.b ≠ q.b := by
  induction h with
  | nil => intro i j p q _ h; simp at h
  | @snoc used acc pl h id off fam n bs qq hid hfam hu ho hq hn hp ih =>
    intro i j p q hij hpi hqj
    have hl := h.len
    rw [List.getElem?_append] at hpi hqj
    by_cases hj : j < pl.length
    · rw [if_pos (by omega)] at hpi; rw [if_pos hj] at hqj; exact ih i j p q hij hpi hqj
    · rw [if_neg hj] at hqj
      have hz : j - pl.length = 0 := by
        rcases Nat.eq_zero_or_pos (j - pl.length) with e | e
        · exact e
        · rw [List.getElem?_eq_none (by simp; omega)] at hqj; simp at hqj
      rw [hz] at hqj
      simp only [List.getElem?_cons_zero, Option.some.injEq] at hqj
      subst hqj
      rw [if_pos (by omega)] at hpi
      have hci : acc[i]? = some (acc[i]'(by omega)) := List.getElem?_eq_getElem _
      obtain ⟨id', fam', bs', q', k0, k1, k2, k3, k4, k5, _⟩ := h.at hr i p _ hpi hci
      intro e
      by_cases hii : id' = id
      · subst hii; rw [k3] at ho; cases ho; exact hu k0
      · obtain ⟨cs', e1⟩ := (hr.sep id' id _ _ _ _ hii k3 ho k4 hq (by simp only at e; omega)).left
        cases e1; exact hu k0

theorem layAll_low : ∀ (l : List (List AV)) (h : H), (layAll l h).low = h.low
  | [], h => rfl
  | cs :: l, h => by rw [layAll, layAll_low l]; exact lay_low _ _ _

theorem layAll_next : ∀ (l : List (List AV)) (h : H), (layAll l h).next = h.next + l.length
  | [], h => rfl
  | cs :: l, h => by rw [layAll, layAll_next l]; simp only [List.length_cons]; omega

theorem layAll_get : ∀ (l : List (List AV)) (h : H) (j : Nat), (layAll l h).objs.get j = if h.next ≤ j ∧ j < h.next + l.length then (l[j - h.next]?).map fun cs => .cells cs j else h.objs.get j
  | [], h, j => by rw [layAll, if_neg (by simp only [List.length_nil]; omega)]
  | cs :: l, h, j => by
    rw [layAll, layAll_get l _ j]
    simp only [List.length_cons]
    by_cases h1 : h.next + 1 ≤ j ∧ j < h.next + 1 + l.length
    · rw [if_pos h1, if_pos (by omega), show j - h.next = (j - (h.next + 1)) + 1 by omega, List.getElem?_cons_succ]
    · rw [if_neg h1]
      rw [show ({ h.lay h.next (.cells cs h.next) with next := h.next + 1 } : H).objs = (h.lay h.next (.cells cs h.next)).objs from rfl, lay_get]
      by_cases h2 : j = h.next
      · subst h2; rw [if_pos rfl, if_pos (by omega)]; simp
      · rw [if_neg h2, if_neg (by omega)]

theorem layAll_fam : ∀ (l : List (List AV)) (h : H) (j : Nat), (layAll l h).fams.get j = if h.next ≤ j ∧ j < h.next + l.length then some (j, j) else h.fams.get j
  | [], h, j => by rw [layAll, if_neg (by simp only [List.length_nil]; omega)]
  | cs :: l, h, j => by
    rw [layAll, layAll_fam l _ j]
    simp only [List.length_cons]
    by_cases h1 : h.next + 1 ≤ j ∧ j < h.next + 1 + l.length
    · rw [if_pos h1, if_pos (by omega)]
    · rw [if_neg h1]
      simp only [H.lay]
      rw [put_get]
      by_cases h2 : j = h.next
      · subst h2; rw [if_pos rfl, if_pos (by omega)]
      · rw [if_neg h2, if_neg (by omega)]

/-- What is held after the merging. -/
def keep (σ : Sg) (lo : Nat) (pl : List Plc) : Sg := fun j => if j < lo then σ j else pl[j - lo]?

theorem compact_HR {σ σ' : Sg} {h0 h' : H} {w w' : World} (hr0 : HR σ h0 w) (hr : HR σ' h' w') (hE : Ext σ σ' { h0 with low := h0.next } h' w w') (hlow : h'.low = h0.next)
    {used : List Nat} {acc : List (List AV)} {pl : List Plc} (hR : Rows σ' h' w' h0.next used acc pl) :
    HR (keep σ h0.next pl) (layAll acc h0) w' ∧ Ext σ (keep σ h0.next pl) h0 (layAll acc h0) w w' := by
  have hl := hR.len
  have hle : ∀ id p, σ id = some p → keep σ h0.next pl id = some p := by
    intro id p hp
    have : id < h0.next := by
      rcases Nat.lt_or_ge id h0.next with h | h
      · exact h
      · rw [hr0.fresh id h] at hp; cases hp
    unfold keep; rw [if_pos this]; exact hp
  have hold : ∀ id o, id < h0.next → h0.objs.get id = some o → h'.objs.get id = some o := by
    intro id o hi ho
    have := hE.same id (by rw [hlow]; exact hi) hi
    rw [this]; exact ho
  have hsplit : ∀ j o p, (layAll acc h0).objs.get j = some o → keep σ h0.next pl j = some p → (j < h0.next ∧ h0.objs.get j = some o ∧ σ j = some p) ∨ (h0.next ≤ j ∧ ∃ cs, acc[j - h0.next]? = some cs ∧ o = .cells cs j ∧ pl[j - h0.next]? = some p) := by
    intro j o p ho hp
    rw [layAll_get] at ho
    unfold keep at hp
    by_cases hj : j < h0.next
    · rw [if_neg (by omega)] at ho; rw [if_pos hj] at hp; exact .inl ⟨hj, ho, hp⟩
    · rw [if_neg hj] at hp
      by_cases hj2 : j < h0.next + acc.length
      · rw [if_pos (by omega)] at ho
        obtain ⟨cs, h1, h2⟩ := map_some' ho
        exact .inr ⟨by omega, cs, h1, h2.symm, hp⟩
      · rw [if_neg (by omega)] at ho
        have := hr0.ltN ho; omega
  refine ⟨⟨?_, ?_, ?_, ?_, ?_⟩, ⟨hle, by rw [layAll_next]; omega, hE.size, hE.os, hE.tape, hE.output, ?_, ?_, by rw [layAll_low]; omega, ?_, ?_, ?_⟩⟩
  · intro j o ho
    have ho' := ho
    rw [layAll_get] at ho
    by_cases hj : h0.next ≤ j ∧ j < h0.next + acc.length
    · rw [if_pos hj] at ho
      obtain ⟨cs, h1, h2⟩ := map_some' ho
      subst h2
      have hlt : j - h0.next < pl.length := by omega
      refine ⟨pl[j - h0.next], by unfold keep; rw [if_neg (by omega)]; exact List.getElem?_eq_getElem hlt, ?_⟩
      obtain ⟨_, _, _, _, _, _, _, _, _, _, k⟩ := hR.at hr _ _ _ (List.getElem?_eq_getElem hlt) h1
      exact k _ _
    · rw [if_neg hj] at ho
      have hjn := hr0.ltN ho
      obtain ⟨p, hp, hor⟩ := hr0.obj j o ho
      obtain ⟨p', hp', hor'⟩ := hr.obj j o (hold j o hjn ho)
      have := hE.le j p hp
      rw [this] at hp'; cases hp'
      exact ⟨p, hle j p hp, (hor.back hE.le hor').mono hle⟩
  · intro j hj
    rw [layAll_next] at hj
    unfold keep
    rw [if_neg (by omega), List.getElem?_eq_none (by omega)]
  · intro i j x y p q hij hx hy hp hq hb
    rcases hsplit i x p hx hp with ⟨a1, a2, a3⟩ | ⟨a1, cs, a2, a3, a4⟩ <;> rcases hsplit j y q hy hq with ⟨b1, b2, b3⟩ | ⟨b1, ds, b2, b3, b4⟩
    · exact hr.sep i j x y p q hij (hold _ _ a1 a2) (hold _ _ b1 b2) (hE.le _ _ a3) (hE.le _ _ b3) hb
    · exfalso
      obtain ⟨id', fam', bs', q', k0, k1, k2, k3, k4, k5, _⟩ := hR.at hr _ _ _ b4 b2
      obtain ⟨u, e1⟩ := (hr.sep i id' _ _ _ _ (by omega) (hold _ _ a1 a2) k3 (hE.le _ _ a3) k4 (by omega)).left
      subst e1
      have := (hr0.fam i _ _ a2).1
      omega
    · exfalso
      obtain ⟨id', fam', bs', q', k0, k1, k2, k3, k4, k5, _⟩ := hR.at hr _ _ _ a4 a2
      obtain ⟨u, e1⟩ := (hr.sep j id' _ _ _ _ (by omega) (hold _ _ b1 b2) k3 (hE.le _ _ b3) k4 (by omega)).left
      subst e1
      have := (hr0.fam j _ _ b2).1
      omega
    · exfalso
      rcases Nat.lt_or_gt_of_ne hij with h | h
      · exact hR.sep hr _ _ _ _ (by omega) a4 b4 hb
      · exact hR.sep hr _ _ _ _ (by omega) b4 a4 hb.symm
  · intro i cs f hi
    rw [layAll_get] at hi
    rw [layAll_next, layAll_fam]
    by_cases hj : h0.next ≤ i ∧ i < h0.next + acc.length
    · rw [if_pos hj] at hi
      obtain ⟨bs, h1, h2⟩ := map_some' hi
      cases h2
      exact ⟨by omega, i, i, by rw [if_pos hj], .inl rfl⟩
    · rw [if_neg hj] at hi
      obtain ⟨b1, b2⟩ := hr0.fam i cs f hi
      exact ⟨by omega, by rw [if_neg (by omega)]; exact b2⟩
  · rw [layAll_low, layAll_next]; have := hr0.lown; omega
  · intro j o p ho hp
    rcases hsplit j o p ho hp with ⟨a1, a2, a3⟩ | ⟨a1, cs, a2, a3, a4⟩
    · exact .inr ⟨j, o, p, a2, a3, rfl, fun h => h⟩
    · obtain ⟨id', fam', bs', q', k0, k1, k2, k3, k4, k5, _⟩ := hR.at hr _ _ _ a4 a2
      rcases hE.rng id' _ _ k3 k4 with h1 | ⟨i, o', q, h1, h2, h3, g3⟩
      · exact .inl (by omega)
      · exact .inr ⟨i, o', q, h1, h2, by omega, fun _ => g3 (fun cs e => by cases e)⟩
  · intro b hb hn
    exact hE.frame b hb hn
  · intro j hj hjn
    rw [layAll_get, if_neg (by omega)]
  · intro j hj hn
    unfold keep; rw [if_pos hj]; exact hn
  · intro j cs f hj
    rw [layAll_get] at hj
    split at hj
    · obtain ⟨bs, h1, h2⟩ := map_some' hj
      cases h2
      exact .inl (by omega)
    · exact .inr ⟨j, cs, hj⟩

/-- The value with its new numbers. -/
theorem canonV_ok {σ' : Sg} {h' : H} {w' : World} (hr : HR σ' h' w') {lo : Nat} : ∀ (n : Nat) (v : AV) (used : List Nat) (acc : List (List AV)) (v2 : AV) (used2 : List Nat) (acc2 : List (List AV)), canonV h' lo n v used acc = some (v2, used2, acc2) →
    ∀ (x : Value) (pl : List Plc), V σ' v x → Rows σ' h' w' lo used acc pl → ∃ pl', Rows σ' h' w' lo used2 acc2 (pl ++ pl') ∧ ∀ τ : Sg, (∀ i p, (pl ++ pl')[i]? = some p → τ (lo + i) = some p) → V τ v2 x := by
  intro n
  induction n with
  | zero => intro v used acc v2 used2 acc2 h; simp [canonV] at h
  | succ n ih =>
    intro v used acc v2 used2 acc2 h x pl hx hR
    unfold canonV at h
    split at h
    · rename_i id off len es cap
      split at h
      · rename_i cs fam ho
        obtain ⟨c1, h⟩ := cond_some h
        obtain ⟨c2, h⟩ := cond_some h
        simp only [Option.some.injEq, Prod.mk.injEq] at h
        obtain ⟨rfl, rfl, rfl⟩ := h
        simp only [Bool.and_eq_true] at c1
        obtain ⟨c3, c4, c5, c6⟩ := c1
        have hid := bleN c3
        have hfam := bleN c4
        have hlen := bleN c6
        have hu : fam ∉ used := by
          intro hm
          have : used.any (Nat.beq fam) = true := List.any_eq_true.2 ⟨fam, hm, by simp⟩
          rw [this] at c5; simp at c5
        cases hx with
        | @slice _ _ _ _ _ a q c e hl hrr hc ha =>
          refine ⟨[⟨q.b, q.d + off, q.r - off⟩], hR.snoc hid hfam hu ho e hlen c2, fun τ hτ => ?_⟩
          have hacc := hR.len
          have := hτ pl.length ⟨q.b, q.d + off, q.r - off⟩ (by simp)
          rw [hacc]
          refine .slice this hl (by simp only; omega) hc ?_
          rcases ha with ha | ha
          · exact .inl (by rw [ha]; simp)
          · exact .inr ha
      · simp at h
    · rename_i vs
      obtain ⟨⟨vs2, u2, a2⟩, h1, h2⟩ := map_some' h
      simp only [Prod.mk.injEq] at h2
      obtain ⟨rfl, rfl, rfl⟩ := h2
      obtain ⟨xs, rfl, hxs⟩ := hx.of_tup
      have key : ∀ (vs : List AV) (used : List Nat) (acc : List (List AV)) (vs2 : List AV) (used2 : List Nat) (acc2 : List (List AV)), canonV.canonVs (fun v u a => canonV h' lo n v u a) vs used acc = some (vs2, used2, acc2) →
          ∀ (xs : List Value) (pl : List Plc), VL σ' vs xs → Rows σ' h' w' lo used acc pl → ∃ pl', Rows σ' h' w' lo used2 acc2 (pl ++ pl') ∧ ∀ τ : Sg, (∀ i p, (pl ++ pl')[i]? = some p → τ (lo + i) = some p) → VL τ vs2 xs := by
        intro vs
        induction vs with
        | nil =>
          intro used acc vs2 used2 acc2 h xs pl hl hR
          simp only [canonV.canonVs, Option.some.injEq, Prod.mk.injEq] at h
          obtain ⟨rfl, rfl, rfl⟩ := h
          have := hl.inv_nil; subst this
          exact ⟨[], by simpa using hR, fun _ _ => .nil⟩
        | cons v vs ihs =>
          intro used acc vs2 used2 acc2 h xs pl hl hR
          obtain ⟨y, ys, rfl, hy, hys⟩ := hl.inv_cons
          simp only [canonV.canonVs] at h
          split at h
          · rename_i v1 u1 a1 hv1
            obtain ⟨⟨vs3, u3, a3⟩, h1, h2⟩ := map_some' h
            simp only [Prod.mk.injEq] at h2
            obtain ⟨rfl, rfl, rfl⟩ := h2
            obtain ⟨p1, r1, k1⟩ := ih v used acc v1 u1 a1 hv1 y pl hy hR
            obtain ⟨p2, r2, k2⟩ := ihs u1 a1 vs3 u3 a3 h1 ys _ hys r1
            refine ⟨p1 ++ p2, by rw [← List.append_assoc]; exact r2, fun τ hτ => ?_⟩
            rw [← List.append_assoc] at hτ
            refine .cons (k1 τ fun i p hi => hτ i p ?_) (k2 τ hτ)
            rw [List.getElem?_append, if_pos (List.getElem?_eq_some_iff.1 hi).1]; exact hi
          · simp at h
      obtain ⟨pl', r, k⟩ := key vs used acc vs2 u2 a2 h1 xs.toList pl hxs hR
      exact ⟨pl', r, fun τ hτ => .mk_tup' (k τ hτ)⟩
    · obtain ⟨c1, h⟩ := cond_some h
      simp only [Option.some.injEq, Prod.mk.injEq] at h
      obtain ⟨rfl, rfl, rfl⟩ := h
      exact ⟨[], by simpa using hR, fun τ _ => plain_V _ _ c1 _ _ _ hx⟩

theorem all2L_eq {eq : AV → AV → Bool} (ih : ∀ a b, eq a b = true → a = b) : ∀ xs ys : List (List AV), all2L eq xs ys = true → xs = ys
  | [], [], _ => rfl
  | [], _ :: _, h => by simp [all2L] at h
  | _ :: _, [], h => by simp [all2L] at h
  | x :: xs, y :: ys, h => by
    simp only [all2L, Bool.and_eq_true] at h
    rw [all2_eq ih x y h.1, all2L_eq ih xs ys h.2]

theorem sameAs_mem {h0 : H} {v : AV} {l : List (List AV)} : ∀ (outs : List (AV × H)), sameAs h0 v l outs = true → ∀ x ∈ outs, x.2.low = h0.next ∧ ∃ u, canonV x.2 h0.next 3 x.1 [] [] = some (v, u, l)
  | [], _, x, hx => by simp at hx
  | (v', h') :: outs, h, x, hx => by
    simp only [sameAs] at h
    split at h
    · rename_i v2 u2 l2 hc
      simp only [Bool.and_eq_true] at h
      obtain ⟨c1, c2, c3, c4⟩ := h
      have e1 := eqTop_eq _ _ _ c2
      have e2 := all2L_eq (eqTop_eq 6) _ _ c3
      subst e1; subst e2
      rcases List.mem_cons.1 hx with rfl | hx
      · exact ⟨beqN c1, u2, hc⟩
      · exact sameAs_mem outs c4 x hx
    · simp at h

theorem lower {σ σ' : Sg} {h0 h' : H} {w w' : World} (hr0 : HR σ h0 w) (hr : HR σ' h' w') (hE : Ext σ σ' { h0 with low := h0.next } h' w w') :
    HR σ' { h' with low := minN h0.low h'.low } w' ∧ Ext σ σ' h0 { h' with low := minN h0.low h'.low } w w' := by
  have hm := minN_le h0.low h'.low
  refine ⟨⟨hr.obj, hr.fresh, hr.sep, hr.fam, Nat.le_trans hm.2 hr.lown⟩, ⟨hE.le, hE.next, hE.size, hE.os, hE.tape, hE.output, hE.rng, hE.frame, hm.1, fun id h1 h2 => hE.same id (Nat.lt_of_lt_of_le h1 hm.2) h2, hE.old, hE.fams⟩⟩

theorem compact_ok {σ σ' : Sg} {h0 h' : H} {w w' : World} (hr0 : HR σ h0 w) (hr : HR σ' h' w') (hE : Ext σ σ' { h0 with low := h0.next } h' w w') {v : AV} {x : Value} (hV : V σ' v x) {outs : List (AV × H)} (hm : (v, h') ∈ outs) :
    Got σ h0 w (compact h0 outs) x w' := by
  have plain : ∀ outs' : List (AV × H), (v, { h' with low := minN h0.low h'.low }) ∈ outs' → Got σ h0 w outs' x w' := by
    intro outs' hm'
    have := lower hr0 hr hE
    exact ⟨v, _, hm', σ', hV, this.1, this.2⟩
  unfold compact
  split
  · simp at hm
  · rename_i y
    have : (v, h') = y := by simpa using hm
    subst this
    exact plain _ (List.mem_singleton.2 rfl)
  · rename_i y rest _
    have hmap : (v, { h' with low := minN h0.low h'.low }) ∈ (y :: rest).map fun x => (x.1, { x.2 with low := minN h0.low x.2.low }) := List.mem_map.2 ⟨_, hm, rfl⟩
    split
    · rename_i v2 u2 l hc
      cases hcd : (Nat.beq y.2.low h0.next && sameAs h0 v2 l rest)
      · rw [cond_ff]; exact plain _ hmap
      · rw [cond_tt]
        simp only [Bool.and_eq_true] at hcd
        have hfact : h'.low = h0.next ∧ ∃ u, canonV h' h0.next 3 v [] [] = some (v2, u, l) := by
          rcases List.mem_cons.1 hm with e | hm'
          · rw [← e] at hcd hc; exact ⟨beqN hcd.1, u2, hc⟩
          · exact sameAs_mem rest hcd.2 _ hm'
        obtain ⟨hlow, u, hcan⟩ := hfact
        obtain ⟨pl, hR, k⟩ := canonV_ok hr 3 v [] [] v2 u l hcan x [] hV .nil
        rw [List.nil_append] at hR k
        have := compact_HR hr0 hr hE hlow hR
        refine ⟨v2, _, List.mem_singleton.2 rfl, _, k _ ?_, this.1, this.2⟩
        intro i p hi
        unfold keep
        rw [if_neg (by omega), show h0.next + i - h0.next = i by omega]
        exact hi
    · exact plain _ hmap

end Go.Ev

/- Whatever serves the calls: sound. No conditions beyond those that each theorem states. -/
namespace Go.Ev

/-- The functions that are served whole do what is said of them. -/
def ExOK (P : Program) (ex : EX) : Prop := ∀ g k args h a h', ex.find g = some k → xA k args h = some (a, h') → ∀ σ w (args' : Array Value), VL σ args args'.toList → HR σ h w → Fine P ((callFunc g args').run P w) (Got σ h w [(a, h')])

theorem setParams_TR {σ : Sg} : ∀ (ps : List Tmp) (args : List AV) (vs : List Value) (n : Nat) (t t1 : Tr AV) (tmps : Array Value), setParams (ps.zip args) n t = some t1 → VL σ args vs → TR σ t n tmps →
    TR σ t1 n ((ps.zip vs).foldl (fun (tmps : Array Value) (x : Tmp × Value) => tmps.setIfInBounds x.1 x.2) tmps)
  | [], args, vs, n, t, t1, tmps, h, hv, ht => by
    simp only [List.zip_nil_left, setParams, Option.some.injEq] at h; subst h
    simpa using ht
  | p :: ps, [], vs, n, t, t1, tmps, h, hv, ht => by
    have := hv.inv_nil; subst this
    simp only [List.zip_nil_right, setParams, Option.some.injEq] at h; subst h
    simpa using ht
  | p :: ps, a :: args, vs, n, t, t1, tmps, h, hv, ht => by
    obtain ⟨v, vs, rfl, h1, h2⟩ := hv.inv_cons
    simp only [List.zip_cons_cons, setParams] at h
    obtain ⟨c1, h⟩ := cond_some h
    simp only [List.zip_cons_cons, List.foldl_cons]
    have := TR.put (a := { tmps := tmps, defers := [] }) ht (bltN c1) h1
    exact setParams_TR ps args vs n _ t1 _ h h2 this

theorem yield_run {P : Program} {w : World} {b : Nat} {r : Loop} {args : Array Value} (hw : w.heap[b]? = some (.loop r)) (hs : args.size = r.params.size) :
    (Instr.yield b args).run P w = .ok (.round b r.fn ((r.params.zip args).foldl (fun tmps (t, a) => tmps.setIfInBounds t a) r.tmps) r.assign r.body) w := by
  have : (args.size ≠ r.params.size) = False := by simp [hs]
  simp only [Instr.yield, Instr.getLoop, Sem.run_bind, run_getObj hw (by simp), Result.andThen_ok, Sem.run_pure, this, if_false]

theorem beginRound_run {P : Program} {w : World} {b : Nat} {r : Loop} (hw : w.heap[b]? = some (.loop r)) (hs : r.state = .ready) :
    (Instr.beginRound b).run P w = .ok () { w with heap := w.heap.setIfInBounds b (.loop { r with state := .busy }) } := by
  simp only [Instr.beginRound, Instr.getLoop, Sem.run_bind, run_getObj hw (by simp), Result.andThen_ok, Sem.run_pure, run_setObj hw (by simp), hs]

theorem endRound_run {P : Program} {w : World} {b : Nat} {r : Loop} (hw : w.heap[b]? = some (.loop r)) (j : Option Code) :
    (Instr.endRound b j).run P w = .ok (.bool j.isNone) { w with heap := w.heap.setIfInBounds b (.loop { r with state := if j.isNone then .ready else .done, pending := j }) } := by
  simp only [Instr.endRound, Instr.getLoop, Sem.run_bind, run_getObj hw (by simp), Result.andThen_ok, Sem.run_pure, run_setObj hw (by simp)]

theorem evV_ok {P : Program} (hng : NoGo P) (hdraw : DrawOk P) {ex : EX} (hex : ExOK P ex) (fuel : Nat) : ∀ d, CVok P (evV P ex fuel d) := by
  intro d
  induction d with
  | zero => exact ⟨fun g args h outs ho => by simp [evV] at ho, fun id args h outs ho => by simp [evV] at ho, fun f args h outs ho => by simp [evV] at ho⟩
  | succ d ih =>
    refine ⟨?_, ?_, ?_⟩
    · intro g args h outs ho σ w args' hv hr
      simp only [evV] at ho
      split at ho
      · rename_i r hk
        simp only [Option.some.injEq] at ho
        subst ho
        obtain ⟨k, hk1, h1⟩ := Option.bind_eq_some_iff.1 hk
        exact hex g k args h r.1 r.2 hk1 h1 σ w args' hv hr
      · split at ho
        · rename_i fn hfn
          split at ho
          · rename_i c hbody
            obtain ⟨lall, hl, he⟩ := map_some' ho
            subst he
            obtain ⟨l, hl, hall⟩ := bindR_mem hl
            rw [callFunc_enter hng hfn (by rw [hbody]; rfl)]
            have hr1 : HR σ { h with low := h.next } w := ⟨hr.obj, hr.fresh, hr.sep, hr.fam, Nat.le_refl _⟩
            have hw := bodyA_ok (n := 0) hng hdraw ih hl hv hr1
            refine callsIn_wide.1 (callsIn_of_wp_marks (F := Fence.wide) (n := 0) hfn hbody trivial (wpIn_mono hw ?_))
            rintro e a' w' ⟨exx, st', hm, hexx, σ', hs', hE', hn'⟩
            obtain ⟨os, h1, h2⟩ := hall _ hm
            obtain ⟨hend, h1⟩ := cond_some h1
            obtain ⟨hs, g1, g2⟩ := bindR_mem h1
            have key : LeavesInM Fence.wide 0 P fn a'.tmps (fun e w'' => ∃ v, e = .returned v ∧ Got σ h w (compact h lall) v w'') a'.defers .returning w' := by
              refine leaveA_ok hng hdraw ih st'.ds st'.h hs g1 a'.defers σ' w' hs'.ds hs'.h hs'.t hE' ?_
              intro h'' σ'' w'' hm'' hh'' ht'' hE''
              obtain ⟨os', j1, j2⟩ := g2 _ hm''
              obtain ⟨v, j3, j4⟩ := map_some' j1
              obtain ⟨x, k1, k2⟩ := resultsA_run ht'' hh'' j3
              refine ⟨x, k1, x, rfl, compact_ok hr hh'' hE'' k2 (h2 _ (j2 _ ?_))⟩
              rw [← j4]; exact List.mem_singleton.2 rfl
            rcases endsOk_cases hend with rfl | rfl
            · have : e = .normal := hexx
              subst this
              exact key
            · have : e = .ret := hexx
              subst this
              exact key
          · simp at ho
        · simp at ho
    · intro id args h outs ho σ w p args' hp hv hr
      simp only [evV] at ho
      split at ho
      · rename_i pend t n ps a b dd hlo
        obtain ⟨c1, ho⟩ := cond_some ho
        have hsz := beqN c1
        split at ho
        · rename_i t1 ht1
          obtain ⟨l, hl, hall⟩ := bindR_mem ho
          obtain ⟨hob, q, hq, f, tmps, qd, hw, hqd, hT⟩ := set_fam hr hlo
          rw [hp] at hq; cases hq
          have hsz' : args'.size = ps.size := by have := hv.1; simp at this hsz; omega
          rw [yield_run hw hsz']
          intro m
          refine roundIn_of_wpIn trivial ?_
          have hT1 : TR σ t1 n ((ps.zip args').foldl (fun tmps (x : Tmp × Value) => tmps.setIfInBounds x.1 x.2) tmps) := by
            have := setParams_TR ps.toList args args'.toList n t t1 tmps ht1 hv hT
            rw [← Array.foldl_toList, Array.toList_zip]
            exact this
          have hassign := evC_ok hng hdraw ih (ro := some id) (F := Fence.wide.inRound p.b) (n := m) fuel a { t := t1, n, h, ds := [] } l hl σ { tmps := (ps.zip args').foldl (fun tmps (x : Tmp × Value) => tmps.setIfInBounds x.1 x.2) tmps, defers := [] } w σ h w ⟨hT1, hr, trivial⟩ ⟨p, hp, rfl⟩ (.refl _ _ _)
          refine wpIn_mono hassign ?_
          rintro e a1 w1 ⟨ex1, st1, hm1, hex1, σ1, hs1, hE1, hn1⟩
          obtain ⟨os, h1, h2⟩ := hall _ hm1
          cases ex1 with
          | normal =>
            have : e = .normal := hex1
            subst this
            simp only at h1
            split at h1
            · rename_i pend2 t2 n2 ps2 a2 b2 dd2 hlo2
              obtain ⟨hob2, q2, hq2, f2, tmps2, qd2, hw2, hqd2, hT2⟩ := set_fam hs1.h hlo2
              rw [hE1.le _ _ hp] at hq2; cases hq2
              obtain ⟨l2, hl2, hall2⟩ := bindR_mem h1
              have hbegin := beginRound_run (P := P) hw2 rfl
              obtain ⟨s1, s2⟩ := hs1.h.set_obj (o' := .loop .busy pend2 t2 n2 ps2 a2 b2 dd2) (ob := .loop { state := .busy, pending := pend2, fn := f2, tmps := tmps2, params := ps2, assign := a2, body := b2, defers := qd2.b }) hob2 rfl rfl (hE1.le _ _ hp) ⟨f2, tmps2, qd2, rfl, hqd2, hT2⟩
              refine ⟨_, hbegin, ?_⟩
              have hbody := evC_ok hng hdraw ih (ro := some id) (F := Fence.wide.inRound p.b) (n := m) fuel b { st1 with h := st1.h.set id (.loop .busy pend2 t2 n2 ps2 a2 b2 dd2) } l2 hl2 σ1 a1 _ σ h w ⟨hs1.t, s1, hs1.ds⟩ ⟨p, hp, rfl⟩ (hE1.trans s2)
              refine wpIn_mono hbody ?_
              rintro e3 a3 w3 ⟨ex3, st3, hm3, hex3, σ3, hs3, hE3, hn3⟩
              obtain ⟨os3, i1, i2⟩ := hall2 _ hm3
              simp only at i1
              split at i1
              · rename_i pend4 t4 n4 ps4 a4 b4 dd4 hds hlo4
                obtain ⟨hob4, q4, hq4, f4, tmps4, qd4, hw4, hqd4, hT4⟩ := set_fam hs3.h hlo4
                rw [hE3.le _ _ hp] at hq4; cases hq4
                have fin : ∀ (s : LoopState) (j : Option Code) (r : Bool), os3 = [(.bool r, st3.h.set id (.loop s j t4 n4 ps4 a4 b4 dd4))] → r = j.isNone → s = (if j.isNone then .ready else .done) →
                    ∃ v w'', (Instr.endRound p.b j).run P w3 = .ok v w'' ∧ ∃ v', Ending.returned v = .returned v' ∧ Got σ h w outs v' w'' := by
                  intro s j r e1 e2 e3
                  obtain ⟨u1, u2⟩ := hs3.h.set_obj (o' := .loop s j t4 n4 ps4 a4 b4 dd4) (ob := .loop { state := s, pending := j, fn := f4, tmps := tmps4, params := ps4, assign := a4, body := b4, defers := qd4.b }) hob4 rfl rfl (hE3.le _ _ hp) ⟨f4, tmps4, qd4, rfl, hqd4, hT4⟩
                  refine ⟨_, _, endRound_run hw4 j, _, rfl, .bool r, _, h2 _ (i2 _ (by rw [e1]; exact List.mem_singleton.2 rfl)), σ3, by rw [e2]; exact .bool _, ?_, ?_⟩
                  · rw [← e3]; exact u1
                  · rw [← e3]; exact hE3.trans u2
                cases ex3 with
                | normal =>
                  have : e3 = .normal := hex3
                  subst this
                  simp only [one, Option.some.injEq] at i1
                  exact fin _ _ _ i1.symm rfl rfl
                | ret =>
                  have : e3 = .ret := hex3
                  subst this
                  simp only [one, Option.some.injEq] at i1
                  exact fin _ _ _ i1.symm rfl rfl
                | exit i =>
                  have : e3 = .exit i := hex3
                  subst this
                  simp only [one, Option.some.injEq] at i1
                  exact fin _ _ _ i1.symm rfl rfl
                | goto l =>
                  have : e3 = .goto l := hex3
                  subst this
                  simp only [one, Option.some.injEq] at i1
                  exact fin _ _ _ i1.symm rfl rfl
              · simp at i1
            · simp at h1
          | _ => simp at h1
        · simp at ho
      · simp at ho
    · intro f args h outs ho
      cases f with
      | func g => exact .inl ⟨g, rfl⟩
      | yield id => exact .inr ⟨id, rfl⟩
      | _ => simp [evV] at ho

end Go.Ev

/- A region that draws its order: what is needed of its parts. No conditions beyond those that each theorem states. -/
namespace Go.Ev

theorem restr_get (t : Tr AV) : ∀ (l : List Tmp) (j : Nat), (restr t l).get j = if j ∈ l then t.get j else none
  | [], j => by simp [restr, get_nil]
  | k :: l, j => by
    simp only [restr, put_get, restr_get t l j, List.mem_cons]
    by_cases h : j = k
    · subst h; simp
    · simp [h]

/-! ### Masks -/

theorem hasBit_lor (a b j : Nat) : hasBit (Nat.lor a b) j = (hasBit a j || hasBit b j) := Nat.testBit_or a b j
theorem hasBit_bit (n j : Nat) : hasBit (bit n) j = true ↔ n = j := by
  unfold hasBit bit; rw [Nat.testBit_two_pow]; simp
theorem hasBit_zero (j : Nat) : hasBit 0 j = false := Nat.zero_testBit j

def maskOf (acc : List Nat) (o : Oper) : Nat := o.after.toList.foldl (fun m e => cond (Region.binds .any e) (Nat.lor m (Nat.lor (bit e.on) (acc.getD e.on 0))) m) 0

theorem masks_cons (o : Oper) (rest : List Oper) (acc : List Nat) : masks (o :: rest) acc = masks rest (acc ++ [maskOf acc o]) := rfl

theorem fold_bit {acc : List Nat} {j : Nat} : ∀ (l : List Edge) (m : Nat), hasBit (l.foldl (fun m e => cond (Region.binds .any e) (Nat.lor m (Nat.lor (bit e.on) (acc.getD e.on 0))) m) m) j = true →
    hasBit m j = true ∨ ∃ e ∈ l, Region.binds .any e = true ∧ (e.on = j ∨ hasBit (acc.getD e.on 0) j = true)
  | [], m, h => .inl h
  | e :: l, m, h => by
    rw [List.foldl_cons] at h
    rcases fold_bit l _ h with h1 | ⟨e', h1, h2⟩
    · cases hb : Region.binds .any e
      · rw [hb, cond_ff] at h1; exact .inl h1
      · rw [hb, cond_tt, hasBit_lor, hasBit_lor, Bool.or_eq_true, Bool.or_eq_true] at h1
        rcases h1 with h1 | h1 | h1
        · exact .inl h1
        · exact .inr ⟨e, List.mem_cons_self .., hb, .inl ((hasBit_bit _ _).1 h1)⟩
        · exact .inr ⟨e, List.mem_cons_self .., hb, .inr h1⟩
    · exact .inr ⟨e', List.mem_cons_of_mem _ h1, h2⟩

theorem masks_pre : ∀ (rest : List Oper) (acc : List Nat) (i : Nat), i < acc.length → (masks rest acc).getD i 0 = acc.getD i 0
  | [], acc, i, h => rfl
  | o :: rest, acc, i, h => by
    rw [masks_cons, masks_pre rest _ i (by simp; omega)]
    rw [List.getD_eq_getElem?_getD, List.getD_eq_getElem?_getD, List.getElem?_append_left h]

theorem masks_at : ∀ (rest : List Oper) (acc : List Nat) (k : Nat) (o : Oper), rest[k]? = some o →
    ∃ acc' : List Nat, (masks rest acc).getD (acc.length + k) 0 = maskOf acc' o ∧ ∀ j, j < acc.length + k → acc'.getD j 0 = (masks rest acc).getD j 0
  | [], acc, k, o, h => by simp at h
  | o' :: rest, acc, 0, o, h => by
    simp only [List.getElem?_cons_zero, Option.some.injEq] at h; subst h
    refine ⟨acc, ?_, fun j hj => (masks_pre _ _ _ (by omega)).symm⟩
    rw [masks_cons, masks_pre rest _ _ (by simp)]
    simp [List.getD_eq_getElem?_getD]
  | o' :: rest, acc, k + 1, o, h => by
    rw [List.getElem?_cons_succ] at h
    obtain ⟨acc', h1, h2⟩ := masks_at rest (acc ++ [maskOf acc o']) k o h
    simp only [List.length_append, List.length_singleton] at h1 h2
    refine ⟨acc', ?_, fun j hj => ?_⟩
    · rw [masks_cons, show acc.length + (k + 1) = acc.length + 1 + k by omega]; exact h1
    · rw [masks_cons]; exact h2 j (by omega)

theorem masks_spec {ops : List Oper} {i : Nat} {o : Oper} (ho : ops[i]? = some o) (hb : ∀ e ∈ o.after.toList, Region.binds .any e = true → e.on < i) {j : Nat} (hj : hasBit ((masks ops []).getD i 0) j = true) :
    ∃ e ∈ o.after.toList, Region.binds .any e = true ∧ (e.on = j ∨ hasBit ((masks ops []).getD e.on 0) j = true) := by
  obtain ⟨acc', h1, h2⟩ := masks_at ops [] i o ho
  simp only [List.length_nil, Nat.zero_add] at h1 h2
  rw [h1] at hj
  rcases fold_bit _ _ hj with h | ⟨e, he, hbind, h⟩
  · rw [hasBit_zero] at h; cases h
  · refine ⟨e, he, hbind, ?_⟩
    rw [← h2 e.on (hb e he hbind)]; exact h

theorem numbered_get {α : Type} : ∀ (l : List α) (k i : Nat), (numbered k l)[i]? = (l[i]?).map fun x => (k + i, x)
  | [], k, i => by simp [numbered]
  | x :: xs, k, 0 => by simp [numbered]
  | x :: xs, k, i + 1 => by
    simp only [numbered, List.getElem?_cons_succ, numbered_get xs (k + 1) i]
    cases xs[i]? <;> simp; omega

theorem numbered_length {α : Type} : ∀ (l : List α) (k : Nat), (numbered k l).length = l.length
  | [], k => rfl
  | x :: xs, k => by simp [numbered, numbered_length xs]

theorem allPairs_spec {all : List Oper} {ms : List Nat} : ∀ (l : List (Nat × Oper)), allPairs all ms l = true → ∀ (i j : Nat) (x y : Nat × Oper), i < j → l[i]? = some x → l[j]? = some y → pairOk all x.1 x.2 (ms.getD y.1 0) y.2 = true
  | [], _, i, j, x, y, _, h, _ => by simp at h
  | (k, a) :: rest, h, i, j, x, y, hij, hx, hy => by
    simp only [allPairs, Bool.and_eq_true] at h
    cases j with
    | zero => omega
    | succ j =>
      rw [List.getElem?_cons_succ] at hy
      cases i with
      | zero =>
        simp only [List.getElem?_cons_zero, Option.some.injEq] at hx; subst hx
        exact List.all_eq_true.1 h.1 y (List.mem_of_getElem? hy)
      | succ i =>
        rw [List.getElem?_cons_succ] at hx
        exact allPairs_spec rest h.2 i j x y (by omega) hx hy

/-! ### The run in the order of the text -/

theorem drawRun_trace {P : Program} {cv : CV} {ro : Option Nat} {base : Nat} {all : List Oper} {ms : List Nat} {n : Nat} : ∀ (l : List (Nat × Oper)) (d d' : Dr), drawRun P cv ro base all ms n l d = some d' →
    ∃ D : Nat → Dr, D 0 = d ∧ D l.length = d' ∧ ∀ k x, l[k]? = some x → drawStep P cv ro base all ms n x.1 x.2 (D k) = some (D (k + 1))
  | [], d, d', h => by
    simp only [drawRun, Option.some.injEq] at h
    exact ⟨fun _ => d, rfl, h, fun k x hx => by simp at hx⟩
  | (i, o) :: rest, d, d', h => by
    simp only [drawRun] at h
    split at h
    · rename_i d1 h1
      obtain ⟨D, e0, e1, e2⟩ := drawRun_trace rest d1 d' h
      refine ⟨fun k => match k with | 0 => d | k + 1 => D k, rfl, e1, fun k x hx => ?_⟩
      cases k with
      | zero =>
        simp only [List.getElem?_cons_zero, Option.some.injEq] at hx; subst hx
        simp only [e0]; exact h1
      | succ k => rw [List.getElem?_cons_succ] at hx; exact e2 k x hx
    · simp at h

structure SetD (d d1 : Dr) (n : Nat) (dst : Option Tmp) (v : AV) : Prop where
  c : d1.c = d.c
  xs : d1.xs = d.xs
  all : d1.all = d.all
  m : d1.m = d.m
  cs : d1.cs = d.cs
  reads : d1.reads = d.reads
  get : ∀ τ, d1.t.get τ = if dst = some τ then some v else d.t.get τ
  lt : ∀ k, dst = some k → k < n

theorem setD_spec {d d1 : Dr} {n : Nat} {dst : Option Tmp} {v : AV} (h : d.setD n dst v = some d1) : SetD d d1 n dst v := by
  unfold Dr.setD at h
  split at h
  · simp only [Option.some.injEq] at h; subst h
    exact ⟨rfl, rfl, rfl, rfl, rfl, rfl, fun τ => by simp, fun k hk => by simp at hk⟩
  · rename_i k
    obtain ⟨h1, h2⟩ := cond_some h
    simp only [Option.some.injEq] at h2; subst h2
    refine ⟨rfl, rfl, rfl, rfl, rfl, rfl, fun τ => ?_, fun k' hk => by cases hk; exact bltN h1⟩
    simp only [put_get, Option.some.injEq]
    by_cases e : τ = k
    · subst e; simp
    · rw [if_neg e, if_neg (fun h => e h.symm)]

/-- What one step does. -/
inductive Step (P : Program) (cv : CV) (ro : Option Nat) (base : Nat) (all : List Oper) (ms : List Nat) (n i : Nat) (o : Oper) (d d' : Dr) : Prop
  | no (hw : wantedA all (restr d.t (looksA all o)) n o = some false) (hs : SetD d d' n o.dst und)
  | eff (hw : wantedA all (restr d.t (looksA all o)) n o = some true) (he : isEff o.op = true) (st : St) (d1 : Dr)
      (h1 : oneA P cv ro o { t := restr d.t (looksA all o), n, h := addX base (ms.getD i 0) d.xs d.c, ds := [] } = some [st])
      (hs : SetD d d1 n o.dst (match o.dst with | some k => (st.t.get k).getD und | none => und))
      (e : d' = { d1 with c := st.h, xs := d1.xs.filter (fun x => !(hasBit (ms.getD i 0) x.1)), m := Nat.lor d1.m (ms.getD i 0), cs := d1.cs ++ [(i, Nat.lor d1.m (ms.getD i 0), st.h)] })
  | alloc (hw : wantedA all (restr d.t (looksA all o)) n o = some true) (he : isEff o.op = false) (ha : isAlloc o.op = true) (v : AV) (ob : AO) (d1 : Dr)
      (h1 : allocA P (restr d.t (looksA all o)) o.op (base + i) = some (v, ob)) (hs : SetD d d1 n o.dst v) (e : d' = { d1 with xs := d1.xs ++ [(i, ob)], all := d1.all ++ [(i, ob)] })
  | pure (hw : wantedA all (restr d.t (looksA all o)) n o = some true) (he : isEff o.op = false) (ha : isAlloc o.op = false) (v : AV) (h : H) (d1 : Dr)
      (h1 : opA P (restr d.t (looksA all o)) (addX base (ms.getD i 0) d.xs d.c) o.op = some [(some v, h)]) (hs : SetD d d1 n o.dst v) (e : d' = { d1 with reads := d1.reads ++ [(i, restr d.t (looksA all o), o.op, v)] })

theorem drawStep_spec {P : Program} {cv : CV} {ro : Option Nat} {base : Nat} {all : List Oper} {ms : List Nat} {n i : Nat} {o : Oper} {d d' : Dr} (h : drawStep P cv ro base all ms n i o d = some d') : Step P cv ro base all ms n i o d d' := by
  unfold drawStep at h
  simp only at h
  split at h
  · simp at h
  · rename_i hw
    exact .no hw (setD_spec h)
  · rename_i hw
    cases he : isEff o.op
    · rw [he, cond_ff] at h
      cases ha : isAlloc o.op
      · rw [ha, cond_ff] at h
        split at h
        · rename_i v hh h1
          obtain ⟨d1, h2, h3⟩ := map_some' h
          exact .pure hw he ha v hh d1 h1 (setD_spec h2) h3.symm
        · simp at h
      · rw [ha, cond_tt] at h
        split at h
        · rename_i v ob h1
          obtain ⟨d1, h2, h3⟩ := map_some' h
          exact .alloc hw he ha v ob d1 h1 (setD_spec h2) h3.symm
        · simp at h
    · rw [he, cond_tt] at h
      split at h
      · rename_i st h1
        obtain ⟨d1, h2, h3⟩ := map_some' h
        have hs := setD_spec h2
        exact .eff hw he st d1 h1 hs (by rw [← h3, hs.xs, hs.m, hs.cs])
      · simp at h

/-! ### The last that has been written -/

open Classical in
noncomputable def lastAt {α : Type} (S wr : Nat → Prop) (cur : Nat → α) : Nat → α
  | 0 => cur 0
  | k + 1 => if S k ∧ wr k then cur (k + 1) else lastAt S wr cur k

theorem lastAt_text {α : Type} {S wr : Nat → Prop} {cur : Nat → α} : ∀ (K : Nat), (∀ k, k < K → ¬ wr k → cur (k + 1) = cur k) → (∀ j, j < K → wr j → S j) → lastAt S wr cur K = cur K
  | 0, _, _ => rfl
  | K + 1, h1, h2 => by
    unfold lastAt
    by_cases hw : wr K
    · rw [if_pos ⟨h2 K (by omega) hw, hw⟩]
    · rw [if_neg (fun h => hw h.2), lastAt_text K (fun k hk => h1 k (by omega)) (fun j hj => h2 j (by omega)), h1 K (by omega) hw]

theorem lastAt_later {α : Type} {S wr : Nat → Prop} {cur : Nat → α} {K : Nat} : ∀ (L : Nat), K ≤ L → (∀ j, K ≤ j → j < L → S j → ¬ wr j) → lastAt S wr cur L = lastAt S wr cur K
  | 0, h, _ => by have : K = 0 := by omega
                  subst this; rfl
  | L + 1, h, h2 => by
    by_cases e : K = L + 1
    · rw [e]
    · conv => lhs; unfold lastAt
      rw [if_neg (fun hh => h2 L (by omega) (by omega) hh.1 hh.2)]
      exact lastAt_later L (by omega) (fun j a b => h2 j a (by omega))

theorem lastAt_congr {α : Type} {S S' wr : Nat → Prop} {cur : Nat → α} : ∀ (L : Nat), (∀ j, j < L → wr j → (S j ↔ S' j)) → lastAt S wr cur L = lastAt S' wr cur L
  | 0, _ => rfl
  | L + 1, h => by
    unfold lastAt
    rw [lastAt_congr L (fun j hj => h j (by omega))]
    by_cases hw : wr L
    · have := h L (by omega) hw
      by_cases hs : S L
      · rw [if_pos ⟨hs, hw⟩, if_pos ⟨this.1 hs, hw⟩]
      · rw [if_neg (fun hh => hs hh.1), if_neg (fun hh => hs (this.2 hh.1))]
    · rw [if_neg (fun hh => hw hh.2), if_neg (fun hh => hw hh.2)]

theorem lastAt_set {α : Type} {S' wr : Nat → Prop} {cur : Nat → α} {i L : Nat} (hi : i < L) (hS : S' i) (hw : wr i) (hl : ∀ j, i < j → j < L → S' j → ¬ wr j) : lastAt S' wr cur L = cur (i + 1) := by
  rw [lastAt_later (K := i + 1) L (by omega) (fun j a b => hl j (by omega) b)]
  unfold lastAt
  rw [if_pos ⟨hS, hw⟩]

/-! ### Objects that lie beside -/

/-- An object that lies in a block of its own is taken in. -/
theorem HR.insert {σ : Sg} {h : H} {w : World} (hr : HR σ h w) {id : Nat} {o : AO} {p : Plc} (hp : σ id = some p) (hor : OR σ o p w.heap[p.b]?) (hlt : id < h.next)
    (hb : ∀ j x q, h.objs.get j = some x → σ j = some q → q.b ≠ p.b) (hf : ∀ j cs, h.objs.get j ≠ some (.cells cs id)) (hof : ∀ cs f, o = .cells cs f → f = id) : HR σ (h.lay id o) w := by
  refine ⟨?_, ?_, ?_, ?_, ?_⟩
  · intro j x hx
    rw [lay_get] at hx
    split at hx
    · rename_i e; cases hx; subst e; exact ⟨p, hp, hor⟩
    · exact hr.obj j x hx
  · intro j hj; rw [lay_next] at hj; exact hr.fresh j hj
  · intro i j x y q1 q2 hij hx hy h1 h2 hbb
    rw [lay_get] at hx hy
    split at hx
    · rename_i e1; subst e1; rw [hp] at h1; cases h1
      rw [if_neg (fun e => hij e.symm)] at hy
      exact absurd hbb.symm (hb j y q2 hy h2)
    · split at hy
      · rename_i e1; subst e1; rw [hp] at h2; cases h2
        exact absurd hbb (hb i x q1 hx h1)
      · exact hr.sep i j x y q1 q2 hij hx hy h1 h2 hbb
  · intro i cs f hi
    rw [lay_get] at hi
    split at hi
    · rename_i e; cases hi; subst e
      have := hof cs f rfl; subst this
      refine ⟨by rw [lay_next]; exact hlt, f, f, ?_, .inl rfl⟩
      unfold H.lay; exact put_same _ _ _
    · obtain ⟨b1, x, y, b2, b3⟩ := hr.fam i cs f hi
      refine ⟨by rw [lay_next]; exact b1, x, y, ?_, b3⟩
      have hne : f ≠ id := fun e => hf i cs (e ▸ hi)
      unfold H.lay
      split
      · simp only; rw [put_other _ _ hne]; exact b2
      · exact b2
  · rw [lay_low, lay_next]; exact hr.lown

theorem HR.sub {σ σ' : Sg} {c h : H} {w w' : World} (hr : HR σ' h w') (h0 : HR σ c w) (hn : h.next = c.next) (hs : ∀ j o, c.objs.get j = some o → h.objs.get j = some o) : HR σ' c w' :=
  ⟨fun j o ho => hr.obj j o (hs j o ho), fun j hj => hr.fresh j (by omega), fun i j x y p q hij hx hy => hr.sep i j x y p q hij (hs _ _ hx) (hs _ _ hy), h0.fam, h0.lown⟩

theorem addX_next (base m : Nat) : ∀ (xs : List (Nat × AO)) (h : H), (addX base m xs h).next = h.next
  | [], h => rfl
  | (i, o) :: xs, h => by
    unfold addX
    rw [addX_next base m xs]
    cases hasBit m i
    · rfl
    · rw [cond_tt, lay_next]

theorem addX_low (base m : Nat) : ∀ (xs : List (Nat × AO)) (h : H), (addX base m xs h).low = h.low
  | [], h => rfl
  | (i, o) :: xs, h => by
    unfold addX
    rw [addX_low base m xs]
    cases hasBit m i
    · rfl
    · rw [cond_tt, lay_low]

theorem addX_other (base m : Nat) : ∀ (xs : List (Nat × AO)) (h : H) (j : Nat), (∀ i o, (i, o) ∈ xs → hasBit m i = true → j ≠ base + i) → (addX base m xs h).objs.get j = h.objs.get j
  | [], h, j, _ => rfl
  | (i, o) :: xs, h, j, hj => by
    unfold addX
    rw [addX_other base m xs _ j (fun i' o' hm => hj i' o' (List.mem_cons_of_mem _ hm))]
    cases hb : hasBit m i
    · rfl
    · rw [cond_tt, lay_get, if_neg (hj i o (List.mem_cons_self ..) hb)]

theorem addX_mem (base m : Nat) : ∀ (xs : List (Nat × AO)) (h : H) (j : Nat) (x : AO), (addX base m xs h).objs.get j = some x →
    (h.objs.get j = some x ∧ ∀ i o, (i, o) ∈ xs → hasBit m i = true → j ≠ base + i) ∨ ∃ i, j = base + i ∧ (i, x) ∈ xs ∧ hasBit m i = true
  | [], h, j, x, hx => .inl ⟨hx, fun i o hm => by simp at hm⟩
  | (i, o) :: xs, h, j, x, hx => by
    unfold addX at hx
    rcases addX_mem base m xs _ j x hx with ⟨h1, h2⟩ | ⟨i', h1, h2, h3⟩
    · cases hb : hasBit m i
      · rw [hb, cond_ff] at h1
        refine .inl ⟨h1, fun i' o' hm hb' => ?_⟩
        rcases List.mem_cons.1 hm with e | hm
        · cases e; rw [hb] at hb'; cases hb'
        · exact h2 i' o' hm hb'
      · rw [hb, cond_tt, lay_get] at h1
        split at h1
        · rename_i e; cases h1; exact .inr ⟨i, e, List.mem_cons_self .., hb⟩
        · rename_i e
          refine .inl ⟨h1, fun i' o' hm hb' => ?_⟩
          rcases List.mem_cons.1 hm with e' | hm
          · cases e'; exact e
          · exact h2 i' o' hm hb'
    · exact .inr ⟨i', h1, List.mem_cons_of_mem _ h2, h3⟩

/-- An object that lies beside the heap c. -/
structure Beside (σ : Sg) (c : H) (w : World) (base : Nat) (i : Nat) (o : AO) (p : Plc) : Prop where
  pl : σ (base + i) = some p
  ob : OR σ o p w.heap[p.b]?
  own : ∀ j x q, c.objs.get j = some x → σ j = some q → q.b ≠ p.b
  fam : ∀ j cs, c.objs.get j ≠ some (.cells cs (base + i))
  ofam : ∀ cs f, o = .cells cs f → f = base + i
  lt : base + i < c.next

theorem addX_HR {σ : Sg} {w : World} {base m : Nat} : ∀ (xs : List (Nat × AO)) (c : H), HR σ c w → (xs.map (·.1)).Nodup →
    (∀ i o, (i, o) ∈ xs → hasBit m i = true → ∃ p, Beside σ c w base i o p) →
    (∀ i j o o' p q, (i, o) ∈ xs → (j, o') ∈ xs → hasBit m i = true → hasBit m j = true → i ≠ j → σ (base + i) = some p → σ (base + j) = some q → p.b ≠ q.b) →
    HR σ (addX base m xs c) w
  | [], c, hr, _, _, _ => hr
  | (i, o) :: xs, c, hr, hnd, hb, hd => by
    rw [List.map_cons, List.nodup_cons] at hnd
    unfold addX
    cases hbit : hasBit m i
    · exact addX_HR xs c hr hnd.2 (fun i' o' hm => hb i' o' (List.mem_cons_of_mem _ hm)) (fun i' j' o1 o2 p q h1 h2 => hd i' j' o1 o2 p q (List.mem_cons_of_mem _ h1) (List.mem_cons_of_mem _ h2))
    · rw [cond_tt]
      obtain ⟨p, hB⟩ := hb i o (List.mem_cons_self ..) hbit
      refine addX_HR xs _ (hr.insert hB.pl hB.ob hB.lt hB.own hB.fam hB.ofam) hnd.2 ?_ (fun i' j' o1 o2 p q h1 h2 => hd i' j' o1 o2 p q (List.mem_cons_of_mem _ h1) (List.mem_cons_of_mem _ h2))
      intro i' o' hm hb'
      obtain ⟨p', hB'⟩ := hb i' o' (List.mem_cons_of_mem _ hm) hb'
      have hne : i ≠ i' := by
        intro e; subst e
        exact hnd.1 (List.mem_map.2 ⟨_, hm, rfl⟩)
      refine ⟨p', hB'.pl, hB'.ob, ?_, ?_, hB'.ofam, by rw [lay_next]; exact hB'.lt⟩
      · intro j x q hx hq
        rw [lay_get] at hx
        split at hx
        · rename_i e; subst e
          exact hd i i' o o' q p' (List.mem_cons_self ..) (List.mem_cons_of_mem _ hm) hbit hb' hne hq hB'.pl
        · exact hB'.own j x q hx hq
      · intro j cs hx
        rw [lay_get] at hx
        split at hx
        · cases hx
          have := hB.ofam cs _ rfl
          omega
        · exact hB'.fam j cs hx

/-! ### Operations that change nothing -/

theorem opA_pure {P : Program} {t : Tr AV} {h : H} {op : Op} {l : List (Option AV × H)} (ho : opA P t h op = some l) (he : isEff op = false) (ha : isAlloc op = false) : ∀ x ∈ l, x.2 = h := by
  have pv : ∀ q : Option AV, q.map (fun x => [(some x, h)]) = some l → ∀ x ∈ l, x.2 = h := by
    intro q hq x hx
    obtain ⟨a, _, rfl⟩ := map1 hq
    rw [List.mem_singleton.1 hx]
  cases op with
  | move x => exact pv _ ho
  | assign x => exact pv _ ho
  | pick c a b =>
    simp only [opA] at ho
    obtain ⟨x, _, ho⟩ := bind_some' ho
    obtain ⟨y, _, ho⟩ := bind_some' ho
    split at ho
    · exact pv _ ho
    · exact pv _ ho
    · simp at ho
  | build tt ps => exact pv _ ho
  | load tt a =>
    simp only [opA] at ho
    split at ho
    · exact pv _ ho
    · simp at ho
  | nilCheck x => exact pv _ ho
  | binOp a b c d e => exact pv _ ho
  | unOp a b c => exact pv _ ho
  | convert a b c => exact pv _ ho
  | makeInterface xt x =>
    simp only [opA] at ho
    split at ho
    · simp at ho
    · exact pv _ ho
    · simp at ho
  | makeFunc f a b =>
    simp only [opA] at ho
    split at ho
    · simp at ho
    · exact pv _ ho
  | slice a b c d e => exact pv _ ho
  | fieldAddr a b c => exact pv _ ho
  | field a b c => exact pv _ ho
  | indexAddr a b c => exact pv _ ho
  | index a b c => exact pv _ ho
  | lookup a b c d => exact pv _ ho
  | entry a => exact pv _ ho
  | extract x i =>
    simp only [opA] at ho
    split at ho
    · exact pv _ ho
    · simp at ho
  | typeAssert x a b ok =>
    simp only [opA] at ho
    split at ho
    · simp at ho
    · split at ho
      · obtain ⟨_, ho⟩ := cond_some ho
        exact pv _ ho
      · simp at ho
    · simp at ho
  | call c =>
    obtain ⟨callee, args, ats⟩ := c
    cases callee with
    | value g => simp [opA] at ho
    | invoke r nm => simp [opA] at ho
    | builtin b =>
      simp only [opA] at ho
      obtain ⟨⟨a, h'⟩, hb, rfl⟩ := map1 ho
      intro x hx
      rw [List.mem_singleton.1 hx]
      obtain ⟨xs, _, hb⟩ := bind_some' hb
      cases b <;> simp [isEff] at he <;> unfold builtinA at hb <;> split at hb <;> first
        | (obtain ⟨z, _, hz⟩ := map_some' hb; cases hz; rfl)
        | (split at hb <;> first | (cases hb; rfl) | simp at hb)
        | simp_all
  | _ => first
    | (simp [isEff] at he; done)
    | (simp [isAlloc] at ha; done)
    | (simp [opA] at ho; done)

theorem oneA_select {P : Program} {cv : CV} {ro : Option Nat} {o : Oper} {st : St} {l : List St} (h : oneA P cv ro o st = some l) : ∀ cs b, o.op ≠ .select cs b := by
  intro cs b e
  simp [oneA, e, isDyn, opA, bindR] at h

theorem opA_select {P : Program} {t : Tr AV} {h : H} {op : Op} {l : List (Option AV × H)} (ho : opA P t h op = some l) : ∀ cs b, op ≠ .select cs b := by
  intro cs b e
  subst e
  simp [opA] at ho

theorem allocA_select {P : Program} {t : Tr AV} {op : Op} {id : Nat} {x : AV × AO} (ho : allocA P t op id = some x) : ∀ cs b, op ≠ .select cs b := by
  intro cs b e
  subst e
  simp [allocA] at ho

theorem allocA_fam {P : Program} {t : Tr AV} {op : Op} {id : Nat} {v : AV} {ob : AO} (ho : allocA P t op id = some (v, ob)) : ∀ cs f, ob = .cells cs f → f = id := by
  intro cs f e
  subst e
  unfold allocA at ho
  split at ho
  · obtain ⟨z, _, h⟩ := map_some' ho; cases h; rfl
  · obtain ⟨z, _, h⟩ := map_some' ho; cases h; rfl
  · obtain ⟨ps, _, ho⟩ := bind_some' ho
    obtain ⟨z, _, h⟩ := map_some' ho; cases h; rfl
  · split at ho
    · cases ho
    · split at ho
      · cases ho
      · simp at ho
  · obtain ⟨x, _, ho⟩ := bind_some' ho
    obtain ⟨y, _, ho⟩ := bind_some' ho
    obtain ⟨z, _, h⟩ := map_some' ho; cases h; rfl
  · simp at ho

/-! ### An activation that bears what an operation looks at, and no more -/

def cut (a : Act) (l : List Tmp) : Act := { tmps := Array.ofFn (n := a.tmps.size) fun j => if j.1 ∈ l then a.tmps[j.1] else undef, defers := [] }

theorem cut_size (a : Act) (l : List Tmp) : (cut a l).tmps.size = a.tmps.size := by simp [cut]

theorem cut_at (a : Act) (l : List Tmp) {j : Nat} (hj : j ∈ l) : (cut a l).tmps[j]? = a.tmps[j]? := by
  by_cases h : j < a.tmps.size
  · rw [Array.getElem?_eq_getElem (by rw [cut_size]; exact h), Array.getElem?_eq_getElem h]
    simp [cut, hj]
  · rw [Array.getElem?_eq_none (by rw [cut_size]; omega), Array.getElem?_eq_none (by omega)]

theorem cut_none (a : Act) (l : List Tmp) {j : Nat} (hj : j ∉ l) : (cut a l).tmps.getD j undef = undef := by
  rw [Array.getD_eq_getD_getElem?]
  by_cases h : j < a.tmps.size
  · rw [Array.getElem?_eq_getElem (by rw [cut_size]; exact h)]
    simp [cut, hj]
  · rw [Array.getElem?_eq_none (by rw [cut_size]; omega)]; rfl

theorem mem_tmpsOf {o : Oper} {t : Tmp} (h : Operand.tmp t ∈ o.op.operands) : t ∈ tmpsOf o :=
  List.mem_filterMap.2 ⟨.tmp t, by simpa using h, rfl⟩

theorem cut_eval {ops : List Oper} {o : Oper} (a : Act) : ∀ x ∈ o.op.operands, a.eval x = (cut a (looksA ops o)).eval x := by
  intro x hx
  cases x with
  | tmp t =>
    have ht : t ∈ looksA ops o := List.mem_append_left _ (mem_tmpsOf hx)
    simp only [Act.eval, Array.getD_eq_getD_getElem?, cut_at a _ ht]
  | _ => rfl

theorem cut_wanted {ops : Array Oper} {o : Oper} (a : Act) : Region.wanted o (yielded ops (cut a (looksA ops.toList o)).tmps) = Region.wanted o (yielded ops a.tmps) := by
  unfold Region.wanted
  split
  · rfl
  · rename_i j want hg
    have : yielded ops (cut a (looksA ops.toList o)).tmps j = yielded ops a.tmps j := by
      unfold yielded
      cases hd : (ops[j]?).bind (·.dst) with
      | none => rfl
      | some d =>
        have hm : d ∈ looksA ops.toList o := by
          unfold looksA
          rw [hg]
          simp only
          refine List.mem_append_right _ ?_
          rw [Array.getElem?_toList, hd]
          simp
        simp only [Option.bind_some, cut_at a _ hm]
    rw [this]

/-- From the cut activation to the whole one. -/
theorem wpIn_swap {F : Fence} {n : Nat} {P : Program} {o : Oper} {a b : Act} {w : World} (hsel : ∀ cs b, o.op ≠ .select cs b) (hdef : ∀ c, o.op ≠ .defer c) (hev : ∀ x ∈ o.op.operands, a.eval x = b.eval x) (hF : ∀ f, F.fn f)
    {N K : Act → World → Prop} {Q : Exit → Act → World → Prop} (h : o.wpIn F n P b w N (fun _ _ _ => False)) (hN : ∀ b' w', N b' w' → b'.defers = []) (hK : ∀ v w', N (b.put o.dst v) w' → K (a.put o.dst v) w') : o.wpIn F n P a w K Q := by
  refine ⟨fun f _ => hF f, ?_⟩
  have h := h.2
  rw [Oper.semAt_eq _ _ _ hdef] at h ⊢
  rw [execOp_congr o hsel hev]
  generalize (execOp b.eval o).run P w = r at *
  cases r with
  | ok x w' =>
    cases x <;> simp only [Oper.uponIn] at h ⊢
    case value u => exact hK _ _ h
    case skip => exact hK _ _ h
    case defer d =>
      have := hN _ _ h
      rw [put_defers] at this
      simp at this
    case enter f args =>
      refine ⟨h.1, CallsIn.mono h.2 fun e w'' he => ?_⟩
      cases e with
      | returned u => exact hK _ _ he
      | panicked c => exact he.elim
      | outgrown => obtain ⟨_, _, he⟩ := he; exact he.elim
    case row row args => exact ⟨h.1, RowsIn.mono h.2 fun u w'' he => hK _ _ he⟩
    case round l f tmps assign body =>
      refine ⟨h.1, RoundIn.mono h.2 fun e w'' he => ?_⟩
      cases e with
      | returned u => exact hK _ _ he
      | panicked c => exact he.elim
      | outgrown => obtain ⟨_, _, he⟩ := he; exact he.elim
  | halt x w' =>
    cases x <;> simp only [Oper.uponIn] at h ⊢
    

end Go.Ev

/- A region that draws its order: the run in the order of the text, and what holds after any part of it. No conditions beyond those that each theorem states. -/
namespace Go.Ev

theorem joinR_from {α β : Type} {f : α → R β} : ∀ (l : List α) (outs : List β), joinR f l = some outs → ∀ y ∈ outs, ∃ x ∈ l, ∃ os, f x = some os ∧ y ∈ os
  | [], outs, h, y, hy => by simp only [joinR, Option.some.injEq] at h; subst h; simp at hy
  | [a], outs, h, y, hy => ⟨a, List.mem_singleton.2 rfl, outs, h, hy⟩
  | a :: b :: l, outs, h, y, hy => by
    simp only [joinR] at h
    cases h1 : f a with
    | none => simp [h1] at h
    | some o1 =>
      cases h2 : joinR f (b :: l) with
      | none => simp [h1, h2] at h
      | some o2 =>
        simp only [h1, h2, Option.some.injEq] at h; subst h
        rcases List.mem_append.1 hy with hy | hy
        · exact ⟨a, List.mem_cons_self .., o1, h1, hy⟩
        · obtain ⟨x, k1, k2⟩ := joinR_from (b :: l) o2 h2 y hy
          exact ⟨x, List.mem_cons_of_mem _ k1, k2⟩

theorem bindR_from {α β : Type} {r : R α} {f : α → R β} {outs : List β} (h : bindR r f = some outs) : ∀ y ∈ outs, ∃ x os, f x = some os ∧ y ∈ os := by
  cases r with
  | none => simp [bindR] at h
  | some l =>
    intro y hy
    obtain ⟨x, _, os, h1, h2⟩ := joinR_from l outs h y hy
    exact ⟨x, os, h1, h2⟩

theorem oneA_ds {P : Program} {cv : CV} {ro : Option Nat} {o : Oper} {st : St} {l : List St} (h : oneA P cv ro o st = some l) (hdef : ∀ c, o.op ≠ .defer c) : ∀ st' ∈ l, st'.ds = st.ds := by
  intro st' hm
  unfold oneA at h
  split at h
  · rename_i c hc; exact absurd hc (hdef c)
  · cases hd : isDyn o.op
    · rw [hd, cond_ff] at h
      obtain ⟨x, os, h1, h2⟩ := bindR_from h st' hm
      obtain ⟨s, hp, rfl⟩ := map1 h1
      rw [List.mem_singleton.1 h2]
      exact (St.put_eq hp).2.1
    · rw [hd, cond_tt] at h
      split at h
      · split at h
        · obtain ⟨x, os, h1, h2⟩ := bindR_from h st' hm
          obtain ⟨s, hp, rfl⟩ := map1 h1
          rw [List.mem_singleton.1 h2]
          exact (St.put_eq hp).2.1
        · simp at h
      · simp at h

section
variable {P : Program} {cv : CV} {ro : Option Nat} {base : Nat} {ops : List Oper} {n : Nat} {D : Nat → Dr}

abbrev mkM (ops : List Oper) (i : Nat) : Nat := (masks ops []).getD i 0

structure Trc (P : Program) (cv : CV) (ro : Option Nat) (base : Nat) (ops : List Oper) (n : Nat) (D : Nat → Dr) : Prop where
  step : ∀ i o, ops[i]? = some o → Step P cv ro base ops (masks ops []) n i o (D i) (D (i + 1))
  pairs : ∀ i j a b, i < j → ops[i]? = some a → ops[j]? = some b → pairOk ops i a (mkM ops j) b = true
  ok : ∀ i o, ops[i]? = some o → opOk i o = true
  xs0 : (D 0).xs = []
  all0 : (D 0).all = []
  m0 : (D 0).m = 0
  cs0 : (D 0).cs = []
  reads0 : (D 0).reads = []

theorem pair_spec {i mj : Nat} {a b : Oper} (h : pairOk ops i a mj b = true) : hasBit mj i = true ∨ ((∀ d, a.dst = some d → b.dst ≠ some d) ∧ (∀ d, a.dst = some d → d ∉ looksA ops b) ∧ (∀ d, b.dst = some d → d ∉ looksA ops a) ∧ ¬ (isEff a.op = true ∧ isEff b.op = true)) := by
  unfold pairOk at h
  rw [Bool.or_eq_true] at h
  rcases h with h | h
  · exact .inl h
  · refine .inr ?_
    simp only [Bool.and_eq_true] at h
    obtain ⟨h1, h2, h3, h4⟩ := h
    refine ⟨fun d hd he => ?_, fun d hd he => ?_, fun d hd he => ?_, fun hh => ?_⟩
    · rw [hd, he] at h1; simp at h1
    · rw [hd] at h2; simp only [Bool.not_eq_true', List.any_eq_false] at h2
      exact absurd (Nbeq rfl) (h2 d he)
    · rw [hd] at h3; simp only [Bool.not_eq_true', List.any_eq_false] at h3
      exact absurd (Nbeq rfl) (h3 d he)
    · rw [hh.1, hh.2] at h4; simp at h4

theorem Trc.back (T : Trc P cv ro base ops n D) {i : Nat} {o : Oper} (ho : ops[i]? = some o) : ∀ e ∈ o.after.toList, Region.binds .any e = true → e.on < i := by
  intro e he hb
  have h := T.ok i o ho
  unfold opOk at h
  rw [Bool.and_eq_true] at h
  have := List.all_eq_true.1 h.1 e he
  rw [hb] at this
  simp only [Bool.not_true, Bool.false_or] at this
  exact bltN this

theorem Trc.nodefer (T : Trc P cv ro base ops n D) {i : Nat} {o : Oper} (ho : ops[i]? = some o) : ∀ c, o.op ≠ .defer c := by
  intro c e
  have h := T.ok i o ho
  unfold opOk at h
  rw [Bool.and_eq_true] at h
  have h2 := h.2
  rw [e] at h2
  cases o.guard <;> simp at h2

theorem Trc.mask (T : Trc P cv ro base ops n D) {i : Nat} {o : Oper} (ho : ops[i]? = some o) {j : Nat} (hj : hasBit (mkM ops i) j = true) : ∃ e ∈ o.after.toList, Region.binds .any e = true ∧ (e.on = j ∨ hasBit (mkM ops e.on) j = true) :=
  masks_spec ho (T.back ho) hj

def Closed (ops : List Oper) (S : Nat → Prop) : Prop := ∀ i o, ops[i]? = some o → S i → ∀ e ∈ o.after.toList, Region.binds .any e = true → S e.on

theorem lt_len {i : Nat} {o : Oper} (ho : ops[i]? = some o) : i < ops.length := (List.getElem?_eq_some_iff.1 ho).1

theorem Trc.below (T : Trc P cv ro base ops n D) {S : Nat → Prop} (hc : Closed ops S) : ∀ (i : Nat) (o : Oper), ops[i]? = some o → (∀ e ∈ o.after.toList, Region.binds .any e = true → S e.on) → ∀ j, hasBit (mkM ops i) j = true → S j := by
  intro i
  induction i using Nat.strongRecOn with
  | _ i ih =>
    intro o ho he j hj
    obtain ⟨e, h1, h2, h3⟩ := T.mask ho hj
    rcases h3 with h3 | h3
    · exact h3 ▸ he e h1 h2
    · have hlt := T.back ho e h1 h2
      have hlen := lt_len ho
      have ho' : ops[e.on]? = some (ops[e.on]'(by omega)) := List.getElem?_eq_getElem _
      exact ih e.on hlt _ ho' (hc e.on _ ho' (he e h1 h2)) j h3

theorem Trc.bit_lt (T : Trc P cv ro base ops n D) : ∀ (i : Nat), i < ops.length → ∀ j, hasBit (mkM ops i) j = true → j < i := by
  intro i hi j hj
  have ho : ops[i]? = some (ops[i]) := List.getElem?_eq_getElem hi
  exact T.below (S := fun j => j < i) (fun k o hk hki e he hb => Nat.lt_trans (T.back hk e he hb) hki) i _ ho (fun e he hb => T.back ho e he hb) j hj

/-! ### What has been written -/

def wrT (ops : List Oper) (τ : Nat) (k : Nat) : Prop := ∃ o, ops[k]? = some o ∧ o.dst = some τ
noncomputable def curT (D : Nat → Dr) (τ : Nat) (k : Nat) : AV := ((D k).t.get τ).getD und
def weff (ops : List Oper) (n : Nat) (D : Nat → Dr) (k : Nat) : Prop := ∃ o, ops[k]? = some o ∧ isEff o.op = true ∧ wantedA ops (restr (D k).t (looksA ops o)) n o = some true
noncomputable def curH (D : Nat → Dr) (k : Nat) : H × Nat := ((D k).c, (D k).m)

/-- What a step writes to its temporary. -/
theorem Step.set {ms : List Nat} {i : Nat} {o : Oper} {d d' : Dr} (h : Step P cv ro base ops ms n i o d d') : ∃ v, (∀ τ, d'.t.get τ = if o.dst = some τ then some v else d.t.get τ) ∧ ∀ k, o.dst = some k → k < n := by
  cases h with
  | no hw hs => exact ⟨_, hs.get, hs.lt⟩
  | eff hw he st d1 h1 hs e => subst e; exact ⟨_, hs.get, hs.lt⟩
  | alloc hw he ha v ob d1 h1 hs e => subst e; exact ⟨_, hs.get, hs.lt⟩
  | pure hw he ha v hh d1 h1 hs e => subst e; exact ⟨_, hs.get, hs.lt⟩

theorem Trc.keepT (T : Trc P cv ro base ops n D) {τ k : Nat} (hk : k < ops.length) (h : ¬ wrT ops τ k) : curT D τ (k + 1) = curT D τ k := by
  have ho : ops[k]? = some (ops[k]) := List.getElem?_eq_getElem hk
  obtain ⟨v, h1, _⟩ := (T.step k _ ho).set
  unfold curT
  rw [h1, if_neg (fun e => h ⟨_, ho, e⟩)]

theorem Trc.keepH (T : Trc P cv ro base ops n D) {k : Nat} (hk : k < ops.length) (h : ¬ weff ops n D k) : curH D (k + 1) = curH D k := by
  have ho : ops[k]? = some (ops[k]) := List.getElem?_eq_getElem hk
  unfold curH
  cases T.step k _ ho with
  | no hw hs => rw [hs.c, hs.m]
  | eff hw he st d1 h1 hs e => exact absurd ⟨_, ho, he, hw⟩ h
  | alloc hw he ha v ob d1 h1 hs e => rw [e]; simp only [hs.c, hs.m]
  | pure hw he ha v hh d1 h1 hs e => rw [e]; simp only [hs.c, hs.m]

/-- An operation that may come next. -/
structure Next' (ops : List Oper) (S : Nat → Prop) (i : Nat) (o : Oper) : Prop where
  at_ : ops[i]? = some o
  new : ¬ S i
  edges : ∀ e ∈ o.after.toList, Region.binds .any e = true → S e.on

theorem Trc.later (T : Trc P cv ro base ops n D) {S : Nat → Prop} (hc : Closed ops S) {i : Nat} {o : Oper} (hn : Next' ops S i o) {j : Nat} {b : Oper} (hb : ops[j]? = some b) (hS : S j) (hij : i < j) :
    (∀ d, o.dst = some d → b.dst ≠ some d) ∧ (∀ d, b.dst = some d → d ∉ looksA ops o) ∧ ¬ (isEff o.op = true ∧ isEff b.op = true) := by
  rcases pair_spec (T.pairs i j o b hij hn.at_ hb) with h | ⟨h1, h2, h3, h4⟩
  · exact absurd (T.below hc j b hb (hc j b hb hS) i h) hn.new
  · exact ⟨h1, h3, h4⟩

theorem Trc.earlier (T : Trc P cv ro base ops n D) {S : Nat → Prop} (hc : Closed ops S) {i : Nat} {o : Oper} (hn : Next' ops S i o) {j : Nat} {b : Oper} (hb : ops[j]? = some b) (hij : j < i) :
    S j ∨ ((∀ d, b.dst = some d → d ∉ looksA ops o) ∧ ¬ (isEff b.op = true ∧ isEff o.op = true)) := by
  rcases pair_spec (T.pairs j i b o hij hb hn.at_) with h | ⟨h1, h2, h3, h4⟩
  · exact .inl (T.below hc i o hn.at_ hn.edges j h)
  · exact .inr ⟨h2, h4⟩

theorem Trc.seesT (T : Trc P cv ro base ops n D) {S : Nat → Prop} (hc : Closed ops S) {i : Nat} {o : Oper} (hn : Next' ops S i o) {τ : Nat} (hτ : τ ∈ looksA ops o) : lastAt S (wrT ops τ) (curT D τ) ops.length = curT D τ i := by
  have hlen := lt_len hn.at_
  rw [lastAt_later (K := i) _ (by omega), lastAt_text i]
  · intro k hk hw; exact T.keepT (by omega) hw
  · intro j hj ⟨b, hb, hd⟩
    rcases T.earlier hc hn hb hj with h | ⟨h, _⟩
    · exact h
    · exact absurd hτ (h τ hd)
  · intro j h1 h2 hS ⟨b, hb, hd⟩
    have hne : i ≠ j := fun e => hn.new (e ▸ hS)
    exact (T.later hc hn hb hS (by omega)).2.1 τ hd hτ

theorem Trc.seesH (T : Trc P cv ro base ops n D) {S : Nat → Prop} (hc : Closed ops S) {i : Nat} {o : Oper} (hn : Next' ops S i o) (he : isEff o.op = true) : lastAt S (weff ops n D) (curH D) ops.length = curH D i := by
  have hlen := lt_len hn.at_
  rw [lastAt_later (K := i) _ (by omega), lastAt_text i]
  · intro k hk hw; exact T.keepH (by omega) hw
  · intro j hj ⟨b, hb, hd, _⟩
    rcases T.earlier hc hn hb hj with h | ⟨_, h⟩
    · exact h
    · exact absurd ⟨hd, he⟩ h
  · intro j h1 h2 hS ⟨b, hb, hd, _⟩
    have hne : i ≠ j := fun e => hn.new (e ▸ hS)
    exact (T.later hc hn hb hS (by omega)).2.2 ⟨he, hd⟩

/-- The set with one more. -/
def more (S : Nat → Prop) (i : Nat) : Nat → Prop := fun j => S j ∨ j = i

theorem more_closed {S : Nat → Prop} (hc : Closed ops S) {i : Nat} {o : Oper} (hn : Next' ops S i o) : Closed ops (more S i) := by
  intro j b hb hS e he hbind
  rcases hS with hS | rfl
  · exact .inl (hc j b hb hS e he hbind)
  · rw [hn.at_] at hb; cases hb; exact .inl (hn.edges e he hbind)

theorem Trc.nextT (T : Trc P cv ro base ops n D) {S : Nat → Prop} (hc : Closed ops S) {i : Nat} {o : Oper} (hn : Next' ops S i o) {σ σ' : Sg} (hle : ∀ id p, σ id = some p → σ' id = some p) {a : Act} {v : AV} {x : Value}
    (ht : a.tmps.size = n ∧ ∀ τ, V σ (lastAt S (wrT ops τ) (curT D τ) ops.length) (a.tmps.getD τ undef)) (hset : ∀ τ, (D (i + 1)).t.get τ = if o.dst = some τ then some v else (D i).t.get τ) (hlt : ∀ k, o.dst = some k → k < n) (hV : ∀ k, o.dst = some k → V σ' v x) :
    (a.put o.dst x).tmps.size = n ∧ ∀ τ, V σ' (lastAt (more S i) (wrT ops τ) (curT D τ) ops.length) ((a.put o.dst x).tmps.getD τ undef) := by
  have hlen := lt_len hn.at_
  have key : ∀ τ, ((a.put o.dst x).tmps.getD τ undef) = if o.dst = some τ then x else a.tmps.getD τ undef := by
    intro τ
    cases hd : o.dst with
    | none => simp [Act.put]
    | some k =>
      have := hlt k hd
      have hsz := ht.1
      simp only [Act.put, Array.getD_eq_getD_getElem?, Array.getElem?_setIfInBounds, Option.some.injEq]
      by_cases e : k = τ
      · subst e
        have h3 : k < a.tmps.size := by rw [hsz]; exact this
        simp [h3]
      · rw [if_neg e, if_neg e]
  refine ⟨by cases o.dst <;> simp [Act.put, ht.1], fun τ => ?_⟩
  rw [key]
  by_cases hd : o.dst = some τ
  · rw [if_pos hd, lastAt_set hlen (.inr rfl) ⟨o, hn.at_, hd⟩]
    · unfold curT; rw [hset, if_pos hd]; exact hV τ hd
    · intro j hij hj hS ⟨b, hb, hd'⟩
      rcases hS with hS | rfl
      · exact (T.later hc hn hb hS hij).1 τ hd hd'
      · omega
  · rw [if_neg hd, lastAt_congr (S' := S)]
    · exact (ht.2 τ).mono hle
    · intro j hj ⟨b, hb, hd'⟩
      refine ⟨fun h => h.resolve_right fun e => ?_, .inl⟩
      subst e; rw [hn.at_] at hb; cases hb; exact hd hd'

theorem Trc.nextH (T : Trc P cv ro base ops n D) {S : Nat → Prop} {i : Nat} (h : ¬ weff ops n D i) : lastAt (more S i) (weff ops n D) (curH D) ops.length = lastAt S (weff ops n D) (curH D) ops.length :=
  lastAt_congr _ fun j _ hw => ⟨fun hh => hh.resolve_right fun e => h (e ▸ hw), .inl⟩

theorem Trc.nextE (T : Trc P cv ro base ops n D) {S : Nat → Prop} (hc : Closed ops S) {i : Nat} {o : Oper} (hn : Next' ops S i o) (hw : weff ops n D i) : lastAt (more S i) (weff ops n D) (curH D) ops.length = curH D (i + 1) := by
  refine lastAt_set (lt_len hn.at_) (.inr rfl) hw fun j hij hj hS ⟨b, hb, hd, _⟩ => ?_
  obtain ⟨o', ho', he, _⟩ := hw
  rw [hn.at_] at ho'; cases ho'
  rcases hS with hS | rfl
  · exact (T.later hc hn hb hS hij).2.2 ⟨he, hd⟩
  · omega

/-! ### The lists that the run keeps -/

structure Lists (P : Program) (base : Nat) (ops : List Oper) (n : Nat) (D : Nat → Dr) (k : Nat) : Prop where
  all : ∀ j ob, (j, ob) ∈ (D k).all → j < k ∧ ∃ o v, ops[j]? = some o ∧ isEff o.op = false ∧ isAlloc o.op = true ∧ wantedA ops (restr (D j).t (looksA ops o)) n o = some true ∧ allocA P (restr (D j).t (looksA ops o)) o.op (base + j) = some (v, ob)
  nodup : ((D k).all.map (·.1)).Nodup
  xs : (D k).xs = (D k).all.filter fun x => !(hasBit (D k).m x.1)
  m : ∀ j, hasBit (D k).m j = true → j < k
  cs : ∀ e M c, (e, M, c) ∈ (D k).cs → e < k ∧ ∃ o, ops[e]? = some o ∧ isEff o.op = true

theorem Trc.lists (T : Trc P cv ro base ops n D) : ∀ k, k ≤ ops.length → Lists P base ops n D k
  | 0, _ => ⟨by rw [T.all0]; simp, by rw [T.all0]; simp, by rw [T.all0, T.xs0]; rfl, (by rw [T.m0]; intro j hj; rw [hasBit_zero] at hj; cases hj), by rw [T.cs0]; simp⟩
  | k + 1, hk => by
    have ih := T.lists k (by omega)
    have ho : ops[k]? = some (ops[k]'(by omega)) := List.getElem?_eq_getElem _
    have old : ∀ j ob, (j, ob) ∈ (D k).all → j < k + 1 ∧ ∃ o v, ops[j]? = some o ∧ isEff o.op = false ∧ isAlloc o.op = true ∧ wantedA ops (restr (D j).t (looksA ops o)) n o = some true ∧ allocA P (restr (D j).t (looksA ops o)) o.op (base + j) = some (v, ob) :=
      fun j ob h => ⟨by have := (ih.all j ob h).1; omega, (ih.all j ob h).2⟩
    have oldcs : ∀ e M c, (e, M, c) ∈ (D k).cs → e < k + 1 ∧ ∃ o, ops[e]? = some o ∧ isEff o.op = true := fun e M c h => ⟨by have := (ih.cs e M c h).1; omega, (ih.cs e M c h).2⟩
    cases T.step k _ ho with
    | no hw hs =>
      refine ⟨?_, ?_, ?_, ?_, ?_⟩
      · rw [hs.all]; exact old
      · rw [hs.all]; exact ih.nodup
      · rw [hs.all, hs.xs, hs.m]; exact ih.xs
      · rw [hs.m]; intro j hj; have := ih.m j hj; omega
      · rw [hs.cs]; exact oldcs
    | pure hw he ha v hh d1 h1 hs e =>
      refine ⟨?_, ?_, ?_, ?_, ?_⟩ <;> rw [e] <;> simp only
      · rw [hs.all]; exact old
      · rw [hs.all]; exact ih.nodup
      · rw [hs.all, hs.xs, hs.m]; exact ih.xs
      · rw [hs.m]; intro j hj; have := ih.m j hj; omega
      · rw [hs.cs]; exact oldcs
    | alloc hw he ha v ob d1 h1 hs e =>
      refine ⟨?_, ?_, ?_, ?_, ?_⟩ <;> rw [e] <;> simp only
      · rw [hs.all]
        intro j x hx
        rcases List.mem_append.1 hx with hx | hx
        · exact old j x hx
        · simp only [List.mem_singleton, Prod.mk.injEq] at hx
          obtain ⟨rfl, rfl⟩ := hx
          exact ⟨by omega, _, v, ho, he, ha, hw, h1⟩
      · rw [hs.all, List.map_append, List.nodup_append]
        refine ⟨ih.nodup, by simp, ?_⟩
        intro a hma b hmb
        simp only [List.map_cons, List.map_nil, List.mem_singleton] at hmb
        obtain ⟨⟨j, x⟩, hx, rfl⟩ := List.mem_map.1 hma
        have := (ih.all j x hx).1
        simp only; omega
      · rw [hs.all, hs.xs, hs.m, List.filter_append, ← ih.xs]
        congr 1
        have : hasBit (D k).m k = false := by
          cases hb : hasBit (D k).m k
          · rfl
          · have := ih.m k hb; omega
        simp [this]
      · rw [hs.m]; intro j hj; have := ih.m j hj; omega
      · rw [hs.cs]; exact oldcs
    | eff hw he st d1 h1 hs e =>
      refine ⟨?_, ?_, ?_, ?_, ?_⟩ <;> rw [e] <;> simp only
      · rw [hs.all]; exact old
      · rw [hs.all]; exact ih.nodup
      · rw [hs.all, hs.xs, hs.m, ih.xs, List.filter_filter]
        congr 1
        funext x
        rw [hasBit_lor]
        cases hasBit (D k).m x.1 <;> cases hasBit ((masks ops []).getD k 0) x.1 <;> rfl
      · rw [hs.m]; intro j hj
        rw [hasBit_lor, Bool.or_eq_true] at hj
        rcases hj with hj | hj
        · have := ih.m j hj; omega
        · have := T.bit_lt k (by omega) j hj; omega
      · rw [hs.cs]
        intro e' M c hm
        rcases List.mem_append.1 hm with hm | hm
        · exact oldcs e' M c hm
        · simp only [List.mem_singleton, Prod.mk.injEq] at hm
          obtain ⟨rfl, _⟩ := hm
          exact ⟨by omega, _, ho, he⟩

theorem Trc.grow (T : Trc P cv ro base ops n D) : ∀ (l k : Nat), k + l ≤ ops.length → (∀ x ∈ (D k).all, x ∈ (D (k + l)).all) ∧ (∀ x ∈ (D k).reads, x ∈ (D (k + l)).reads)
  | 0, k, _ => ⟨fun x h => h, fun x h => h⟩
  | l + 1, k, hk => by
    have ih := T.grow l k (by omega)
    have ho : ops[k + l]? = some (ops[k + l]'(by omega)) := List.getElem?_eq_getElem _
    have : (∀ x ∈ (D (k + l)).all, x ∈ (D (k + l + 1)).all) ∧ (∀ x ∈ (D (k + l)).reads, x ∈ (D (k + l + 1)).reads) := by
      cases T.step (k + l) _ ho with
      | no hw hs => rw [hs.all, hs.reads]; exact ⟨fun x h => h, fun x h => h⟩
      | eff hw he st d1 h1 hs e => rw [e]; simp only [hs.all, hs.reads]; exact ⟨fun x h => h, fun x h => h⟩
      | alloc hw he ha v ob d1 h1 hs e => rw [e]; simp only [hs.all, hs.reads]; exact ⟨fun x h => List.mem_append_left _ h, fun x h => h⟩
      | pure hw he ha v hh d1 h1 hs e => rw [e]; simp only [hs.all, hs.reads]; exact ⟨fun x h => h, fun x h => List.mem_append_left _ h⟩
    exact ⟨fun x hx => this.1 x (ih.1 x hx), fun x hx => this.2 x (ih.2 x hx)⟩

theorem Trc.all_le (T : Trc P cv ro base ops n D) {k : Nat} (hk : k ≤ ops.length) : ∀ x ∈ (D k).all, x ∈ (D ops.length).all := by
  have := (T.grow (ops.length - k) k (by omega)).1
  rwa [show k + (ops.length - k) = ops.length by omega] at this

theorem Trc.reads_le (T : Trc P cv ro base ops n D) {k : Nat} (hk : k ≤ ops.length) : ∀ x ∈ (D k).reads, x ∈ (D ops.length).reads := by
  have := (T.grow (ops.length - k) k (by omega)).2
  rwa [show k + (ops.length - k) = ops.length by omega] at this

/-! ### Reads -/

def lastPh (m : Nat) (c : H) : List (Nat × Nat × H) → H × Nat
  | [] => (c, m)
  | (_, m', c') :: l => lastPh m' c' l

theorem lastPh_append (m : Nat) (c : H) : ∀ (l : List (Nat × Nat × H)) (x : Nat × Nat × H), lastPh m c (l ++ [x]) = (x.2.2, x.2.1)
  | [], x => rfl
  | y :: l, x => lastPh_append _ _ l x

theorem readOk_spec {ms : List Nat} {all : List (Nat × AO)} {i : Nat} {t : Tr AV} {op : Op} {v : AV} : ∀ (l1 l2 : List (Nat × Nat × H)) (done : List Nat) (m : Nat) (c : H), readOk P base ms all i t op v done m c (l1 ++ l2) = true →
    (∀ e ∈ done, hasBit (ms.getD e 0) i = false) → (∀ x ∈ l1, hasBit (ms.getD x.1 0) i = false) → (∀ x ∈ l2, hasBit (ms.getD i 0) x.1 = false) →
    ∃ h', opA P t (addX base (ms.getD i 0) (all.filter fun x => !(hasBit (lastPh m c l1).2 x.1)) (lastPh m c l1).1) op = some [(some v, h')]
  | [], l2, done, m, c, h, h1, h2, h3 => by
    unfold readOk at h
    rw [Bool.and_eq_true] at h
    have hm : mayRun ms i done (l2.map (·.1)) = true := by
      unfold mayRun
      rw [Bool.and_eq_true]
      refine ⟨List.all_eq_true.2 fun e he => by rw [h1 e he]; rfl, List.all_eq_true.2 fun e he => ?_⟩
      obtain ⟨x, hx, rfl⟩ := List.mem_map.1 he
      rw [h3 x hx]; rfl
    have h := h.1
    rw [List.nil_append, hm] at h
    simp only [Bool.not_true, Bool.false_or] at h
    split at h
    · rename_i v' h' ho
      have := eqTop_eq _ _ _ h
      subst this
      exact ⟨h', ho⟩
    · cases h
  | (e, m', c') :: l1, l2, done, m, c, h, h1, h2, h3 => by
    unfold readOk at h
    rw [Bool.and_eq_true] at h
    exact readOk_spec l1 l2 (e :: done) m' c' h.2 (fun e' he' => by
      rcases List.mem_cons.1 he' with rfl | he'
      · exact h2 _ (List.mem_cons_self ..)
      · exact h1 e' he') (fun x hx => h2 x (List.mem_cons_of_mem _ hx)) h3

/-- The effects that have run are the first ones. -/
theorem Trc.split (T : Trc P cv ro base ops n D) {S : Nat → Prop} (hc : Closed ops S) : ∀ k, k ≤ ops.length → ∃ l1 l2, (D k).cs = l1 ++ l2 ∧ (∀ x ∈ l1, S x.1) ∧ (∀ x ∈ l2, ¬ S x.1) ∧ lastAt S (weff ops n D) (curH D) k = lastPh (D 0).m (D 0).c l1
  | 0, _ => ⟨[], [], by rw [T.cs0]; rfl, by simp, by simp, rfl⟩
  | k + 1, hk => by
    obtain ⟨l1, l2, e1, e2, e3, e4⟩ := T.split hc k (by omega)
    have ho : ops[k]? = some (ops[k]'(by omega)) := List.getElem?_eq_getElem _
    have hL := T.lists k (by omega)
    have keep : ¬ weff ops n D k → (D (k + 1)).cs = (D k).cs → ∃ l1 l2, (D (k + 1)).cs = l1 ++ l2 ∧ (∀ x ∈ l1, S x.1) ∧ (∀ x ∈ l2, ¬ S x.1) ∧ lastAt S (weff ops n D) (curH D) (k + 1) = lastPh (D 0).m (D 0).c l1 := by
      intro hw hcs
      refine ⟨l1, l2, by rw [hcs, e1], e2, e3, ?_⟩
      unfold lastAt
      rw [if_neg (fun h => hw h.2), e4]
    cases T.step k _ ho with
    | no hw hs => exact keep (fun ⟨o, h1, h2, h3⟩ => by rw [ho] at h1; cases h1; rw [hw] at h3; cases h3) hs.cs
    | alloc hw he ha v ob d1 h1 hs e => exact keep (fun ⟨o, g1, g2, g3⟩ => by rw [ho] at g1; cases g1; rw [he] at g2; cases g2) (by rw [e]; exact hs.cs)
    | pure hw he ha v hh d1 h1 hs e => exact keep (fun ⟨o, g1, g2, g3⟩ => by rw [ho] at g1; cases g1; rw [he] at g2; cases g2) (by rw [e]; exact hs.cs)
    | eff hw he st d1 h1 hs e =>
      have hweff : weff ops n D k := ⟨_, ho, he, hw⟩
      have hcur : curH D (k + 1) = (st.h, Nat.lor d1.m ((masks ops []).getD k 0)) := by unfold curH; rw [e]
      by_cases hS : S k
      · refine ⟨(D k).cs ++ [(k, Nat.lor d1.m ((masks ops []).getD k 0), st.h)], [], ?_, ?_, by simp, ?_⟩
        · rw [e]; simp only [hs.cs, List.append_nil]
        · intro x hx
          rcases List.mem_append.1 hx with hx | hx
          · obtain ⟨ex, Mx, cx⟩ := x
            obtain ⟨hlt, o', ho', he'⟩ := hL.cs ex Mx cx hx
            rcases pair_spec (T.pairs ex k o' _ hlt ho' ho) with h | ⟨_, _, _, h4⟩
            · exact T.below hc k _ ho (hc k _ ho hS) ex h
            · exact absurd ⟨he', he⟩ h4
          · rw [List.mem_singleton.1 hx]; exact hS
        · unfold lastAt
          rw [if_pos ⟨hS, hweff⟩, hcur, lastPh_append]
      · refine ⟨l1, l2 ++ [(k, Nat.lor d1.m ((masks ops []).getD k 0), st.h)], ?_, e2, ?_, ?_⟩
        · rw [e]; simp only [hs.cs]; rw [e1, List.append_assoc]
        · intro x hx
          rcases List.mem_append.1 hx with hx | hx
          · exact e3 x hx
          · rw [List.mem_singleton.1 hx]; exact hS
        · unfold lastAt
          rw [if_neg (fun h => hS h.1), e4]

end
end Go.Ev

/- A region that draws its order: every order leads to the same. No conditions beyond those that each theorem states. -/
namespace Go.Ev

theorem Ext.shrink {σ σ' : Sg} {h c : H} {w w' : World} (hE : Ext σ σ' h h w w') (hn : c.next = h.next) (hl : c.low = h.low) (hs : ∀ j o, c.objs.get j = some o → h.objs.get j = some o) (hb : ∀ j, j < c.low → c.objs.get j = h.objs.get j) : Ext σ σ' h c w w' :=
  ⟨hE.le, by omega, hE.size, hE.os, hE.tape, hE.output, fun id o p ho hp => hE.rng id o p (hs _ _ ho) hp, hE.frame, by omega, fun id h1 _ => hb id h1, hE.old, fun id cs f ho => hE.fams id cs f (hs _ _ ho)⟩

section
variable {P : Program} {cv : CV} {ro : Option Nat} {base : Nat} {ops : List Oper} {n : Nat} {D : Nat → Dr}

/-- What holds after the operations of S, in whatever order they have run. -/
structure Inv (base : Nat) (ops : List Oper) (n : Nat) (D : Nat → Dr) (σ0 : Sg) (hs : H) (w0 : World) (ds : List Deferred) (S : Nat → Prop) (c : H) (M : Nat) (σ : Sg) (a : Act) (w : World) : Prop where
  ph : lastAt S (weff ops n D) (curH D) ops.length = (c, M)
  tm : a.tmps.size = n ∧ ∀ τ, V σ (lastAt S (wrT ops τ) (curT D τ) ops.length) (a.tmps.getD τ undef)
  df : a.defers = ds
  hr : HR σ c w
  ex : Ext σ0 σ hs c w0 w
  xt : ∀ i ob, (i, ob) ∈ (D ops.length).all → S i → hasBit M i = false → ∃ p, σ (base + i) = some p ∧ OR σ ob p w.heap[p.b]? ∧ w0.heap.size ≤ p.b ∧ ∀ j x q, c.objs.get j = some x → σ j = some q → q.b ≠ p.b
  xd : ∀ i j oi oj p q, (i, oi) ∈ (D ops.length).all → (j, oj) ∈ (D ops.length).all → S i → S j → hasBit M i = false → hasBit M j = false → i ≠ j → σ (base + i) = some p → σ (base + j) = some q → p.b ≠ q.b
  fr : ∀ i, i < ops.length → ¬ S i → σ (base + i) = none
  fm : ∀ j cs f, c.objs.get j = some (.cells cs f) → ∀ i, i < ops.length → hasBit M i = false → f ≠ base + i
  mb : ∀ i, hasBit M i = true → S i
  nx : base + ops.length ≤ c.next
  cl : Closed ops S
  hn : hs.next = base
  hl : hs.low ≤ base

variable {σ0 : Sg} {hs : H} {w0 : World} {ds : List Deferred} {S : Nat → Prop} {c : H} {M : Nat} {σ : Sg} {a : Act} {w : World}

theorem Inv.low (I : Inv base ops n D σ0 hs w0 ds S c M σ a w) : c.low ≤ base := Nat.le_trans I.ex.low I.hl

theorem Inv.beside (I : Inv base ops n D σ0 hs w0 ds S c M σ a w) (T : Trc P cv ro base ops n D) {i : Nat} {ob : AO} (hm : (i, ob) ∈ (D ops.length).all) (hS : S i) (hM : hasBit M i = false) : ∃ p, Beside σ c w base i ob p ∧ w0.heap.size ≤ p.b := by
  obtain ⟨p, h1, h2, h3, h4⟩ := I.xt i ob hm hS hM
  obtain ⟨hlt, o, v, g1, g2, g3, g4, g5⟩ := (T.lists ops.length (Nat.le_refl _)).all i ob hm
  have := I.nx
  exact ⟨p, ⟨h1, h2, h4, fun j cs hj => I.fm j cs _ hj i hlt hM rfl, allocA_fam g5, by omega⟩, h3⟩

/-- The heap that an operation is run on: the heap of the phase, with what lies beside it. -/
structure Seen (base : Nat) (ops : List Oper) (D : Nat → Dr) (S : Nat → Prop) (c : H) (M m : Nat) (w0 : World) (σ : Sg) (w : World) (h : H) : Prop where
  hr : HR σ h w
  next : h.next = c.next
  low : h.low = c.low
  mem : ∀ j x, h.objs.get j = some x → c.objs.get j = some x ∨ ∃ i, j = base + i ∧ (i, x) ∈ (D ops.length).all ∧ S i ∧ hasBit M i = false ∧ hasBit m i = true
  sup : ∀ j x, c.objs.get j = some x → h.objs.get j = some x
  below : ∀ j, j < base → h.objs.get j = c.objs.get j

theorem Inv.seen (I : Inv base ops n D σ0 hs w0 ds S c M σ a w) (T : Trc P cv ro base ops n D) {m : Nat} {X : List (Nat × AO)} (hnd : (X.map (·.1)).Nodup) (hX : ∀ i ob, (i, ob) ∈ X → hasBit m i = true → (i, ob) ∈ (D ops.length).all ∧ hasBit M i = false ∧ S i) :
    Seen base ops D S c M m w0 σ w (addX base m X c) := by
  refine ⟨?_, addX_next _ _ _ _, addX_low _ _ _ _, ?_, ?_, ?_⟩
  · refine addX_HR X c I.hr hnd ?_ ?_
    · intro i o hm hb
      obtain ⟨h1, h2, h3⟩ := hX i o hm hb
      obtain ⟨p, hp, _⟩ := I.beside T h1 h3 h2
      exact ⟨p, hp⟩
    · intro i j o o' p q hi hj bi bj hij hp hq
      obtain ⟨h1, h2, h3⟩ := hX i o hi bi
      obtain ⟨k1, k2, k3⟩ := hX j o' hj bj
      exact I.xd i j o o' p q h1 k1 h3 k3 h2 k2 hij hp hq
  · intro j x hx
    rcases addX_mem base m X c j x hx with ⟨h1, _⟩ | ⟨i, h1, h2, h3⟩
    · exact .inl h1
    · obtain ⟨k1, k2, k3⟩ := hX i x h2 h3
      exact .inr ⟨i, h1, k1, k3, k2, h3⟩
  · intro j x hx
    rw [addX_other base m X c j]
    · exact hx
    · intro i o hm hb e
      subst e
      obtain ⟨h1, h2, h3⟩ := hX i o hm hb
      obtain ⟨p, hp, _⟩ := I.beside T h1 h3 h2
      exact hp.own _ _ _ hx hp.pl rfl
  · intro j hj
    exact addX_other base m X c j fun i o _ _ => by omega

/-- The blocks of what is seen. -/
theorem Inv.seen_rng (I : Inv base ops n D σ0 hs w0 ds S c M σ a w) (T : Trc P cv ro base ops n D) {m : Nat} {h : H} (hS : Seen base ops D S c M m w0 σ w h) {j : Nat} {x : AO} {p : Plc} (hx : h.objs.get j = some x) (hp : σ j = some p) :
    w0.heap.size ≤ p.b ∨ ∃ i o q, hs.objs.get i = some o ∧ σ0 i = some q ∧ q.b = p.b ∧ (OwnO x → OwnO o) := by
  rcases hS.mem j x hx with h1 | ⟨i, rfl, h2, h3, h4, _⟩
  · exact I.ex.rng j x p h1 hp
  · obtain ⟨q, hq, hle⟩ := I.beside T h2 h3 h4
    have := hq.pl
    rw [hp] at this; cases this
    exact .inl hle

theorem Inv.step_ext (I : Inv base ops n D σ0 hs w0 ds S c M σ a w) (T : Trc P cv ro base ops n D) {m : Nat} {h c' : H} (hS : Seen base ops D S c M m w0 σ w h) {σ' : Sg} {w' : World} (hE : Ext σ σ' h c' w w') : Ext σ0 σ' hs c' w0 w' where
  le := fun id p hp => hE.le _ _ (I.ex.le _ _ hp)
  next := by have := I.ex.next; have := hE.next; have := hS.next; omega
  size := Nat.le_trans I.ex.size hE.size
  os := hE.os.trans I.ex.os
  tape := hE.tape.trans I.ex.tape
  output := hE.output.trans I.ex.output
  rng := by
    intro id o p ho hp
    rcases hE.rng id o p ho hp with h1 | ⟨i, o', q, h1, h2, h3, g3⟩
    · exact .inl (Nat.le_trans I.ex.size h1)
    · rcases I.seen_rng T hS h1 h2 with h4 | ⟨j, o'', r, h4, h5, h6, g6⟩
      · exact .inl (by omega)
      · exact .inr ⟨j, o'', r, h4, h5, by omega, fun h => g6 (g3 h)⟩
  frame := by
    intro b hb hn
    rw [hE.frame b (Nat.lt_of_lt_of_le hb I.ex.size), I.ex.frame b hb hn]
    intro id o p ho hw hp e
    rcases I.seen_rng T hS ho hp with h1 | ⟨i, o', q, h1, h2, h3, g3⟩
    · omega
    · exact hn i o' q h1 (g3 hw) h2 (by omega)
  low := by have := I.ex.low; have := hE.low; have := hS.low; omega
  same := by
    intro id h1 h2
    have h3 := I.hn
    have h4 := I.nx
    have h5 := hS.next
    have h6 := hE.low
    have h7 := hS.low
    rw [hE.same id h1 (by omega), hS.below id (by omega), I.ex.same id (by omega) h2]
  old := by
    intro id h1 h2
    have h3 := I.hn
    have h4 := I.nx
    have h5 := hS.next
    exact hE.old id (by omega) (I.ex.old id h1 h2)
  fams := by
    intro id cs f ho
    have h3 := I.hn
    have h4 := I.nx
    have h5 := hS.next
    rcases hE.fams id cs f ho with h1 | ⟨i, cs', h1⟩
    · exact .inl (by omega)
    · rcases hS.mem i _ h1 with h2 | ⟨k, _, h6, h7, h8, _⟩
      · exact I.ex.fams i cs' f h2
      · obtain ⟨p, hp, _⟩ := I.beside T h6 h7 h8
        have := hp.ofam _ _ rfl
        exact .inl (by omega)

/-- A thing that lies beside and is not seen stays as it is. -/
theorem Inv.unseen (I : Inv base ops n D σ0 hs w0 ds S c M σ a w) (T : Trc P cv ro base ops n D) {m : Nat} {h c' : H} (hS : Seen base ops D S c M m w0 σ w h) {σ' : Sg} {w' : World} (hE : Ext σ σ' h c' w w') {i : Nat} {ob : AO} {p : Plc}
    (hm : (i, ob) ∈ (D ops.length).all) (hSi : S i) (hM : hasBit M i = false) (hmi : hasBit m i = false) (hp : σ (base + i) = some p) : OR σ' ob p w'.heap[p.b]? ∧ p.b < w.heap.size ∧ ∀ j x q, h.objs.get j = some x → σ j = some q → q.b ≠ p.b := by
  obtain ⟨p', h1, h2, h3, h4⟩ := I.xt i ob hm hSi hM
  rw [hp] at h1; cases h1
  have hlt := lt_of_get h2.some
  have hne : ∀ j x q, h.objs.get j = some x → σ j = some q → q.b ≠ p.b := by
    intro j x q hx hq
    rcases hS.mem j x hx with k1 | ⟨k, rfl, k2, k3, k4, k5⟩
    · exact h4 j x q k1 hq
    · have hki : k ≠ i := fun e => by subst e; rw [hmi] at k5; cases k5
      exact I.xd k i x ob q p k2 hm k3 hSi k4 hM hki hq hp
  refine ⟨?_, hlt, hne⟩
  rw [hE.frame p.b hlt fun j x q hx _ hq => hne j x q hx hq]
  exact h2.mono hE.le

theorem Inv.all_ne (T : Trc P cv ro base ops n D) {i : Nat} {o : Oper} (ho : ops[i]? = some o) (h : isEff o.op = true ∨ isAlloc o.op = false ∨ wantedA ops (restr (D i).t (looksA ops o)) n o = some false) {j : Nat} {ob : AO} (hm : (j, ob) ∈ (D ops.length).all) : j ≠ i := by
  intro e
  subst e
  obtain ⟨_, o', v, g1, g2, g3, g4, g5⟩ := (T.lists ops.length (Nat.le_refl _)).all j ob hm
  rw [ho] at g1; cases g1
  rcases h with h | h | h
  · rw [h] at g2; cases g2
  · rw [h] at g3; cases g3
  · rw [h] at g4; cases g4

/-- One more operation that leaves the heap of the phase as it is. -/
theorem Inv.quiet (I : Inv base ops n D σ0 hs w0 ds S c M σ a w) (T : Trc P cv ro base ops n D) {i : Nat} {o : Oper} (hn : Next' ops S i o) (hne : ∀ j ob, (j, ob) ∈ (D ops.length).all → j ≠ i) (hw : ¬ weff ops n D i)
    {m : Nat} {h : H} (hS : Seen base ops D S c M m w0 σ w h) (hadd : ∀ j ob, (j, ob) ∈ (D ops.length).all → hasBit m j = true → hasBit M j = false → S j → h.objs.get (base + j) = some ob)
    {σ' : Sg} {w' : World} (hr : HR σ' h w') (hE : Ext σ σ' h h w w') {v : AV} {x : Value} (hset : ∀ τ, (D (i + 1)).t.get τ = if o.dst = some τ then some v else (D i).t.get τ) (hlt : ∀ k, o.dst = some k → k < n) (hV : ∀ k, o.dst = some k → V σ' v x) :
    Inv base ops n D σ0 hs w0 ds (more S i) c M σ' (a.put o.dst x) w' := by
  have hold : ∀ j ob, (j, ob) ∈ (D ops.length).all → more S i j → S j := fun j ob hm h => h.resolve_right (hne j ob hm)
  have hc : ∀ j x q, c.objs.get j = some x → σ' j = some q → σ j = some q := by
    intro j x q hx hq
    obtain ⟨p, hp, _⟩ := I.hr.obj j x hx
    have := hE.le _ _ hp
    rw [this] at hq; cases hq; exact hp
  refine ⟨?_, T.nextT I.cl hn hE.le I.tm hset hlt hV, by rw [put_defers]; exact I.df, hr.sub I.hr hS.next hS.sup, ?_, ?_, ?_, ?_, I.fm, fun j hj => .inl (I.mb j hj), I.nx, more_closed I.cl hn, I.hn, I.hl⟩
  · rw [T.nextH hw]; exact I.ph
  · exact I.step_ext T hS (hE.shrink hS.next.symm hS.low.symm hS.sup fun j hj => (hS.below j (by have := I.low; omega)).symm)
  · intro j ob hm hSj hM
    have hSj := hold j ob hm hSj
    obtain ⟨p, h1, h2, h3, h4⟩ := I.xt j ob hm hSj hM
    refine ⟨p, hE.le _ _ h1, ?_, h3, fun k y q hy hq => h4 k y q hy (hc k y q hy hq)⟩
    cases hmj : hasBit m j
    · exact (I.unseen T hS hE hm hSj hM hmj h1).1
    · obtain ⟨p', hp', hor⟩ := hr.obj _ _ (hadd j ob hm hmj hM hSj)
      rw [hE.le _ _ h1] at hp'; cases hp'
      exact hor
  · intro k j ok oj p q hk hj hSk hSj hMk hMj hkj hp hq
    have hSk := hold k ok hk hSk
    have hSj := hold j oj hj hSj
    obtain ⟨p', h1, _⟩ := I.xt k ok hk hSk hMk
    obtain ⟨q', h2, _⟩ := I.xt j oj hj hSj hMj
    have e1 := hE.le _ _ h1; rw [hp] at e1; cases e1
    have e2 := hE.le _ _ h2; rw [hq] at e2; cases e2
    exact I.xd k j ok oj _ _ hk hj hSk hSj hMk hMj hkj h1 h2
  · intro j hj hSj
    have h1 := I.fr j hj (fun h => hSj (.inl h))
    exact hE.old _ (by have := I.nx; have := hS.next; omega) h1

/-- One more effect. -/
theorem Inv.effect (I : Inv base ops n D σ0 hs w0 ds S c M σ a w) (T : Trc P cv ro base ops n D) {i : Nat} {o : Oper} (hn : Next' ops S i o) (he : isEff o.op = true) (hw : weff ops n D i)
    {h c' : H} (hS : Seen base ops D S c M (mkM ops i) w0 σ w h) {M' : Nat} (hM' : M' = Nat.lor M (mkM ops i)) (hcur : curH D (i + 1) = (c', M'))
    {σ' : Sg} {w' : World} (hr : HR σ' c' w') (hE : Ext σ σ' h c' w w') {v : AV} {x : Value} (hset : ∀ τ, (D (i + 1)).t.get τ = if o.dst = some τ then some v else (D i).t.get τ) (hlt : ∀ k, o.dst = some k → k < n) (hV : ∀ k, o.dst = some k → V σ' v x) :
    Inv base ops n D σ0 hs w0 ds (more S i) c' M' σ' (a.put o.dst x) w' := by
  have hne : ∀ j ob, (j, ob) ∈ (D ops.length).all → j ≠ i := fun j ob hm => Inv.all_ne T hn.at_ (.inl he) hm
  have hold : ∀ j ob, (j, ob) ∈ (D ops.length).all → more S i j → S j := fun j ob hm h => h.resolve_right (hne j ob hm)
  have hbits : ∀ j, hasBit M' j = false → hasBit M j = false ∧ hasBit (mkM ops i) j = false := by
    intro j hj
    rw [hM', hasBit_lor, Bool.or_eq_false_iff] at hj
    exact hj
  refine ⟨?_, T.nextT I.cl hn hE.le I.tm hset hlt hV, by rw [put_defers]; exact I.df, hr, I.step_ext T hS hE, ?_, ?_, ?_, ?_, ?_, ?_, more_closed I.cl hn, I.hn, I.hl⟩
  · rw [T.nextE I.cl hn hw]; exact hcur
  · intro j ob hm hSj hM
    have hSj := hold j ob hm hSj
    obtain ⟨b1, b2⟩ := hbits j hM
    obtain ⟨p, h1, h2, h3, h4⟩ := I.xt j ob hm hSj b1
    obtain ⟨k1, k2, k3⟩ := I.unseen T hS hE hm hSj b1 b2 h1
    refine ⟨p, hE.le _ _ h1, k1, h3, ?_⟩
    intro k y q hy hq
    rcases hE.rng k y q hy hq with e | ⟨k', o', q', e1, e2, e3, _⟩
    · omega
    · have := k3 k' o' q' e1 e2; omega
  · intro k j ok oj p q hk hj hSk hSj hMk hMj hkj hp hq
    have hSk := hold k ok hk hSk
    have hSj := hold j oj hj hSj
    obtain ⟨p', h1, _⟩ := I.xt k ok hk hSk (hbits k hMk).1
    obtain ⟨q', h2, _⟩ := I.xt j oj hj hSj (hbits j hMj).1
    have e1 := hE.le _ _ h1; rw [hp] at e1; cases e1
    have e2 := hE.le _ _ h2; rw [hq] at e2; cases e2
    exact I.xd k j ok oj _ _ hk hj hSk hSj (hbits k hMk).1 (hbits j hMj).1 hkj h1 h2
  · intro j hj hSj
    have h1 := I.fr j hj (fun h => hSj (.inl h))
    exact hE.old _ (by have := I.nx; have := hS.next; omega) h1
  · intro j cs f hj k hk hMk
    obtain ⟨b1, b2⟩ := hbits k hMk
    have h4 := I.nx
    have h5 := hS.next
    rcases hE.fams j cs f hj with h1 | ⟨j', cs', h1⟩
    · omega
    · rcases hS.mem j' _ h1 with h2 | ⟨i', _, h6, h7, h8, h9⟩
      · exact I.fm j' cs' f h2 k hk b1
      · obtain ⟨p, hp, _⟩ := I.beside T h6 h7 h8
        have := hp.ofam _ _ rfl
        have hki : i' ≠ k := fun e => by subst e; rw [b2] at h9; cases h9
        omega
  · intro j hj
    rw [hM', hasBit_lor, Bool.or_eq_true] at hj
    rcases hj with hj | hj
    · exact .inl (I.mb j hj)
    · exact .inl (T.below I.cl i o hn.at_ hn.edges j hj)
  · have := I.nx; have := hS.next; have := hE.next; omega

/-- One more new object. -/
theorem Inv.laid (I : Inv base ops n D σ0 hs w0 ds S c M σ a w) (T : Trc P cv ro base ops n D) {i : Nat} {o : Oper} (hn : Next' ops S i o) (hw : ¬ weff ops n D i) {ob : AO} (hob : ∀ ob', (i, ob') ∈ (D ops.length).all → ob' = ob)
    {σ' : Sg} {w' : World} {q : Plc} (hσ : σ' = up σ (base + i) q) (hq : w.heap.size ≤ q.b) (hr : HR σ' (c.lay (base + i) ob) w') (hE : Ext σ σ' { c with next := base + i } (c.lay (base + i) ob) w w')
    {v : AV} {x : Value} (hset : ∀ τ, (D (i + 1)).t.get τ = if o.dst = some τ then some v else (D i).t.get τ) (hlt : ∀ k, o.dst = some k → k < n) (hV : ∀ k, o.dst = some k → V σ' v x) :
    Inv base ops n D σ0 hs w0 ds (more S i) c M σ' (a.put o.dst x) w' := by
  have hlen := lt_len hn.at_
  have hnone := I.fr i hlen hn.new
  have hcne : ∀ j x, c.objs.get j = some x → j ≠ base + i := by
    intro j x hx e
    obtain ⟨p, hp, _⟩ := I.hr.obj j x hx
    rw [e, hnone] at hp; cases hp
  have hother : ∀ j, j ≠ base + i → σ' j = σ j := by
    intro j hj; rw [hσ]; simp [up, hj]
  have hself : σ' (base + i) = some q := by rw [hσ]; exact up_same _ _ _
  have hfr : ∀ b, b < w.heap.size → (∀ id o p, c.objs.get id = some o → OwnO o → σ id = some p → p.b ≠ b) → w'.heap[b]? = w.heap[b]? := hE.frame
  have E0 := I.ex
  refine ⟨?_, T.nextT I.cl hn hE.le I.tm hset hlt hV, by rw [put_defers]; exact I.df, ?_, ?_, ?_, ?_, ?_, I.fm, fun j hj => .inl (I.mb j hj), I.nx, more_closed I.cl hn, I.hn, I.hl⟩
  · rw [T.nextH hw]; exact I.ph
  · exact hr.sub I.hr (lay_next _ _ _) fun j x hx => by rw [lay_get, if_neg (hcne j x hx)]; exact hx
  · refine ⟨fun id p hp => hE.le _ _ (E0.le _ _ hp), E0.next, Nat.le_trans E0.size hE.size, hE.os.trans E0.os, hE.tape.trans E0.tape, hE.output.trans E0.output, ?_, ?_, E0.low, E0.same, ?_, E0.fams⟩
    · intro id x p hx hp
      rw [hother id (hcne id x hx)] at hp
      exact E0.rng id x p hx hp
    · intro b hb hne
      rw [hfr b (Nat.lt_of_lt_of_le hb E0.size), E0.frame b hb hne]
      intro id x p hx hw hp e
      rcases E0.rng id x p hx hp with h1 | ⟨k, o', r, h1, h2, h3, g3⟩
      · omega
      · exact hne k o' r h1 (g3 hw) h2 (by omega)
    · intro id h1 h2
      have := I.hn
      rw [hother id (by omega)]; exact E0.old id h1 h2
  · intro j x hm hSj hM
    by_cases e : j = i
    · subst e
      have := hob x hm; subst this
      refine ⟨q, hself, ?_, Nat.le_trans E0.size hq, ?_⟩
      · obtain ⟨p, hp, hor⟩ := hr.obj (base + j) x (by rw [lay_get, if_pos rfl])
        rw [hself] at hp; cases hp; exact hor
      · intro k y r hy hr'
        rw [hother k (hcne k y hy)] at hr'
        have := I.hr.lt hy hr'
        omega
    · have hSj : S j := hSj.resolve_right e
      obtain ⟨p, h1, h2, h3, h4⟩ := I.xt j x hm hSj hM
      have hpl := lt_of_get h2.some
      refine ⟨p, by rw [hother _ (by omega)]; exact h1, ?_, h3, ?_⟩
      · rw [hfr p.b hpl fun id y r hy _ hr' => h4 id y r hy hr']
        exact h2.mono hE.le
      · intro k y r hy hr'
        rw [hother k (hcne k y hy)] at hr'
        exact h4 k y r hy hr'
  · intro k j ok oj p r hk hj hSk hSj hMk hMj hkj hp hr'
    have hlt : ∀ j oj r, (j, oj) ∈ (D ops.length).all → S j → hasBit M j = false → σ (base + j) = some r → r.b < w.heap.size := by
      intro j oj r hm hS hM hr
      obtain ⟨p, h1, h2, _⟩ := I.xt j oj hm hS hM
      rw [hr] at h1; cases h1
      exact lt_of_get h2.some
    by_cases e1 : k = i
    · subst e1
      rw [hself] at hp; cases hp
      rw [hother _ (by omega)] at hr'
      have := hlt j oj r hj (hSj.resolve_right (fun e => hkj e.symm)) hMj hr'
      omega
    · rw [hother _ (by omega)] at hp
      by_cases e2 : j = i
      · subst e2
        rw [hself] at hr'; cases hr'
        have := hlt k ok p hk (hSk.resolve_right e1) hMk hp
        omega
      · rw [hother _ (by omega)] at hr'
        exact I.xd k j ok oj p r hk hj (hSk.resolve_right e1) (hSj.resolve_right e2) hMk hMj hkj hp hr'
  · intro j hj hSj
    have hji : j ≠ i := fun e => hSj (.inr e)
    rw [hother _ (by omega)]
    exact I.fr j hj (fun h => hSj (.inl h))

end
end Go.Ev

/- A region that draws its order: sound. No conditions beyond those that each theorem states. -/
namespace Go.Ev

theorem addX_get (base m : Nat) : ∀ (xs : List (Nat × AO)) (h : H) (i : Nat) (o : AO), (xs.map (·.1)).Nodup → (i, o) ∈ xs → hasBit m i = true → (addX base m xs h).objs.get (base + i) = some o
  | [], h, i, o, _, hm, _ => by simp at hm
  | (k, x) :: xs, h, i, o, hnd, hm, hb => by
    rw [List.map_cons, List.nodup_cons] at hnd
    unfold addX
    rcases List.mem_cons.1 hm with e | hm
    · cases e
      rw [hb, cond_tt, addX_other, lay_get, if_pos rfl]
      intro i' o' hm' _ e
      have he : i' = k := by omega
      subst he
      exact hnd.1 (List.mem_map.2 ⟨_, hm', rfl⟩)
    · exact addX_get base m xs _ i o hnd.2 hm hb

section
variable {P : Program} {cv : CV} {ro : Option Nat} {base : Nat} {ops : Array Oper} {n : Nat} {D : Nat → Dr}
variable {σ0 : Sg} {hs : H} {w0 : World} {ds : List Deferred} {S : Nat → Prop} {c : H} {M : Nat} {σ : Sg} {a : Act} {w : World}

theorem Inv.cutTR (I : Inv base ops.toList n D σ0 hs w0 ds S c M σ a w) (T : Trc P cv ro base ops.toList n D) {i : Nat} {o : Oper} (hn : Next' ops.toList S i o) : TR σ (restr (D i).t (looksA ops.toList o)) n (cut a (looksA ops.toList o)).tmps := by
  refine ⟨by rw [cut_size]; exact I.tm.1, fun j => ?_⟩
  rw [restr_get]
  by_cases hj : j ∈ looksA ops.toList o
  · rw [if_pos hj]
    have h1 := I.tm.2 j
    rw [T.seesT I.cl hn hj] at h1
    rw [Array.getD_eq_getD_getElem?, cut_at a _ hj, ← Array.getD_eq_getD_getElem?]
    exact h1
  · rw [if_neg hj, cut_none a _ hj]
    exact V.und

theorem Inv.op (hcv : CVok P cv) (I : Inv base ops.toList n D σ0 hs w0 ds S c M σ a w) (T : Trc P cv ro base ops.toList n D)
    (hreads : (D ops.toList.length).reads.all (fun (i, t, op, v) => readOk P base (masks ops.toList []) (D ops.toList.length).all i t op v [] 0 (D 0).c (D ops.toList.length).cs) = true)
    {F : Fence} {nn : Nat} (hF0 : FOf σ0 ro F) {i : Nat} {o : Oper} (hn : Next' ops.toList S i o) {K : Act → World → Prop} {Q : Exit → Act → World → Prop}
    (hK : ∀ c' M' σ' a' w', Inv base ops.toList n D σ0 hs w0 ds (more S i) c' M' σ' a' w' → K a' w') : wpOpIn F nn P ops Q i K a w := by
  have hF := hF0.mono I.ex.le
  have hoi : ops[i]? = some o := by rw [← Array.getElem?_toList]; exact hn.at_
  have hTR := I.cutTR T hn
  have hcw := cut_wanted (ops := ops) (o := o) a
  have hdef := T.nodefer hn.at_
  have hL := T.lists ops.toList.length (Nat.le_refl _)
  have hlen := lt_len hn.at_
  unfold wpOpIn
  simp only [hoi]
  have hplain : ∀ (x : Value) (w' : World), (execOp (cut a (looksA ops.toList o)).eval o).run P w = .ok (.value x) w' → (∀ cs b, o.op ≠ .select cs b) → K (a.put o.dst x) w' → o.wpIn F nn P a w K Q := by
    intro x w' hrun hsel hk
    refine ⟨fun f _ => hF.fn f, ?_⟩
    rw [Oper.semAt_eq _ _ _ hdef, execOp_congr o hsel (cut_eval (ops := ops.toList) a), hrun]
    exact hk
  cases T.step i o hn.at_ with
  | no hw hset =>
    have := wantedA_ok hw hTR
    rw [hcw] at this
    rw [this]
    simp only [Bool.false_eq_true, if_false]
    refine ⟨fun f _ => hF.fn f, hK c M σ _ w ?_⟩
    have hseen := I.seen T (m := 0) (X := []) (by simp) (fun i ob hm => by simp at hm)
    exact I.quiet T hn (fun j ob hm => Inv.all_ne T hn.at_ (.inr (.inr hw)) hm) (fun ⟨o', g1, g2, g3⟩ => by rw [hn.at_] at g1; cases g1; rw [hw] at g3; cases g3) hseen
      (fun j ob _ hb => by rw [hasBit_zero] at hb; cases hb) hseen.hr (.refl _ _ _) hset.get hset.lt (fun _ _ => V.und)
  | eff hw he st d1 h1 hset e =>
    have := wantedA_ok hw hTR
    rw [hcw] at this
    rw [this]
    simp only [if_true]
    have hweff : weff ops.toList n D i := ⟨o, hn.at_, he, hw⟩
    have hph : curH D i = (c, M) := by rw [← T.seesH I.cl hn he]; exact I.ph
    have hc : (D i).c = c := congrArg Prod.fst hph
    have hM : (D i).m = M := congrArg Prod.snd hph
    have hLi := T.lists i (by omega)
    have hseen : Seen base ops.toList D S c M (mkM ops.toList i) w0 σ w (addX base (mkM ops.toList i) (D i).xs (D i).c) := by
      rw [hc]
      refine I.seen T ?_ ?_
      · rw [hLi.xs]
        exact List.Nodup.sublist (List.Sublist.map _ List.filter_sublist) hLi.nodup
      · intro j ob hm hb
        rw [hLi.xs, List.mem_filter] at hm
        refine ⟨T.all_le (by omega) _ hm.1, ?_, T.below I.cl i o hn.at_ hn.edges j hb⟩
        have := hm.2
        rw [hM] at this
        simpa using this
    have hsr : SR σ { t := restr (D i).t (looksA ops.toList o), n, h := addX base (mkM ops.toList i) (D i).xs (D i).c, ds := [] } (cut a (looksA ops.toList o)) w := ⟨hTR, hseen.hr, trivial⟩
    have hone := oneA_ok (n := nn) hcv h1 hsr hF (fun b w' => b.defers = [] ∧ st.n = n ∧ ∃ σ', SR σ' st b w' ∧ Ext σ σ' (addX base (mkM ops.toList i) (D i).xs (D i).c) st.h w w') (fun _ _ _ => False) (by
      intro st' a' w' σ' hm hs' hE hn'
      rw [List.mem_singleton.1 hm] at hs' hE hn'
      have hd := oneA_ds h1 hdef st (List.mem_singleton.2 rfl)
      have hd : st.ds = [] := hd
      refine ⟨?_, hn', σ', hs', hE⟩
      have := hs'.ds
      rw [hd] at this
      cases hx : a'.defers with
      | nil => rfl
      | cons x y => rw [hx] at this; exact this.elim)
    refine wpIn_swap (oneA_select h1) hdef (cut_eval (ops := ops.toList) a) (fun f => hF.fn f) hone (fun b w' hN => hN.1) ?_
    rintro v w' ⟨_, hnn, σ', hs', hE⟩
    refine hK st.h _ σ' _ w' (I.effect T hn he hweff hseen (M' := Nat.lor M (mkM ops.toList i)) rfl ?_ hs'.h hE (v := match o.dst with | some k => (st.t.get k).getD und | none => und) ?_ hset.lt ?_)
    · unfold curH; rw [e]; simp only [hset.m, hM]
    · rw [e]; exact hset.get
    · intro k hk
      have hk' := hset.lt k hk
      rw [hk]
      simp only
      have := hs'.t.2 k
      rw [hk] at this
      have hsz : k < (cut a (looksA ops.toList o)).tmps.size := by rw [cut_size, I.tm.1]; exact hk'
      simp only [Act.put, Array.getD_eq_getD_getElem?, Array.getElem?_setIfInBounds, if_true, hsz, Option.getD_some] at this
      exact this
  | alloc hw he ha v ob d1 h1 hset e =>
    have := wantedA_ok hw hTR
    rw [hcw] at this
    rw [this]
    simp only [if_true]
    have hnone := I.fr i hlen hn.new
    have hMi : hasBit M i = false := by
      cases hb : hasBit M i
      · rfl
      · exact absurd (I.mb i hb) hn.new
    obtain ⟨σ', x, w', hrun, hV, hr', hE, q, hq, hσ⟩ := allocA_run (P := P) hTR.ev I.hr h1 hnone (by have := I.nx; omega) (by have := I.low; omega) (fun j cs hj => I.fm j cs _ hj i hlen hMi rfl)
    refine hplain x w' hrun (allocA_select h1) (hK c M σ' _ w' (I.laid T hn (fun ⟨o', g1, g2, g3⟩ => by rw [hn.at_] at g1; cases g1; rw [he] at g2; cases g2) (ob := ob) ?_ hσ hq hr' hE (v := v) ?_ hset.lt (fun _ _ => hV)))
    · intro ob' hm
      obtain ⟨_, o', v', g1, g2, g3, g4, g5⟩ := hL.all i ob' hm
      rw [hn.at_] at g1; cases g1
      rw [h1] at g5; cases g5; rfl
    · rw [e]; exact hset.get
  | pure hw he ha v h d1 h1 hset e =>
    have := wantedA_ok hw hTR
    rw [hcw] at this
    rw [this]
    simp only [if_true]
    obtain ⟨l1, l2, e1, e2, e3, e4⟩ := T.split I.cl ops.toList.length (Nat.le_refl _)
    have hrd : (i, restr (D i).t (looksA ops.toList o), o.op, v) ∈ (D ops.toList.length).reads := by
      refine T.reads_le (k := i + 1) (by omega) _ ?_
      rw [e]; exact List.mem_append_right _ (List.mem_singleton.2 rfl)
    have hok := List.all_eq_true.1 hreads _ hrd
    simp only at hok
    rw [e1] at hok
    have hph : lastPh 0 (D 0).c l1 = (c, M) := by rw [← I.ph, e4, T.m0]
    obtain ⟨h', hop⟩ := readOk_spec l1 l2 [] 0 (D 0).c hok (by simp) (by
      intro x hx
      cases hb : hasBit ((masks ops.toList []).getD x.1 0) i
      · rfl
      · exfalso
        obtain ⟨ex, Mx, cx⟩ := x
        obtain ⟨hlt, o', ho', _⟩ := hL.cs ex Mx cx (by rw [e1]; exact List.mem_append_left _ hx)
        exact hn.new (T.below I.cl ex o' ho' (I.cl ex o' ho' (e2 _ hx)) i hb)) (by
      intro x hx
      cases hb : hasBit ((masks ops.toList []).getD i 0) x.1
      · rfl
      · exact absurd (T.below I.cl i o hn.at_ hn.edges x.1 hb) (e3 x hx))
    rw [hph] at hop
    simp only at hop
    have hh' : h' = _ := opA_pure hop he ha (some v, h') (List.mem_singleton.2 rfl)
    have hnd : (((D ops.toList.length).all.filter fun x => !(hasBit M x.1)).map (·.1)).Nodup := List.Nodup.sublist (List.Sublist.map _ List.filter_sublist) hL.nodup
    have hseen := I.seen T (m := mkM ops.toList i) hnd (by
      intro j ob hm hb
      rw [List.mem_filter] at hm
      exact ⟨hm.1, by simpa using hm.2, T.below I.cl i o hn.at_ hn.edges j hb⟩)
    obtain ⟨r, h2, hm2, σ', x, w', hrun, hres, hr', hE⟩ := opA_run (P := P) hTR.ev hseen.hr hop
    simp only [List.mem_singleton, Prod.mk.injEq] at hm2
    obtain ⟨rfl, rfl⟩ := hm2
    obtain ⟨z, rfl, hV⟩ := hres
    rw [hh'] at hr' hE
    refine hplain z w' hrun (opA_select hop) (hK c M σ' _ w' (I.quiet T hn (fun j ob hm => Inv.all_ne T hn.at_ (.inr (.inl ha)) hm) (fun ⟨o', g1, g2, g3⟩ => by rw [hn.at_] at g1; cases g1; rw [he] at g2; cases g2) hseen ?_ hr' hE (v := v) ?_ hset.lt (fun _ _ => hV)))
    · intro j ob hm hb hMj hSj
      exact addX_get base _ _ c j ob hnd (List.mem_filter.2 ⟨hm, by rw [hMj]; rfl⟩) hb
    · rw [e]; exact hset.get

/-- When all have run. -/
theorem Inv.done (I : Inv base ops.toList n D σ0 hs w0 ds S c M σ a w) (T : Trc P cv ro base ops.toList n D) (hall : ∀ i, i < ops.toList.length → S i) :
    HR σ (addX base (2 ^ ops.toList.length - 1) (D ops.toList.length).xs (D ops.toList.length).c) w ∧ Ext σ0 σ hs (addX base (2 ^ ops.toList.length - 1) (D ops.toList.length).xs (D ops.toList.length).c) w0 w ∧ TR σ (D ops.toList.length).t n a.tmps := by
  have hL := T.lists ops.toList.length (Nat.le_refl _)
  have hph : curH D ops.toList.length = (c, M) := by
    rw [← I.ph, lastAt_text _ (fun k hk hw => T.keepH hk hw) (fun j hj _ => hall j hj)]
  have hc : (D ops.toList.length).c = c := congrArg Prod.fst hph
  have hM : (D ops.toList.length).m = M := congrArg Prod.snd hph
  rw [hc]
  have hseen := I.seen T (m := 2 ^ ops.toList.length - 1) (X := (D ops.toList.length).xs) (by
    rw [hL.xs]; exact List.Nodup.sublist (List.Sublist.map _ List.filter_sublist) hL.nodup) (by
    intro j ob hm _
    rw [hL.xs, List.mem_filter] at hm
    refine ⟨hm.1, ?_, hall j (hL.all j ob hm.1).1⟩
    have := hm.2
    rw [hM] at this
    simpa using this)
  refine ⟨hseen.hr, I.step_ext T hseen (.refl _ _ _), I.tm.1, fun τ => ?_⟩
  have := I.tm.2 τ
  rw [lastAt_text _ (fun k hk hw => T.keepT hk hw) (fun j hj _ => hall j hj)] at this
  exact this

end

/-- How many have not run. -/
def left (listed : Array Bool) (L : Nat) : Nat := ((List.range L).filter fun i => !listed.getD i false).length

theorem filter_lt {α : Type} {p q : α → Bool} : ∀ (l : List α), (∀ x ∈ l, q x = true → p x = true) → (∃ x ∈ l, p x = true ∧ q x = false) → (l.filter q).length < (l.filter p).length
  | [], _, ⟨x, hx, _⟩ => by simp at hx
  | y :: l, h, ⟨x, hx, hp, hq⟩ => by
    have hle : ∀ (l : List α), (∀ x ∈ l, q x = true → p x = true) → (l.filter q).length ≤ (l.filter p).length := by
      intro l
      induction l with
      | nil => intro _; simp
      | cons z l ih =>
        intro h
        have := ih (fun x hx => h x (List.mem_cons_of_mem _ hx))
        have hz := h z (List.mem_cons_self ..)
        rw [List.filter_cons, List.filter_cons]
        cases hqz : q z
        · cases hpz : p z <;> simp <;> omega
        · rw [hz hqz]; simp; omega
    have h' : ∀ x ∈ l, q x = true → p x = true := fun x hx => h x (List.mem_cons_of_mem _ hx)
    rw [List.filter_cons, List.filter_cons]
    rcases List.mem_cons.1 hx with rfl | hx
    · rw [hp, hq]; have := hle l h'; simp; omega
    · have := filter_lt l h' ⟨x, hx, hp, hq⟩
      have hy := h y (List.mem_cons_self ..)
      cases hqy : q y
      · cases hpy : p y <;> simp <;> omega
      · rw [hy hqy]; simp; omega

theorem drawOk_all (P : Program) : DrawOk P := by
  intro cv hcv ro F nn ops st st' ho σ0 a0 w0 hs0 hF0 t Q hQ
  unfold drawA at ho
  simp only at ho
  obtain ⟨c1, ho⟩ := cond_some ho
  rw [Bool.and_eq_true] at c1
  obtain ⟨hdo, hmix⟩ := c1
  split at ho
  · rename_i d hd
    obtain ⟨hreads, ho⟩ := cond_some ho
    simp only [Option.some.injEq] at ho
    subst ho
    obtain ⟨D, e0, e1, e2⟩ := drawRun_trace _ _ _ hd
    rw [numbered_length] at e1
    unfold drawOk at hdo
    simp only [Bool.and_eq_true] at hdo
    have hnum : ∀ (i : Nat) (o : Oper), ops.toList[i]? = some o → (numbered 0 ops.toList)[i]? = some (i, o) := by
      intro i o hi
      rw [numbered_get, hi]; simp
    have T : Trc P cv ro st.h.next ops.toList st.n D := by
      refine ⟨?_, ?_, ?_, by rw [e0], by rw [e0], by rw [e0], by rw [e0], by rw [e0]⟩
      · intro i o hi
        exact drawStep_spec (e2 i _ (hnum i o hi))
      · intro i j x y hij hx hy
        exact allPairs_spec _ hdo.2 i j _ _ hij (hnum i x hx) (hnum j y hy)
      · intro i o hi
        exact List.all_eq_true.1 hdo.1 _ (List.mem_of_getElem? (hnum i o hi))
    have hrd : (D ops.toList.length).reads.all (fun (i, t, op, v) => readOk P st.h.next (masks ops.toList []) (D ops.toList.length).all i t op v [] 0 (D 0).c (D ops.toList.length).cs) = true := by
      rw [e1, e0]; exact hreads
    simp only [Region.schedule, hmix, Bool.true_or, if_true]
    refine wpAnyIn_sound ops.size t _ a0 w0 ?_
    have key : ∀ (fuel : Nat) (listed : Array Bool) (c : H) (M : Nat) (σ : Sg) (a : Act) (w : World), listed.size = ops.size → left listed ops.size ≤ fuel → Inv st.h.next ops.toList st.n D σ0 st.h w0 a0.defers (fun j => listed.getD j false = true) c M σ a w →
        wpAnyIn F nn P .any ops Q fuel listed a w := by
      intro fuel
      have hdone : ∀ (listed : Array Bool) (c : H) (M : Nat) (σ : Sg) (a : Act) (w : World), listed.size = ops.size → Inv st.h.next ops.toList st.n D σ0 st.h w0 a0.defers (fun j => listed.getD j false = true) c M σ a w → Region.ready .any ops listed = [] → Q .normal a w := by
        intro listed c M σ a w hsz I hr
        have hall : ∀ i, i < ops.toList.length → listed.getD i false = true := by
          intro i
          induction i using Nat.strongRecOn with
          | _ i ih =>
            intro hi
            cases hb : listed.getD i false
            · exfalso
              have hi' : i < ops.size := by simpa using hi
              have hoi : ops[i]? = some ops[i] := Array.getElem?_eq_getElem hi'
              have hoi' : ops.toList[i]? = some ops[i] := by rw [Array.getElem?_toList]; exact hoi
              have hm : i ∈ Region.ready .any ops listed := by
                refine mem_ready.2 ⟨?_, ops[i], hoi, fun e he hbind => ?_⟩
                · rw [Array.getD_eq_getD_getElem?] at hb ⊢
                  rw [Array.getElem?_eq_getElem (by omega)] at hb ⊢
                  exact hb
                · have hlt := T.back hoi' e (by simpa using he) hbind
                  exact ih e.on hlt (by omega)
              rw [hr] at hm; simp at hm
            · rfl
        obtain ⟨k1, k2, k3⟩ := I.done T hall
        rw [e1] at k1 k2 k3
        refine hQ a w σ ⟨k3, k1, ?_⟩ k2 rfl
        rw [I.df]; exact hs0.ds.mono k2.le
      induction fuel with
      | zero =>
        intro listed c M σ a w hsz hle I
        have hr : Region.ready .any ops listed = [] := by
          cases hr : Region.ready .any ops listed with
          | nil => rfl
          | cons i rs =>
            exfalso
            have hm : i ∈ Region.ready .any ops listed := by rw [hr]; exact List.mem_cons_self ..
            obtain ⟨h1, o, h2, _⟩ := mem_ready.1 hm
            have hi : i < ops.size := (Array.getElem?_eq_some_iff.1 h2).1
            have : i ∈ (List.range ops.size).filter fun i => !listed.getD i false := by
              refine List.mem_filter.2 ⟨List.mem_range.2 hi, ?_⟩
              rw [Array.getD_eq_getD_getElem?, Array.getElem?_eq_getElem (by omega)] at h1 ⊢
              simp only [Option.getD_some] at h1 ⊢
              rw [h1]; rfl
            have h0 : ((List.range ops.size).filter fun i => !listed.getD i false).length = 0 := by unfold left at hle; omega
            rw [List.length_eq_zero_iff.1 h0] at this
            simp at this
        exact ⟨hr, hdone listed c M σ a w hsz I hr⟩
      | succ fuel ih =>
        intro listed c M σ a w hsz hle I
        refine ⟨hdone listed c M σ a w hsz I, fun i hi => ?_⟩
        obtain ⟨h1, o, h2, h3⟩ := mem_ready.1 hi
        have hlt : i < ops.size := (Array.getElem?_eq_some_iff.1 h2).1
        have hfalse : listed.getD i false = false := by
          rw [Array.getD_eq_getD_getElem?, Array.getElem?_eq_getElem (by omega)] at h1 ⊢
          exact h1
        have hn : Next' ops.toList (fun j => listed.getD j false = true) i o := ⟨by rw [Array.getElem?_toList]; exact h2, by rw [hfalse]; simp, fun e he hb => h3 e (by simpa using he) hb⟩
        refine I.op hcv T hrd hF0 hn fun c' M' σ' a' w' I' => ih _ c' M' σ' a' w' (by simpa using hsz) ?_ ?_
        · have : left (listed.setIfInBounds i true) ops.size < left listed ops.size := by
            unfold left
            refine filter_lt _ ?_ ⟨i, List.mem_range.2 hlt, by rw [hfalse]; rfl, ?_⟩
            · intro x _ hx
              by_cases e : i = x
              · subst e
                rw [Array.getD_eq_getD_getElem?, Array.getElem?_setIfInBounds, if_pos rfl, if_pos (by omega)] at hx
                simp at hx
              · rw [getD_set_ne false e] at hx; exact hx
            · rw [Array.getD_eq_getD_getElem?, Array.getElem?_setIfInBounds, if_pos rfl, if_pos (by omega)]; rfl
          omega
        · have : (fun j => (listed.setIfInBounds i true).getD j false = true) = more (fun j => listed.getD j false = true) i := by
            funext j
            refine propext ⟨fun h => ?_, fun h => ?_⟩
            · by_cases e : i = j
              · exact .inr e.symm
              · rw [getD_set_ne false e] at h; exact .inl h
            · rcases h with h | rfl
              · exact getD_set_true h
              · rw [Array.getD_eq_getD_getElem?, Array.getElem?_setIfInBounds, if_pos rfl, if_pos (by omega)]; rfl
          rw [this]; exact I'
    have hrep : ∀ j, (Array.replicate ops.size false).getD j false = false := by
      intro j
      rw [Array.getD_eq_getD_getElem?, Array.getElem?_replicate]
      split <;> rfl
    refine key ops.size _ { st.h with next := st.h.next + ops.toList.length } 0 σ0 a0 w0 (by simp) ?_ ?_
    · unfold left
      exact Nat.le_trans (List.length_filter_le _ _) (by simp)
    · have hS : (fun j => (Array.replicate ops.size false).getD j false = true) = fun _ => False := by
        funext j
        rw [hrep]; simp
      rw [hS]
      have hz : ∀ {α : Type} (wr : Nat → Prop) (cur : Nat → α) L, lastAt (fun _ => False) wr cur L = cur 0 := fun wr cur L => by
        rw [lastAt_later (K := 0) L (by omega) (fun j _ _ h => h.elim)]; rfl
      refine { ph := ?_, tm := ⟨hs0.t.1, fun τ => ?_⟩, df := rfl, hr := hs0.h.more _ (by omega), ex := (Ext.refl _ _ _).more (by omega), xt := fun i ob _ h => h.elim, xd := fun i j oi oj p q _ _ h => h.elim, fr := ?_, fm := ?_, mb := ?_, nx := Nat.le_refl _, cl := fun i o _ h => h.elim, hn := rfl, hl := hs0.h.lown }
      · rw [hz]; unfold curH; rw [e0]
      · rw [hz]; unfold curT; rw [e0]; exact hs0.t.2 τ
      · intro i _ _; exact hs0.h.fresh _ (by omega)
      · intro j cs f hj i _ _
        have := (hs0.h.fam j cs f hj).1
        omega
      · intro i h; rw [hasBit_zero] at h; cases h
  · simp at ho

end Go.Ev

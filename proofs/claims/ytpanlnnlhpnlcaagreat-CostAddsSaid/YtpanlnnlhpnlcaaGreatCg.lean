/- Seat r1: the shares of a cost, in plain words. No conditions beyond those that each theorem states. -/
import Derived.Test.YtpanlnnlhpnlcaaGreatCf
import Derived.Test.YtpanlnnlhpnlcaaGreatGh

set_option linter.unusedSimpArgs false
set_option linter.unusedVariables false
set_option linter.unusedSectionVars false

namespace Go.Proofs
open Go.Ev

theorem sortedZ_eq : ∀ {a b : List Sh}, a.Pairwise (fun x y => ltL x.pt y.pt = true) → b.Pairwise (fun x y => ltL x.pt y.pt = true) → (∀ t, t ∈ a ↔ t ∈ b) → a = b
  | [], b, _, _, h => by
    cases b with
    | nil => rfl
    | cons t b => exact absurd ((h t).2 (List.mem_cons_self ..)) (by simp)
  | s :: a, b, ha, hb, h => by
    cases b with
    | nil => exact absurd ((h s).1 (List.mem_cons_self ..)) (by simp)
    | cons t b =>
      rw [List.pairwise_cons] at ha hb
      have hst : s = t := by
        rcases List.mem_cons.1 ((h s).1 (List.mem_cons_self ..)) with e | e
        · exact e
        · rcases List.mem_cons.1 ((h t).2 (List.mem_cons_self ..)) with e2 | e2
          · exact e2.symm
          · have h1 := hb.1 s e
            have h2 := ha.1 t e2
            rw [ltL_asymm h1] at h2; cases h2
      subst hst
      have ns : ∀ {l : List Sh}, (∀ x ∈ l, ltL s.pt x.pt = true) → s ∉ l := fun hl hm => by
        have := hl s hm
        rw [ltL_irrefl] at this; cases this
      rw [sortedZ_eq ha.2 hb.2 fun x => ⟨fun hx => by
        rcases List.mem_cons.1 ((h x).1 (List.mem_cons_of_mem _ hx)) with e | e
        · subst e; exact absurd hx (ns ha.1)
        · exact e, fun hx => by
        rcases List.mem_cons.1 ((h x).2 (List.mem_cons_of_mem _ hx)) with e | e
        · subst e; exact absurd hx (ns hb.1)
        · exact e⟩]

theorem ListOk.lts {ml : List (List Nat × Int)} {ss : List Sh} (hn : (ml.map (·.1)).Nodup) (h : ListOk ml ss) : ss.Pairwise fun a b => ltL a.pt b.pt = true := by
  obtain ⟨ks, hp, hs, rfl⟩ := h.ex
  have hkn : ks.Nodup := hp.nodup_iff.2 hn
  have hst : ks.Pairwise fun a b => ltL a b = true := by
    have := List.Pairwise.and hs hkn
    refine this.imp fun {a b} ⟨h1, h2⟩ => ?_
    rcases ltL_tri a b with h | h | h
    · exact h
    · exact absurd h h2
    · rw [h1] at h; cases h
  unfold shL
  rw [List.pairwise_map]
  exact hst.sublist List.filter_sublist

theorem ListOk.mem {ml : List (List Nat × Int)} {ss : List Sh} (h : ListOk ml ss) (s : Sh) : s ∈ ss ↔ s.pt ∈ ml.map (·.1) ∧ 0 < getM 0 s.pt ml ∧ s.am = getM 0 s.pt ml := by
  obtain ⟨ks, hp, _, rfl⟩ := h.ex
  unfold shL
  rw [List.mem_map]
  constructor
  · rintro ⟨k, hk, rfl⟩
    obtain ⟨h1, h2⟩ := List.mem_filter.1 hk
    exact ⟨hp.mem_iff.1 h1, by simpa using h2, rfl⟩
  · rintro ⟨h1, h2, h3⟩
    exact ⟨s.pt, List.mem_filter.2 ⟨hp.mem_iff.2 h1, by simpa using h2⟩, by cases s; simp only at h3 ⊢; rw [h3]⟩

theorem ListOk.uniq {ml : List (List Nat × Int)} {ss st : List Sh} (hn : (ml.map (·.1)).Nodup) (h : ListOk ml ss) (h' : ListOk ml st) : ss = st :=
  sortedZ_eq (h.lts hn) (h'.lts hn) fun t => (h.mem t).trans (h'.mem t).symm

/-- One party, or two. -/
theorem ListOk.one {k : List Nat} {n : Int} {ss : List Sh} (h0 : 0 ≤ n) (h : ListOk [(k, n)] ss) : (ss.map Sh.am).sum = n ∧ ss.length ≤ 2 ∧ ofS ss k = n := by
  obtain ⟨ks, hp, _, rfl⟩ := h.ex
  have hks : ks = [k] := List.perm_singleton.1 hp
  subst hks
  have hg : getM (0 : Int) k [(k, n)] = n := by simp [getM]
  refine ⟨?_, ?_, ?_⟩
  · unfold shL
    by_cases hpos : 0 < n
    · simp [hg, hpos]
    · simp [hg, hpos]; omega
  · exact Nat.le_trans (shL_len _ _) (by simp)
  · rw [h.of, hg]; split <;> omega

theorem ListOk.two {k l : List Nat} {n m : Int} {ss : List Sh} (hne : k ≠ l) (h0 : 0 ≤ n) (h1 : 0 ≤ m) (h : ListOk [(k, n), (l, m)] ss) : (ss.map Sh.am).sum = n + m ∧ ss.length ≤ 2 ∧ ofS ss l = m := by
  have hgk : getM (0 : Int) k [(k, n), (l, m)] = n := by simp [getM]
  have hgl : getM (0 : Int) l [(k, n), (l, m)] = m := by simp [getM, Ne.symm hne]
  have hof := h.of l
  obtain ⟨ks, hp, _, rfl⟩ := h.ex
  have hp : ks.Perm [k, l] := hp
  have hlen : ks.length = 2 := hp.length_eq
  refine ⟨?_, ?_, ?_⟩
  · have hcase : ks = [k, l] ∨ ks = [l, k] := by
      match ks, hlen with
      | [a, b], _ =>
        have ha : a ∈ [k, l] := hp.mem_iff.1 (by simp)
        have hb : b ∈ [k, l] := hp.mem_iff.1 (by simp)
        have hnd : [a, b].Nodup := hp.nodup_iff.2 (by simp [hne])
        simp only [List.mem_cons, List.not_mem_nil, or_false] at ha hb
        simp only [List.nodup_cons, List.mem_singleton] at hnd
        rcases ha with rfl | rfl <;> rcases hb with rfl | rfl
        · exact absurd rfl hnd.1
        · exact .inl rfl
        · exact .inr rfl
        · exact absurd rfl hnd.1
    rcases hcase with rfl | rfl <;> unfold shL <;> by_cases p1 : 0 < n <;> by_cases p2 : 0 < m <;> simp [hgk, hgl, p1, p2] <;> omega
  · exact Nat.le_trans (shL_len _ _) (by omega)
  · rw [hof, hgl]; split <;> omega

/-- What the law asks of the shares. -/
structure Adds (ws : List Wy) (p : Pt) (c : Co) (ss : List Sh) : Prop where
  sum : (ss.map Sh.am).sum = c.am
  len : ss.length ≤ 2
  pos : ∀ s ∈ ss, 0 < s.am ∧ s.am ≤ 1000000000000
  lts : ss.Pairwise fun a b => ltL a.pt b.pt = true
  ofn : ws.find? (coversB p c) = none → ofS ss c.owner = c.am
  ofw : ∀ w, ws.find? (coversB p c) = some w → ofS ss w.maker = if w.maker = c.owner then c.am else pctN c.am w.pct

theorem right_parts {ws : List Wy} {c : Co} (h : rightB ws c = true) : (∀ w ∈ ws, w.ok = true) ∧ c.ok = true := by
  unfold rightB at h
  rw [Bool.and_eq_true, List.all_eq_true] at h
  exact h

theorem am_ok {c : Co} (h : c.ok = true) : 0 ≤ c.am ∧ c.am ≤ 1000000000000 := by
  unfold Co.ok isAm at h
  simp only [Bool.and_eq_true, decide_eq_true_eq] at h
  omega

/-- The bill of a part. -/
theorem bill_form {ws : List Wy} {p : Pt} {c : Co} (hr : rightB ws c = true) :
    (billOf ws (some p) c = [(c.owner, c.am)] ∧ (ws.find? (coversB p c) = none ∨ ∃ w, ws.find? (coversB p c) = some w ∧ w.maker = c.owner)) ∨
    ∃ w, ws.find? (coversB p c) = some w ∧ w.maker ≠ c.owner ∧ billOf ws (some p) c = [(c.owner, c.am - pctN c.am w.pct), (w.maker, pctN c.am w.pct)] ∧ 0 ≤ pctN c.am w.pct ∧ pctN c.am w.pct ≤ c.am := by
  obtain ⟨hws, hc⟩ := right_parts hr
  cases hf : ws.find? (coversB p c) with
  | none => exact .inl ⟨by simp only [billOf, hf], .inl rfl⟩
  | some w =>
    obtain ⟨_, hamr, hpr⟩ := pct_of_ok (hws w (List.mem_of_find?_eq_some hf)) hc
    obtain ⟨hn0, hn1⟩ := pct_bnd hamr hpr
    by_cases hm : w.maker = c.owner
    · refine .inl ⟨?_, .inr ⟨w, rfl, hm⟩⟩
      simp only [billOf, hf, hm, putM, getM, if_true]
      have : c.am - pctN c.am w.pct + pctN c.am w.pct = c.am := by omega
      rw [this]
    · refine .inr ⟨w, rfl, hm, ?_, hn0, hn1⟩
      simp [billOf, hf, putM, getM, hm]

theorem Adds.of {ws : List Wy} {p : Pt} {c : Co} {ss : List Sh} (hr : rightB ws c = true) (h : ListOk (billOf ws (some p) c) ss) : Adds ws p c ss := by
  obtain ⟨hws, hc⟩ := right_parts hr
  obtain ⟨a0, a1⟩ := am_ok hc
  rcases bill_form (p := p) hr with ⟨hb, hf⟩ | ⟨w, hf, hm, hb, hn0, hn1⟩
  · rw [hb] at h
    obtain ⟨h1, h2, h3⟩ := ListOk.one a0 h
    refine ⟨h1, h2, fun s hs => ?_, h.lts (by simp), fun _ => h3, fun w hw => ?_⟩
    · obtain ⟨g1, g2, g3⟩ := (h.mem s).1 hs
      simp only [List.map_cons, List.map_nil, List.mem_singleton] at g1
      rw [g1] at g2 g3
      simp only [getM, if_true] at g2 g3
      omega
    · rcases hf with hf | ⟨w', hf, hm⟩
      · rw [hf] at hw; cases hw
      · rw [hf] at hw; cases hw
        rw [if_pos hm, hm]; exact h3
  · rw [hb] at h
    obtain ⟨h1, h2, h3⟩ := ListOk.two (Ne.symm hm) (by omega) hn0 h
    refine ⟨by omega, h2, fun s hs => ?_, h.lts (by simp [Ne.symm hm]), fun hw => (by rw [hf] at hw; cases hw), fun w' hw => ?_⟩
    · obtain ⟨g1, g2, g3⟩ := (h.mem s).1 hs
      simp only [List.map_cons, List.map_nil, List.mem_cons, List.not_mem_nil, or_false] at g1
      rcases g1 with g1 | g1 <;> rw [g1] at g2 g3 <;> simp [getM, hm] at g2 g3 <;> omega
    · rw [hf] at hw; cases hw
      rw [if_neg hm]; exact h3

/-- With fewer warranties, of which the first that covers is the same. -/
theorem bill_less {ws own : List Wy} {p : Pt} {c : Co} (h : own.find? (coversB p c) = ws.find? (coversB p c)) : billOf own (some p) c = billOf ws (some p) c := by
  simp only [billOf, h]

theorem bill_nodup {ws : List Wy} {p : Pt} {c : Co} (hr : rightB ws c = true) : ((billOf ws (some p) c).map (·.1)).Nodup := by
  rcases bill_form (p := p) hr with ⟨hb, _⟩ | ⟨w, _, hm, hb, _⟩
  · rw [hb]; simp
  · rw [hb]; simp [Ne.symm hm]

theorem right_less {ws own : List Wy} {c : Co} (hr : rightB ws c = true) (h : ∀ w ∈ own, w ∈ ws) : rightB own c = true := by
  obtain ⟨h1, h2⟩ := right_parts hr
  unfold rightB
  rw [Bool.and_eq_true, List.all_eq_true]
  exact ⟨fun w hw => h1 w (h w hw), h2⟩

/-- Where the law's loop stands behind k warranties: the first that covers, and those of the part's kind up to it. -/
structure Own (ws : List Wy) (p : Pt) (c : Co) (k : Nat) (j : Int) (own : List Wy) : Prop where
  sub : ∀ w ∈ own, w ∈ ws
  len : own.length ≤ k
  at' : (j = -1 ∧ own.find? (coversB p c) = none ∧ ∀ w ∈ ws.take k, coversB p c w = false) ∨
    ∃ (i : Nat) (w : Wy), j = (i : Int) ∧ i < k ∧ ws[i]? = some w ∧ coversB p c w = true ∧ (∀ x ∈ ws.take i, coversB p c x = false) ∧ own.find? (coversB p c) = some w

theorem Own.start (ws : List Wy) (p : Pt) (c : Co) : Own ws p c 0 (-1) [] := ⟨fun w hw => (List.not_mem_nil hw).elim, by simp, .inl ⟨rfl, rfl, fun w hw => by simp at hw⟩⟩

/-- Another kind, or behind the first. -/
theorem Own.skip {ws own : List Wy} {p : Pt} {c : Co} {k : Nat} {j : Int} (h : Own ws p c k j own) {w : Wy} (hw : ws[k]? = some w) (hs : w.kind ≠ p.kind ∨ 0 ≤ j) : Own ws p c (k + 1) j own := by
  refine ⟨h.sub, by have := h.len; omega, ?_⟩
  rcases h.at' with ⟨rfl, h1, h2⟩ | ⟨i, w', rfl, h1, h2⟩
  · refine .inl ⟨rfl, h1, fun x hx => ?_⟩
    rw [take_snoc hw, List.mem_append, List.mem_singleton] at hx
    rcases hx with hx | rfl
    · exact h2 x hx
    · have hk : x.kind ≠ p.kind := hs.resolve_right (by decide)
      unfold coversB
      rw [decide_eq_false hk, Bool.false_and]
  · exact .inr ⟨i, w', rfl, by omega, h2⟩

/-- One of the part's kind. -/
theorem Own.add {ws own : List Wy} {p : Pt} {c : Co} {k : Nat} (h : Own ws p c k (-1) own) {w : Wy} (hw : ws[k]? = some w) : Own ws p c (k + 1) (if coversB p c w = true then (k : Int) else -1) (own ++ [w]) := by
  refine ⟨fun x hx => ?_, by have := h.len; rw [List.length_append]; simp only [List.length_singleton]; omega, ?_⟩
  · rw [List.mem_append, List.mem_singleton] at hx
    rcases hx with hx | rfl
    · exact h.sub x hx
    · exact List.mem_of_getElem? hw
  · rcases h.at' with ⟨_, h1, h2⟩ | ⟨i, w', hi, _⟩
    · cases hc : coversB p c w
      · refine .inl ⟨by simp, ?_, fun x hx => ?_⟩
        · rw [List.find?_append, h1]; simp [hc]
        · rw [take_snoc hw, List.mem_append, List.mem_singleton] at hx
          rcases hx with hx | rfl
          · exact h2 x hx
          · exact hc
      · refine .inr ⟨k, w, by simp, by omega, hw, hc, h2, ?_⟩
        rw [List.find?_append, h1]; simp [hc]
    · omega

/-- At the end: the first that covers is the first of all. -/
theorem Own.done {ws own : List Wy} {p : Pt} {c : Co} {j : Int} (h : Own ws p c ws.length j own) : own.find? (coversB p c) = ws.find? (coversB p c) ∧
    ((j = -1 ∧ ws.find? (coversB p c) = none) ∨ ∃ (i : Nat) (w : Wy), j = (i : Int) ∧ ws[i]? = some w ∧ ws.find? (coversB p c) = some w) := by
  rcases h.at' with ⟨rfl, h1, h2⟩ | ⟨i, w, rfl, h1, h2, h3, h4, h5⟩
  · rw [List.take_length] at h2
    have : ws.find? (coversB p c) = none := by
      rw [List.find?_eq_none]
      intro x hx; rw [h2 x hx]; decide
    exact ⟨h1.trans this.symm, .inl ⟨rfl, this⟩⟩
  · have : ws.find? (coversB p c) = some w := by
      rw [List.find?_eq_some_iff_getElem]
      refine ⟨h3, i, h1, by rw [List.getElem?_eq_getElem h1] at h2; exact Option.some.inj h2, fun q hq => ?_⟩
      have hlt : q < ws.length := by omega
      rw [h4 ws[q] (by rw [List.mem_iff_getElem?]; exact ⟨q, by rw [List.getElem?_take, if_pos hq]; exact List.getElem?_eq_getElem hlt⟩)]; rfl
    exact ⟨h5.trans this.symm, .inr ⟨i, w, rfl, h2, this⟩⟩

end Go.Proofs

/- Seat r1: bogieref43.Same. No conditions beyond those that each theorem states. -/
namespace Go.Proofs
open Go.Ev
set_option maxRecDepth 100000

set_option maxHeartbeats 1000000 in
theorem Tryz.same43 (a b : List Sh) (hlen : a.length ≤ 1000) (v w : AV) (h : H) (hv : RdZ h v a) (hw : RdZ h w b) : ACalls Tryz.prog (.func 15) [v, w] h (fun r h' => r = .bool (decide (a = b)) ∧ h' = h) := by
  refine ACalls.body (n := 26) Tryz.nogo Tryz.func15 rfl rfl ?_
  rw [argF2]
  obtain ⟨o, e, c, rfl⟩ := hv.len
  obtain ⟨o', e', c', rfl⟩ := hw.len
  rw [List.length_map] at hv hw ⊢
  rw [List.length_map]
  (repeat refine AWp.seq ?_); change AWp _ _ _ _ _; refine AWp.region ?_; (repeat (first | refine AOps.v rfl rfl rfl rfl rfl (by simp only [evS, cond_tt, cond_ff, absV, depthV, Nat.reduceEqDiff, Nat.reduceLT, ↓reduceIte, Option.map_some, Option.bind_some, List.toList_toArray]; rfl) ?_ | refine AOps.s rfl rfl rfl ?_ | refine AOps.u rfl rfl rfl rfl (by simp only [evS, cond_tt, cond_ff, absV, depthV, Nat.reduceEqDiff, Nat.reduceLT, ↓reduceIte, Option.map_some, Option.bind_some, List.toList_toArray]; rfl) ?_)); refine AOps.nil ?_
  by_cases hl : a.length = b.length
  · have c0 : decide ((a.length : Int) = (b.length : Int)) = true := by rw [decide_eq_true_eq]; omega
    (repeat refine AWp.seq ?_); change AWp _ _ _ _ _; refine AWp.region ?_; (repeat (first | refine AOps.v rfl rfl rfl rfl rfl (by simp only [evS, cond_tt, cond_ff, absV, depthV, Nat.reduceEqDiff, Nat.reduceLT, ↓reduceIte, Option.map_some, Option.bind_some, List.toList_toArray, load_agg Tryz.agg60 Tryz.size60, load_agg Tryz.agg36 Tryz.size36, load_one Tryz.agg9, load_one Tryz.agg3, load_one Tryz.agg31, load_one Tryz.agg56, Tryz.fa60_0, Tryz.fa60_1, Tryz.fa60_2, Tryz.fa36_0, Tryz.fa36_1, len_slice Tryz.underlying31, len_slice Tryz.underlying56, H.lay, rowO_put, rowA_cells, Nat.zero_add, Nat.add_zero, ↓reduceIte, c0]; rfl) ?_ | refine AOps.s rfl rfl rfl ?_ | refine AOps.u rfl rfl rfl rfl (by simp only [evS, cond_tt, cond_ff, absV, depthV, Nat.reduceEqDiff, Nat.reduceLT, ↓reduceIte, Option.map_some, Option.bind_some, List.toList_toArray, load_agg Tryz.agg60 Tryz.size60, load_agg Tryz.agg36 Tryz.size36, load_one Tryz.agg9, load_one Tryz.agg3, load_one Tryz.agg31, load_one Tryz.agg56, Tryz.fa60_0, Tryz.fa60_1, Tryz.fa60_2, Tryz.fa36_0, Tryz.fa36_1, len_slice Tryz.underlying31, len_slice Tryz.underlying56, H.lay, rowO_put, rowA_cells, Nat.zero_add, Nat.add_zero, ↓reduceIte, c0]; rfl) ?_)); refine AOps.nil ?_
    (repeat refine AWp.seq ?_); change AWp _ _ _ _ _; refine AWp.no (by rfl) (by rfl) (AWp.skip ?_)
    (repeat refine AWp.seq ?_); change AWp _ _ _ _ _; refine AWp.region ?_; (repeat (first | refine AOps.v rfl rfl rfl rfl rfl (by simp only [evS, cond_tt, cond_ff, absV, depthV, Nat.reduceEqDiff, Nat.reduceLT, ↓reduceIte, Option.map_some, Option.bind_some, List.toList_toArray]; rfl) ?_ | refine AOps.s rfl rfl rfl ?_ | refine AOps.u rfl rfl rfl rfl (by simp only [evS, cond_tt, cond_ff, absV, depthV, Nat.reduceEqDiff, Nat.reduceLT, ↓reduceIte, Option.map_some, Option.bind_some, List.toList_toArray]; rfl) ?_)); refine AOps.nil ?_
    refine AWp.block (AWp.loop (fun m st => ∃ k kn : Nat, k ≤ a.length ∧ m = a.length - k ∧ h.next ≤ kn ∧ (∀ i : Nat, i < k → a[i]? = b[i]?) ∧
      Fr st [(0, .slice o a.length e c), (1, .slice o' b.length e' c'), (4, .bool false), (5, .int .i64 (k : Int))] 26 ⟨h.objs, h.fams, kn, h.next⟩ []) a.length ?_ ?_)
    · exact ⟨0, h.next, by omega, by omega, Nat.le_refl _, fun i hi => by omega, rfl, rfl, rfl, rfl, rfl, rfl, rfl, trivial⟩
    rintro m st ⟨k, kn, hk, rfl, hkn, hall, hF⟩
    obtain ⟨f, rfl⟩ := hF.open
    simp only [updL]
    by_cases hlt : k < a.length
    · have hlt2 : k < b.length := by omega
      have c1 : decide ((k : Int) < (a.length : Int)) = true := by simp only [decide_eq_true_eq]; omega
      obtain ⟨s, hs⟩ : ∃ t, a[k]? = some t := ⟨a[k], List.getElem?_eq_getElem hlt⟩
      obtain ⟨t, ht⟩ : ∃ t, b[k]? = some t := ⟨b[k], List.getElem?_eq_getElem hlt2⟩
      obtain ⟨id, off, cap, cs, hv', hid, hrow, hcl, hch, hcell⟩ := hv.open (i := k) (by rw [List.length_map]; exact hlt)
      rw [List.length_map] at hv'
      cases hv'
      obtain ⟨id2, off2, cap2, cs2, hw', hid2, hrow2, hcl2, hch2, hcell2⟩ := hw.open (i := k) (by rw [List.length_map]; exact hlt2)
      rw [List.length_map] at hw'
      cases hw'
      have kc := hch _ _ (rowsS_get a hs)
      have kc2 := hch2 _ _ (rowsS_get b ht)
      (repeat refine AWp.seq ?_); change AWp _ _ _ _ _; refine AWp.region ?_; (repeat (first | refine AOps.v rfl rfl rfl rfl rfl (by simp only [evS, cond_tt, cond_ff, absV, depthV, Nat.reduceEqDiff, Nat.reduceLT, ↓reduceIte, Option.map_some, Option.bind_some, List.toList_toArray, load_agg Tryz.agg60 Tryz.size60, load_agg Tryz.agg36 Tryz.size36, load_one Tryz.agg9, load_one Tryz.agg3, load_one Tryz.agg31, load_one Tryz.agg56, Tryz.fa60_0, Tryz.fa60_1, Tryz.fa60_2, Tryz.fa36_0, Tryz.fa36_1, len_slice Tryz.underlying31, len_slice Tryz.underlying56, H.lay, rowO_put, rowA_cells, Nat.zero_add, Nat.add_zero, ↓reduceIte, c1]; rfl) ?_ | refine AOps.s rfl rfl rfl ?_ | refine AOps.u rfl rfl rfl rfl (by simp only [evS, cond_tt, cond_ff, absV, depthV, Nat.reduceEqDiff, Nat.reduceLT, ↓reduceIte, Option.map_some, Option.bind_some, List.toList_toArray, load_agg Tryz.agg60 Tryz.size60, load_agg Tryz.agg36 Tryz.size36, load_one Tryz.agg9, load_one Tryz.agg3, load_one Tryz.agg31, load_one Tryz.agg56, Tryz.fa60_0, Tryz.fa60_1, Tryz.fa60_2, Tryz.fa36_0, Tryz.fa36_1, len_slice Tryz.underlying31, len_slice Tryz.underlying56, H.lay, rowO_put, rowA_cells, Nat.zero_add, Nat.add_zero, ↓reduceIte, c1]; rfl) ?_)); refine AOps.nil ?_
      (repeat refine AWp.seq ?_); change AWp _ _ _ _ _; refine AWp.yes (by rfl) (by rfl) (AWp.skip ?_)
      (repeat refine AWp.seq ?_)
      refine AWp.block ?_
      cases e1 : decide (s = t)
      · (repeat refine AWp.seq ?_)
        refine AWp.draws (cv := cv0) cv0_ok rfl (L := 9) rfl (ms := [0, 0, 3, 7, 0, 0, 48, 112, 255]) (by kernel_rfl) (by kernel_rfl) ?_
        (repeat (first | refine DRun.r rfl rfl rfl rfl rfl rfl (by simp only [evS, cond_tt, cond_ff, absV, depthV, Nat.reduceEqDiff, Nat.reduceLT, ↓reduceIte, Option.map_some, Option.bind_some, List.toList_toArray, addX_nil, updo_some, updo_none, orU_some, List.filter_nil, load_agg Tryz.agg60 Tryz.size60, load_agg Tryz.agg36 Tryz.size36, load_one Tryz.agg9, load_one Tryz.agg3, load_one Tryz.agg31, load_one Tryz.agg56, Tryz.fa60_0, Tryz.fa60_1, Tryz.fa60_2, Tryz.fa36_0, Tryz.fa36_1, len_slice Tryz.underlying31, len_slice Tryz.underlying56, H.lay, rowO_put, rowA_cells, Nat.zero_add, Nat.add_zero, ↓reduceIte, iaddr_slice Tryz.underlying31 Tryz.size36 hlt, iaddr_slice Tryz.underlying31 Tryz.size36 hlt2, hrow, hrow2, kc, kc2, neq36 s t 36 rfl, e1]; rfl) ?_ | refine DRun.s rfl rfl rfl ?_))
        refine DRun.nil ⟨?_, ?_⟩
        · (intro y hy; simp only [List.nil_append, List.cons_append, List.mem_cons, List.not_mem_nil, or_false] at hy; (repeat' (rcases hy with hy | hy)) <;> (try subst hy) <;> refine ⟨by first | exact eqTop_str _ _ | exact eqTop_int _ _ _ | exact eqTop_bool _ _ | exact eqTop_ptr _ _ _ | exact eqTop_map _ _ | exact eqTop_slice _ _ _ _ _ _ | exact eqTop_sh _ _ | (simp only [eqTop_agg, eqTop_tup, eqTop, all2, eqL_eq, eqI_eq, kEq, decide_true, Bool.and_self, Bool.and_true]; done), ?_⟩ <;> (simp only [phOk]; refine ⟨?_, trivial⟩) <;> first | exact trivial | exact Or.inl rfl | exact Or.inr ⟨_, by simp only [evS, cond_tt, cond_ff, absV, depthV, Nat.reduceEqDiff, Nat.reduceLT, ↓reduceIte, Option.map_some, Option.bind_some, List.toList_toArray, addX_nil, updo_some, updo_none, orU_some, List.filter_nil, load_agg Tryz.agg60 Tryz.size60, load_agg Tryz.agg36 Tryz.size36, load_one Tryz.agg9, load_one Tryz.agg3, load_one Tryz.agg31, load_one Tryz.agg56, Tryz.fa60_0, Tryz.fa60_1, Tryz.fa60_2, Tryz.fa36_0, Tryz.fa36_1, len_slice Tryz.underlying31, len_slice Tryz.underlying56, H.lay, rowO_put, rowA_cells, Nat.zero_add, Nat.add_zero, ↓reduceIte, iaddr_slice Tryz.underlying31 Tryz.size36 hlt, iaddr_slice Tryz.underlying31 Tryz.size36 hlt2, hrow, hrow2, kc, kc2, neq36 s t 36 rfl, e1]; rfl⟩)
        simp only [List.filter_nil, addX_nil, updo_some, updo_none, orU_some]
        show AWp _ _ _ _ _
        (repeat refine AWp.seq ?_); change AWp _ _ _ _ _; refine AWp.yes (by rfl) (by rfl) ?_
        (repeat refine AWp.seq ?_); change AWp _ _ _ _ _; refine AWp.region ?_; (repeat (first | refine AOps.v rfl rfl rfl rfl rfl (by simp only [evS, cond_tt, cond_ff, absV, depthV, Nat.reduceEqDiff, Nat.reduceLT, ↓reduceIte, Option.map_some, Option.bind_some, List.toList_toArray]; rfl) ?_ | refine AOps.s rfl rfl rfl ?_ | refine AOps.u rfl rfl rfl rfl (by simp only [evS, cond_tt, cond_ff, absV, depthV, Nat.reduceEqDiff, Nat.reduceLT, ↓reduceIte, Option.map_some, Option.bind_some, List.toList_toArray]; rfl) ?_)); refine AOps.nil ?_
        refine AWp.ret ?_
        have hne : decide (a = b) = false := by
          rw [decide_eq_false_iff_not]; intro hab; subst hab
          rw [hs] at ht; cases ht; simp at e1
        (try simp only [OutOf, Then, Round, NoGoto]); refine leaves_plain (by rfl) (by rfl) (fun _ => rfl) (by rfl) ⟨?_, rfl⟩; rw [hne]; rfl
      · have est : s = t := by simpa using e1
        (repeat refine AWp.seq ?_)
        refine AWp.draws (cv := cv0) cv0_ok rfl (L := 9) rfl (ms := [0, 0, 3, 7, 0, 0, 48, 112, 255]) (by kernel_rfl) (by kernel_rfl) ?_
        (repeat (first | refine DRun.r rfl rfl rfl rfl rfl rfl (by simp only [evS, cond_tt, cond_ff, absV, depthV, Nat.reduceEqDiff, Nat.reduceLT, ↓reduceIte, Option.map_some, Option.bind_some, List.toList_toArray, addX_nil, updo_some, updo_none, orU_some, List.filter_nil, load_agg Tryz.agg60 Tryz.size60, load_agg Tryz.agg36 Tryz.size36, load_one Tryz.agg9, load_one Tryz.agg3, load_one Tryz.agg31, load_one Tryz.agg56, Tryz.fa60_0, Tryz.fa60_1, Tryz.fa60_2, Tryz.fa36_0, Tryz.fa36_1, len_slice Tryz.underlying31, len_slice Tryz.underlying56, H.lay, rowO_put, rowA_cells, Nat.zero_add, Nat.add_zero, ↓reduceIte, iaddr_slice Tryz.underlying31 Tryz.size36 hlt, iaddr_slice Tryz.underlying31 Tryz.size36 hlt2, hrow, hrow2, kc, kc2, neq36 s t 36 rfl, e1]; rfl) ?_ | refine DRun.s rfl rfl rfl ?_))
        refine DRun.nil ⟨?_, ?_⟩
        · (intro y hy; simp only [List.nil_append, List.cons_append, List.mem_cons, List.not_mem_nil, or_false] at hy; (repeat' (rcases hy with hy | hy)) <;> (try subst hy) <;> refine ⟨by first | exact eqTop_str _ _ | exact eqTop_int _ _ _ | exact eqTop_bool _ _ | exact eqTop_ptr _ _ _ | exact eqTop_map _ _ | exact eqTop_slice _ _ _ _ _ _ | exact eqTop_sh _ _ | (simp only [eqTop_agg, eqTop_tup, eqTop, all2, eqL_eq, eqI_eq, kEq, decide_true, Bool.and_self, Bool.and_true]; done), ?_⟩ <;> (simp only [phOk]; refine ⟨?_, trivial⟩) <;> first | exact trivial | exact Or.inl rfl | exact Or.inr ⟨_, by simp only [evS, cond_tt, cond_ff, absV, depthV, Nat.reduceEqDiff, Nat.reduceLT, ↓reduceIte, Option.map_some, Option.bind_some, List.toList_toArray, addX_nil, updo_some, updo_none, orU_some, List.filter_nil, load_agg Tryz.agg60 Tryz.size60, load_agg Tryz.agg36 Tryz.size36, load_one Tryz.agg9, load_one Tryz.agg3, load_one Tryz.agg31, load_one Tryz.agg56, Tryz.fa60_0, Tryz.fa60_1, Tryz.fa60_2, Tryz.fa36_0, Tryz.fa36_1, len_slice Tryz.underlying31, len_slice Tryz.underlying56, H.lay, rowO_put, rowA_cells, Nat.zero_add, Nat.add_zero, ↓reduceIte, iaddr_slice Tryz.underlying31 Tryz.size36 hlt, iaddr_slice Tryz.underlying31 Tryz.size36 hlt2, hrow, hrow2, kc, kc2, neq36 s t 36 rfl, e1]; rfl⟩)
        simp only [List.filter_nil, addX_nil, updo_some, updo_none, orU_some]
        show AWp _ _ _ _ _
        (repeat refine AWp.seq ?_); change AWp _ _ _ _ _; refine AWp.no (by rfl) (by rfl) (AWp.skip ?_)
        (repeat refine AWp.seq ?_); change AWp _ _ _ _ _; refine AWp.region ?_; (repeat (first | refine AOps.v rfl rfl rfl rfl rfl (by simp only [evS, cond_tt, cond_ff, absV, depthV, Nat.reduceEqDiff, Nat.reduceLT, ↓reduceIte, Option.map_some, Option.bind_some, List.toList_toArray, bin_add (show -9223372036854775808 ≤ (k : Int) + 1 ∧ (k : Int) + 1 ≤ 9223372036854775807 from ⟨by omega, by omega⟩)]; rfl) ?_ | refine AOps.s rfl rfl rfl ?_ | refine AOps.u rfl rfl rfl rfl (by simp only [evS, cond_tt, cond_ff, absV, depthV, Nat.reduceEqDiff, Nat.reduceLT, ↓reduceIte, Option.map_some, Option.bind_some, List.toList_toArray, bin_add (show -9223372036854775808 ≤ (k : Int) + 1 ∧ (k : Int) + 1 ≤ 9223372036854775807 from ⟨by omega, by omega⟩)]; rfl) ?_)); refine AOps.nil ?_
        refine ⟨a.length - (k + 1), by omega, k + 1, kn + 9, by omega, rfl, by omega, fun i hi => ?_, rfl, rfl, rfl, rfl, rfl, rfl, rfl, trivial⟩
        by_cases ee : i = k
        · subst ee; rw [hs, ht, est]
        · exact hall i (by omega)
    · have hkk : k = a.length := by omega
      subst hkk
      have c1 : decide ((a.length : Int) < (a.length : Int)) = false := by simp
      (repeat refine AWp.seq ?_); change AWp _ _ _ _ _; refine AWp.region ?_; (repeat (first | refine AOps.v rfl rfl rfl rfl rfl (by simp only [evS, cond_tt, cond_ff, absV, depthV, Nat.reduceEqDiff, Nat.reduceLT, ↓reduceIte, Option.map_some, Option.bind_some, List.toList_toArray, load_agg Tryz.agg60 Tryz.size60, load_agg Tryz.agg36 Tryz.size36, load_one Tryz.agg9, load_one Tryz.agg3, load_one Tryz.agg31, load_one Tryz.agg56, Tryz.fa60_0, Tryz.fa60_1, Tryz.fa60_2, Tryz.fa36_0, Tryz.fa36_1, len_slice Tryz.underlying31, len_slice Tryz.underlying56, H.lay, rowO_put, rowA_cells, Nat.zero_add, Nat.add_zero, ↓reduceIte, c1]; rfl) ?_ | refine AOps.s rfl rfl rfl ?_ | refine AOps.u rfl rfl rfl rfl (by simp only [evS, cond_tt, cond_ff, absV, depthV, Nat.reduceEqDiff, Nat.reduceLT, ↓reduceIte, Option.map_some, Option.bind_some, List.toList_toArray, load_agg Tryz.agg60 Tryz.size60, load_agg Tryz.agg36 Tryz.size36, load_one Tryz.agg9, load_one Tryz.agg3, load_one Tryz.agg31, load_one Tryz.agg56, Tryz.fa60_0, Tryz.fa60_1, Tryz.fa60_2, Tryz.fa36_0, Tryz.fa36_1, len_slice Tryz.underlying31, len_slice Tryz.underlying56, H.lay, rowO_put, rowA_cells, Nat.zero_add, Nat.add_zero, ↓reduceIte, c1]; rfl) ?_)); refine AOps.nil ?_
      (repeat refine AWp.seq ?_); change AWp _ _ _ _ _; refine AWp.no (by rfl) (by rfl) ?_
      refine AWp.exit ?_
      (repeat refine AWp.seq ?_); change AWp _ _ _ _ _; refine AWp.region ?_; (repeat (first | refine AOps.v rfl rfl rfl rfl rfl (by simp only [evS, cond_tt, cond_ff, absV, depthV, Nat.reduceEqDiff, Nat.reduceLT, ↓reduceIte, Option.map_some, Option.bind_some, List.toList_toArray]; rfl) ?_ | refine AOps.s rfl rfl rfl ?_ | refine AOps.u rfl rfl rfl rfl (by simp only [evS, cond_tt, cond_ff, absV, depthV, Nat.reduceEqDiff, Nat.reduceLT, ↓reduceIte, Option.map_some, Option.bind_some, List.toList_toArray]; rfl) ?_)); refine AOps.nil ?_
      refine AWp.ret ?_
      have heq : decide (a = b) = true := by
        rw [decide_eq_true_eq]
        apply List.ext_getElem?
        intro i
        by_cases hi : i < a.length
        · exact hall i hi
        · rw [List.getElem?_eq_none (by omega), List.getElem?_eq_none (by omega)]
      (try simp only [OutOf, Then, Round, NoGoto]); refine leaves_plain (by rfl) (by rfl) (fun _ => rfl) (by rfl) ⟨?_, rfl⟩; rw [heq]; rfl
  · have c0 : decide ((a.length : Int) = (b.length : Int)) = false := by rw [decide_eq_false_iff_not]; omega
    have hne : decide (a = b) = false := by rw [decide_eq_false_iff_not]; intro hab; subst hab; exact hl rfl
    (repeat refine AWp.seq ?_); change AWp _ _ _ _ _; refine AWp.region ?_; (repeat (first | refine AOps.v rfl rfl rfl rfl rfl (by simp only [evS, cond_tt, cond_ff, absV, depthV, Nat.reduceEqDiff, Nat.reduceLT, ↓reduceIte, Option.map_some, Option.bind_some, List.toList_toArray, load_agg Tryz.agg60 Tryz.size60, load_agg Tryz.agg36 Tryz.size36, load_one Tryz.agg9, load_one Tryz.agg3, load_one Tryz.agg31, load_one Tryz.agg56, Tryz.fa60_0, Tryz.fa60_1, Tryz.fa60_2, Tryz.fa36_0, Tryz.fa36_1, len_slice Tryz.underlying31, len_slice Tryz.underlying56, H.lay, rowO_put, rowA_cells, Nat.zero_add, Nat.add_zero, ↓reduceIte, c0]; rfl) ?_ | refine AOps.s rfl rfl rfl ?_ | refine AOps.u rfl rfl rfl rfl (by simp only [evS, cond_tt, cond_ff, absV, depthV, Nat.reduceEqDiff, Nat.reduceLT, ↓reduceIte, Option.map_some, Option.bind_some, List.toList_toArray, load_agg Tryz.agg60 Tryz.size60, load_agg Tryz.agg36 Tryz.size36, load_one Tryz.agg9, load_one Tryz.agg3, load_one Tryz.agg31, load_one Tryz.agg56, Tryz.fa60_0, Tryz.fa60_1, Tryz.fa60_2, Tryz.fa36_0, Tryz.fa36_1, len_slice Tryz.underlying31, len_slice Tryz.underlying56, H.lay, rowO_put, rowA_cells, Nat.zero_add, Nat.add_zero, ↓reduceIte, c0]; rfl) ?_)); refine AOps.nil ?_
    (repeat refine AWp.seq ?_); change AWp _ _ _ _ _; refine AWp.yes (by rfl) (by rfl) ?_
    (repeat refine AWp.seq ?_); change AWp _ _ _ _ _; refine AWp.region ?_; (repeat (first | refine AOps.v rfl rfl rfl rfl rfl (by simp only [evS, cond_tt, cond_ff, absV, depthV, Nat.reduceEqDiff, Nat.reduceLT, ↓reduceIte, Option.map_some, Option.bind_some, List.toList_toArray]; rfl) ?_ | refine AOps.s rfl rfl rfl ?_ | refine AOps.u rfl rfl rfl rfl (by simp only [evS, cond_tt, cond_ff, absV, depthV, Nat.reduceEqDiff, Nat.reduceLT, ↓reduceIte, Option.map_some, Option.bind_some, List.toList_toArray]; rfl) ?_)); refine AOps.nil ?_
    refine AWp.ret ?_
    (try simp only [OutOf, Then, Round, NoGoto]); refine leaves_plain (by rfl) (by rfl) (fun _ => rfl) (by rfl) ⟨?_, rfl⟩; rw [hne]; rfl

end Go.Proofs

/- Seat r1: bogielaw43.CostAdds. No conditions beyond those that each theorem states. -/
namespace Go.Proofs
open Go.Ev
set_option maxRecDepth 100000

theorem Tryz.info49 : Tryz.prog.info? 49 = some Tryz.t49 := by kernel_rfl

theorem one_rowsW (ws : List Wy) : (ws.map Wy.cells).flatten.all oneC = true := by
  induction ws with
  | nil => rfl
  | cons w ws ih => rw [List.map_cons, List.flatten_cons, List.all_append, ih, Bool.and_true]; rfl

theorem cellsZ2 {cs : List AV} {off : Nat} {ts : List Sh} (hc : ∀ (i : Nat) (r : List AV), (ts.map Sh.cells)[i]? = some r → ∀ k, k < 2 → cs[off + i * 2 + k]? = r[k]?) {i : Nat} {t : Sh} (h : ts[i]? = some t) :
    cs[off + i * 2]? = some (.str t.pt) ∧ cs[off + i * 2 + 1]? = some (.int .i64 t.am) := by
  have h1 := hc i _ (rowsS_get ts h) 0 (by omega)
  have h2 := hc i _ (rowsS_get ts h) 1 (by omega)
  exact ⟨h1, h2⟩

set_option maxHeartbeats 8000000 in
theorem Tryz.adds (ws : List Wy) (ps : List Pt) (c : Co) (hw : ∀ w ∈ ws, w.kind.length ≤ 1000000000000000 ∧ w.maker.length ≤ 1000000000000000) (hwb : ∀ w ∈ ws, (∀ b ∈ w.kind, b < 256) ∧ ∀ b ∈ w.maker, b < 256)
    (hc : c.part.length ≤ 1000000000000000 ∧ c.owner.length ≤ 1000000000000000) (hcb : (∀ b ∈ c.part, b < 256) ∧ ∀ b ∈ c.owner, b < 256) (hlp : ps.length ≤ 1000000000000000)
    (v pv : AV) (h : H) (hv : RdS h v 5 (ws.map Wy.cells)) (hvt : ∀ n, eqTop (n + 1) v v = true) (hp : RdS h pv 14 (ps.map Pt.cells)) (hpv1 : pv.cells = [pv]) (hok : ∀ p ∈ ps, PtOk h p) :
    ACalls Tryz.prog (.func 3) [v, .agg [pv], .agg c.cells] h (fun r h' => r = .bool true ∧ h' = h) := by
  refine ACalls.body (n := 236) Tryz.nogo Tryz.func3 rfl rfl ?_
  rw [argF3]
  have q0 : c.cells[0]? = some (.str c.part) := rfl
  have q1 : c.cells[1]? = some (.str c.owner) := rfl
  have q2 : c.cells[2]? = some (.int .i64 c.day) := rfl
  have q3 : c.cells[3]? = some (.int .i64 c.am) := rfl
  have hch1 : chunkL [pv] 0 1 = some [pv] := rfl
  have hch4 : chunkL c.cells 0 4 = some c.cells := rfl
  obtain ⟨wo, we, wc, hvs⟩ := hv.len
  rw [List.length_map] at hvs
  have hgood : ∀ (f : Nat → AV) (o : Tr AO) (fm : Tr (Nat × Nat)) (kn : Nat), Lv Tryz.prog Tryz.f3 h (fun r h' => r = .bool true ∧ h' = h) .ret ⟨upd f 6 (.bool true), 236, ⟨o, fm, kn, h.next⟩, []⟩ := fun f o fm kn =>
    leaves_plain (v := .bool true) (by rfl) (by rfl) (fun _ => rfl) (by rfl) ⟨rfl, rfl⟩
  have hv0 : RdS ⟨h.objs, h.fams, h.next, h.next⟩ v 5 (ws.map Wy.cells) := ⟨hv.wide, hv.at'⟩
  have hp0 : RdS ⟨h.objs, h.fams, h.next, h.next⟩ pv 14 (ps.map Pt.cells) := ⟨hp.wide, hp.at'⟩
  have hok0 : ∀ p ∈ ps, PtOk ⟨h.objs, h.fams, h.next, h.next⟩ p := fun p hp => let x := hok p hp; ⟨x.one, x.top, x.n, x.k, x.i, x.s, let ⟨l, h1, h2, h3⟩ := x.pr; ⟨l, ⟨h1.wide, h1.at'⟩, h2, h3⟩⟩
  have hone : ∀ p ∈ ps, oneC p.props = true := fun p hp => (hok p hp).one
  (repeat refine AWp.seq ?_); change AWp _ _ _ _ _; refine AWp.region ?_; (repeat (first | refine AOps.v rfl rfl rfl rfl rfl (by simp only [evS, cond_tt, cond_ff, absV, depthV, Nat.reduceEqDiff, Nat.reduceLT, ↓reduceIte, Option.map_some, Option.bind_some, List.toList_toArray, op_box, H.lay]; rfl) ?_ | refine AOps.s rfl rfl rfl ?_ | refine AOps.u rfl rfl rfl rfl (by simp only [evS, cond_tt, cond_ff, absV, depthV, Nat.reduceEqDiff, Nat.reduceLT, ↓reduceIte, Option.map_some, Option.bind_some, List.toList_toArray, op_box, H.lay]; rfl) ?_)); refine AOps.nil ?_
  obtain ⟨O2, hO2⟩ : ∃ X, X = Tr.put (Tr.put h.objs h.next (some (.cells [pv] h.next))) (h.next + 1) (some (.cells c.cells (h.next + 1))) := ⟨_, rfl⟩
  obtain ⟨F2, hF2⟩ : ∃ X, X = Tr.put (Tr.put h.fams h.next (some (h.next, h.next))) (h.next + 1) (some (h.next + 1, h.next + 1)) := ⟨_, rfl⟩
  rw [← hO2, ← hF2]
  have g0 : rowO O2 h.next = some [pv] := by unfold rowO; rw [hO2, put_other _ _ (by omega), put_same]; rfl
  have g1 : rowO O2 (h.next + 1) = some c.cells := by unfold rowO; rw [hO2, put_same]; rfl
  have hov2 : Over h.next ⟨h.objs, h.fams, h.next, h.next⟩ ⟨O2, F2, h.next + 1 + 1, h.next⟩ := Over.mk' (by omega) (fun j hj => by rw [hO2, put_other _ _ (by omega), put_other _ _ (by omega)]) (fun j hj => by rw [hF2, put_other _ _ (by omega), put_other _ _ (by omega)])
  clear hO2 hF2
  have hv2 := rdS_over hov2 hv0
  have hp2 := rdS_over hov2 hp0
  have hok2 : ∀ p ∈ ps, PtOk ⟨O2, F2, h.next + 1 + 1, h.next⟩ p := fun p hp => (hok0 p hp).over hov2
  (repeat refine AWp.seq ?_); change AWp _ _ _ _ _; refine AWp.region ?_; (repeat (first | refine AOps.v rfl rfl rfl rfl rfl (by simp only [evS, cond_tt, cond_ff, absV, depthV, Nat.reduceEqDiff, Nat.reduceLT, ↓reduceIte, Option.map_some, Option.bind_some, List.toList_toArray]; rfl) ?_ | refine AOps.s rfl rfl rfl ?_ | refine AOps.u rfl rfl rfl rfl (by simp only [evS, cond_tt, cond_ff, absV, depthV, Nat.reduceEqDiff, Nat.reduceLT, ↓reduceIte, Option.map_some, Option.bind_some, List.toList_toArray]; rfl) ?_))
  refine AOps.c rfl rfl rfl rfl rfl (by simp only [callOf_val, callW_fn, evS, cond_tt, cond_ff, absV, depthV, Nat.reduceEqDiff, Nat.reduceLT, ↓reduceIte, Option.map_some, Option.bind_some, List.toList_toArray]; rfl) rfl (Tryz.head43 _) ?_; rintro _ _ ⟨rfl, rfl⟩
  (repeat (first | refine AOps.v rfl rfl rfl rfl rfl (by simp only [evS, cond_tt, cond_ff, absV, depthV, Nat.reduceEqDiff, Nat.reduceLT, ↓reduceIte, Option.map_some, Option.bind_some, List.toList_toArray]; rfl) ?_ | refine AOps.s rfl rfl rfl ?_ | refine AOps.u rfl rfl rfl rfl (by simp only [evS, cond_tt, cond_ff, absV, depthV, Nat.reduceEqDiff, Nat.reduceLT, ↓reduceIte, Option.map_some, Option.bind_some, List.toList_toArray]; rfl) ?_))
  refine AOps.nil ?_
  -- the guard
  (repeat refine AWp.seq ?_); change AWp _ _ _ _ _; refine AWp.region ?_; (repeat (first | refine AOps.v rfl rfl rfl rfl rfl (by simp only [evS, cond_tt, cond_ff, absV, depthV, Nat.reduceEqDiff, Nat.reduceLT, ↓reduceIte, Option.map_some, Option.bind_some, List.toList_toArray, Tryz.tw, H.lay, Nat.zero_add, Nat.add_zero, ↓reduceIte, List.getElem?_cons_zero, List.getElem?_cons_succ, g1, hch4]; rfl) ?_ | refine AOps.s rfl rfl rfl ?_ | refine AOps.u rfl rfl rfl rfl (by simp only [evS, cond_tt, cond_ff, absV, depthV, Nat.reduceEqDiff, Nat.reduceLT, ↓reduceIte, Option.map_some, Option.bind_some, List.toList_toArray, Tryz.tw, H.lay, Nat.zero_add, Nat.add_zero, ↓reduceIte, List.getElem?_cons_zero, List.getElem?_cons_succ, g1, hch4]; rfl) ?_))
  refine AOps.c rfl rfl rfl rfl rfl (by simp only [callOf_val, callW_fn, evS, cond_tt, cond_ff, absV, depthV, Nat.reduceEqDiff, Nat.reduceLT, ↓reduceIte, Option.map_some, Option.bind_some, List.toList_toArray]; rfl) rfl (Tryz.fewCost ws c hw hc _ _ hv2) ?_; rintro _ _ ⟨rfl, rfl⟩
  cases e1 : fewW ws c
  case false =>
    (repeat (first | refine AOps.v rfl rfl rfl rfl rfl (by simp only [evS, cond_tt, cond_ff, absV, depthV, Nat.reduceEqDiff, Nat.reduceLT, ↓reduceIte, Option.map_some, Option.bind_some, List.toList_toArray]; rfl) ?_ | refine AOps.s rfl rfl rfl ?_ | refine AOps.u rfl rfl rfl rfl (by simp only [evS, cond_tt, cond_ff, absV, depthV, Nat.reduceEqDiff, Nat.reduceLT, ↓reduceIte, Option.map_some, Option.bind_some, List.toList_toArray]; rfl) ?_))
    refine AOps.nil ?_
    (repeat refine AWp.seq ?_); change AWp _ _ _ _ _; refine AWp.yes (by rfl) (by rfl) ?_
    (repeat refine AWp.seq ?_); change AWp _ _ _ _ _; refine AWp.region ?_; (repeat (first | refine AOps.v rfl rfl rfl rfl rfl (by simp only [evS, cond_tt, cond_ff, absV, depthV, Nat.reduceEqDiff, Nat.reduceLT, ↓reduceIte, Option.map_some, Option.bind_some, List.toList_toArray]; rfl) ?_ | refine AOps.s rfl rfl rfl ?_ | refine AOps.u rfl rfl rfl rfl (by simp only [evS, cond_tt, cond_ff, absV, depthV, Nat.reduceEqDiff, Nat.reduceLT, ↓reduceIte, Option.map_some, Option.bind_some, List.toList_toArray]; rfl) ?_)); refine AOps.nil ?_
    refine AWp.ret ?_
    (try simp only [OutOf, Then, Round, NoGoto])
    exact hgood _ _ _ _
  (repeat (first | refine AOps.v rfl rfl rfl rfl rfl (by simp only [evS, cond_tt, cond_ff, absV, depthV, Nat.reduceEqDiff, Nat.reduceLT, ↓reduceIte, Option.map_some, Option.bind_some, List.toList_toArray, Tryz.tw, H.lay, Nat.zero_add, Nat.add_zero, ↓reduceIte, List.getElem?_cons_zero, List.getElem?_cons_succ, g0, hch1]; rfl) ?_ | refine AOps.s rfl rfl rfl ?_ | refine AOps.u rfl rfl rfl rfl (by simp only [evS, cond_tt, cond_ff, absV, depthV, Nat.reduceEqDiff, Nat.reduceLT, ↓reduceIte, Option.map_some, Option.bind_some, List.toList_toArray, Tryz.tw, H.lay, Nat.zero_add, Nat.add_zero, ↓reduceIte, List.getElem?_cons_zero, List.getElem?_cons_succ, g0, hch1]; rfl) ?_))
  refine AOps.c rfl rfl rfl rfl rfl (by simp only [callOf_val, callW_fn, evS, cond_tt, cond_ff, absV, depthV, Nat.reduceEqDiff, Nat.reduceLT, ↓reduceIte, Option.map_some, Option.bind_some, List.toList_toArray]; rfl) rfl (Tryz.fewState ps 15 hlp _ ⟨O2, F2, h.next + 1 + 1, h.next⟩ hp2 hok2) ?_
  rintro _ _ ⟨b1, rfl, rfl, hb1⟩
  cases b1
  case false =>
    (repeat (first | refine AOps.v rfl rfl rfl rfl rfl (by simp only [evS, cond_tt, cond_ff, absV, depthV, Nat.reduceEqDiff, Nat.reduceLT, ↓reduceIte, Option.map_some, Option.bind_some, List.toList_toArray]; rfl) ?_ | refine AOps.s rfl rfl rfl ?_ | refine AOps.u rfl rfl rfl rfl (by simp only [evS, cond_tt, cond_ff, absV, depthV, Nat.reduceEqDiff, Nat.reduceLT, ↓reduceIte, Option.map_some, Option.bind_some, List.toList_toArray]; rfl) ?_))
    refine AOps.nil ?_
    (repeat refine AWp.seq ?_); change AWp _ _ _ _ _; refine AWp.yes (by rfl) (by rfl) ?_
    (repeat refine AWp.seq ?_); change AWp _ _ _ _ _; refine AWp.region ?_; (repeat (first | refine AOps.v rfl rfl rfl rfl rfl (by simp only [evS, cond_tt, cond_ff, absV, depthV, Nat.reduceEqDiff, Nat.reduceLT, ↓reduceIte, Option.map_some, Option.bind_some, List.toList_toArray]; rfl) ?_ | refine AOps.s rfl rfl rfl ?_ | refine AOps.u rfl rfl rfl rfl (by simp only [evS, cond_tt, cond_ff, absV, depthV, Nat.reduceEqDiff, Nat.reduceLT, ↓reduceIte, Option.map_some, Option.bind_some, List.toList_toArray]; rfl) ?_)); refine AOps.nil ?_
    refine AWp.ret ?_
    (try simp only [OutOf, Then, Round, NoGoto])
    exact hgood _ _ _ _
  have hlp15 : (ps.length : Int) ≤ 15 := hb1 rfl
  (repeat (first | refine AOps.v rfl rfl rfl rfl rfl (by simp only [evS, cond_tt, cond_ff, absV, depthV, Nat.reduceEqDiff, Nat.reduceLT, ↓reduceIte, Option.map_some, Option.bind_some, List.toList_toArray]; rfl) ?_ | refine AOps.s rfl rfl rfl ?_ | refine AOps.u rfl rfl rfl rfl (by simp only [evS, cond_tt, cond_ff, absV, depthV, Nat.reduceEqDiff, Nat.reduceLT, ↓reduceIte, Option.map_some, Option.bind_some, List.toList_toArray]; rfl) ?_))
  refine AOps.nil ?_
  (repeat refine AWp.seq ?_); change AWp _ _ _ _ _; refine AWp.no (by rfl) (by rfl) (AWp.skip ?_)
  have hfw : ws.length ≤ 6 ∧ (∀ w ∈ ws, w.fits) ∧ c.fits := by
    unfold fewW at e1
    rw [Bool.and_eq_true, Bool.and_eq_true, List.all_eq_true] at e1
    obtain ⟨f1, f2, f3⟩ := e1
    have f1 := of_decide_eq_true f1
    have f3 := of_decide_eq_true f3
    refine ⟨f1, fun w hwm => ?_, ⟨by omega, hcb.1, by omega, hcb.2⟩⟩
    have := f2 w hwm
    unfold Wy.few at this
    have := of_decide_eq_true this
    exact ⟨by omega, (hwb w hwm).1, by omega, (hwb w hwm).2⟩
  obtain ⟨hlw, hwf, hcf⟩ := hfw
  -- the shares
  (repeat refine AWp.seq ?_); change AWp _ _ _ _ _; refine AWp.region ?_; (repeat (first | refine AOps.v rfl rfl rfl rfl rfl (by simp only [evS, cond_tt, cond_ff, absV, depthV, Nat.reduceEqDiff, Nat.reduceLT, ↓reduceIte, Option.map_some, Option.bind_some, List.toList_toArray, Tryz.tw, H.lay, Nat.zero_add, Nat.add_zero, ↓reduceIte, List.getElem?_cons_zero, List.getElem?_cons_succ, g0, g1, hch1, hch4]; rfl) ?_ | refine AOps.s rfl rfl rfl ?_ | refine AOps.u rfl rfl rfl rfl (by simp only [evS, cond_tt, cond_ff, absV, depthV, Nat.reduceEqDiff, Nat.reduceLT, ↓reduceIte, Option.map_some, Option.bind_some, List.toList_toArray, Tryz.tw, H.lay, Nat.zero_add, Nat.add_zero, ↓reduceIte, List.getElem?_cons_zero, List.getElem?_cons_succ, g0, g1, hch1, hch4]; rfl) ?_))
  refine AOps.c rfl rfl rfl rfl rfl (by simp only [callOf_val, callW_fn, evS, cond_tt, cond_ff, absV, depthV, Nat.reduceEqDiff, Nat.reduceLT, ↓reduceIte, Option.map_some, Option.bind_some, List.toList_toArray]; rfl) rfl (Tryz.shares ws ps c (by omega) (by omega) hwf hcf _ _ ⟨O2, F2, h.next + 1 + 1, h.next⟩ hv2 hp2 hpv1 hone) ?_
  rintro _ ⟨o3, f3, n3, l3⟩ ⟨code, lv, ss, rfl, hov3, hrd3, htop3, hc3⟩
  have hl3 : l3 = h.next := hov3.low (show h.next ≤ h.next + 1 + 1 by omega)
  subst hl3
  have hn3 : h.next + 1 + 1 ≤ n3 := hov3.next
  have g03 : rowO o3 h.next = some [pv] := rowO_of g0 (hov3.objs h.next (by show h.next < h.next + 1 + 1; omega))
  have g13 : rowO o3 (h.next + 1) = some c.cells := rowO_of g1 (hov3.objs (h.next + 1) (by show h.next + 1 < h.next + 1 + 1; omega))
  have hv3 := rdS_over hov3 hv2
  have hp3 := rdS_over hov3 hp2
  (repeat (first | refine AOps.v rfl rfl rfl rfl rfl (by simp only [evS, cond_tt, cond_ff, absV, depthV, Nat.reduceEqDiff, Nat.reduceLT, ↓reduceIte, Option.map_some, Option.bind_some, List.toList_toArray]; rfl) ?_ | refine AOps.s rfl rfl rfl ?_ | refine AOps.u rfl rfl rfl rfl (by simp only [evS, cond_tt, cond_ff, absV, depthV, Nat.reduceEqDiff, Nat.reduceLT, ↓reduceIte, Option.map_some, Option.bind_some, List.toList_toArray]; rfl) ?_))
  refine AOps.nil ?_
  obtain ⟨so, se, sc, rfl⟩ := hrd3.len
  rw [List.length_map] at hrd3 htop3 ⊢
  rcases hc3 with ⟨hr, rfl, rfl⟩ | ⟨hr, hf, rfl, rfl⟩ | ⟨hr, hsome, rfl, hl⟩
  · (repeat refine AWp.seq ?_); change AWp _ _ _ _ _; refine AWp.region ?_; (repeat (first | refine AOps.v rfl rfl rfl rfl rfl (by simp only [evS, cond_tt, cond_ff, absV, depthV, Nat.reduceEqDiff, Nat.reduceLT, ↓reduceIte, Option.map_some, Option.bind_some, List.toList_toArray]; rfl) ?_ | refine AOps.s rfl rfl rfl ?_ | refine AOps.u rfl rfl rfl rfl (by simp only [evS, cond_tt, cond_ff, absV, depthV, Nat.reduceEqDiff, Nat.reduceLT, ↓reduceIte, Option.map_some, Option.bind_some, List.toList_toArray]; rfl) ?_)); refine AOps.nil ?_
    (repeat refine AWp.seq ?_); change AWp _ _ _ _ _; refine AWp.yes (by rfl) (by rfl) ?_
    (repeat refine AWp.seq ?_); change AWp _ _ _ _ _; refine AWp.region ?_; (repeat (first | refine AOps.v rfl rfl rfl rfl rfl (by simp only [evS, cond_tt, cond_ff, absV, depthV, Nat.reduceEqDiff, Nat.reduceLT, ↓reduceIte, Option.map_some, Option.bind_some, List.toList_toArray, len_slice Tryz.underlying31, List.length_nil]; rfl) ?_ | refine AOps.s rfl rfl rfl ?_ | refine AOps.u rfl rfl rfl rfl (by simp only [evS, cond_tt, cond_ff, absV, depthV, Nat.reduceEqDiff, Nat.reduceLT, ↓reduceIte, Option.map_some, Option.bind_some, List.toList_toArray, len_slice Tryz.underlying31, List.length_nil]; rfl) ?_)); refine AOps.nil ?_
    refine AWp.ret ?_
    (try simp only [OutOf, Then, Round, NoGoto])
    exact hgood _ _ _ _
  · (repeat refine AWp.seq ?_); change AWp _ _ _ _ _; refine AWp.region ?_; (repeat (first | refine AOps.v rfl rfl rfl rfl rfl (by simp only [evS, cond_tt, cond_ff, absV, depthV, Nat.reduceEqDiff, Nat.reduceLT, ↓reduceIte, Option.map_some, Option.bind_some, List.toList_toArray]; rfl) ?_ | refine AOps.s rfl rfl rfl ?_ | refine AOps.u rfl rfl rfl rfl (by simp only [evS, cond_tt, cond_ff, absV, depthV, Nat.reduceEqDiff, Nat.reduceLT, ↓reduceIte, Option.map_some, Option.bind_some, List.toList_toArray]; rfl) ?_)); refine AOps.nil ?_
    (repeat refine AWp.seq ?_); change AWp _ _ _ _ _; refine AWp.yes (by rfl) (by rfl) ?_
    (repeat refine AWp.seq ?_); change AWp _ _ _ _ _; refine AWp.region ?_; (repeat (first | refine AOps.v rfl rfl rfl rfl rfl (by simp only [evS, cond_tt, cond_ff, absV, depthV, Nat.reduceEqDiff, Nat.reduceLT, ↓reduceIte, Option.map_some, Option.bind_some, List.toList_toArray, len_slice Tryz.underlying31, List.length_nil]; rfl) ?_ | refine AOps.s rfl rfl rfl ?_ | refine AOps.u rfl rfl rfl rfl (by simp only [evS, cond_tt, cond_ff, absV, depthV, Nat.reduceEqDiff, Nat.reduceLT, ↓reduceIte, Option.map_some, Option.bind_some, List.toList_toArray, len_slice Tryz.underlying31, List.length_nil]; rfl) ?_)); refine AOps.nil ?_
    refine AWp.ret ?_
    (try simp only [OutOf, Then, Round, NoGoto])
    exact hgood _ _ _ _
  (repeat refine AWp.seq ?_); change AWp _ _ _ _ _; refine AWp.region ?_; (repeat (first | refine AOps.v rfl rfl rfl rfl rfl (by simp only [evS, cond_tt, cond_ff, absV, depthV, Nat.reduceEqDiff, Nat.reduceLT, ↓reduceIte, Option.map_some, Option.bind_some, List.toList_toArray]; rfl) ?_ | refine AOps.s rfl rfl rfl ?_ | refine AOps.u rfl rfl rfl rfl (by simp only [evS, cond_tt, cond_ff, absV, depthV, Nat.reduceEqDiff, Nat.reduceLT, ↓reduceIte, Option.map_some, Option.bind_some, List.toList_toArray]; rfl) ?_)); refine AOps.nil ?_
  (repeat refine AWp.seq ?_); change AWp _ _ _ _ _; refine AWp.no (by rfl) (by rfl) (AWp.skip ?_)
  (repeat refine AWp.seq ?_); change AWp _ _ _ _ _; refine AWp.region ?_; (repeat (first | refine AOps.v rfl rfl rfl rfl rfl (by simp only [evS, cond_tt, cond_ff, absV, depthV, Nat.reduceEqDiff, Nat.reduceLT, ↓reduceIte, Option.map_some, Option.bind_some, List.toList_toArray]; rfl) ?_ | refine AOps.s rfl rfl rfl ?_ | refine AOps.u rfl rfl rfl rfl (by simp only [evS, cond_tt, cond_ff, absV, depthV, Nat.reduceEqDiff, Nat.reduceLT, ↓reduceIte, Option.map_some, Option.bind_some, List.toList_toArray]; rfl) ?_)); refine AOps.nil ?_
  (repeat refine AWp.seq ?_); change AWp _ _ _ _ _; refine AWp.region ?_; (repeat (first | refine AOps.v rfl rfl rfl rfl rfl (by simp only [evS, cond_tt, cond_ff, absV, depthV, Nat.reduceEqDiff, Nat.reduceLT, ↓reduceIte, Option.map_some, Option.bind_some, List.toList_toArray]; rfl) ?_ | refine AOps.s rfl rfl rfl ?_ | refine AOps.u rfl rfl rfl rfl (by simp only [evS, cond_tt, cond_ff, absV, depthV, Nat.reduceEqDiff, Nat.reduceLT, ↓reduceIte, Option.map_some, Option.bind_some, List.toList_toArray]; rfl) ?_)); refine AOps.nil ?_
  obtain ⟨p, hf⟩ := Option.isSome_iff_exists.1 hsome
  rw [hf] at hl
  have hA : Adds ws p c ss := Adds.of hr hl
  have hco := (right_parts hr).2
  have hcam := am_ok hco
  have hday : 0 ≤ c.day ∧ c.day ≤ 40000 := by
    have := hco
    unfold Co.ok isDy at this
    simp only [Bool.and_eq_true, decide_eq_true_eq] at this; omega
  have hpm : p ∈ ps := List.mem_of_find?_eq_some hf
  have hpone := hone p hpm
  have hpall : p.cells.all oneC = true := by simp only [Pt.cells, List.all_cons, List.all_nil, hpone]; rfl
  have hch14 := pt_chunk p
  have p1 := pt_kind p
  have hsl := hA.len
  have hsum : ∀ k : Nat, 0 ≤ ((ss.take k).map Sh.am).sum ∧ ((ss.take k).map Sh.am).sum ≤ (k : Int) * 1000000000000 := by
    intro k
    induction k with
    | zero => simp
    | succ k ih =>
      by_cases hk : k < ss.length
      · obtain ⟨t, ht⟩ : ∃ t, ss[k]? = some t := ⟨ss[k], List.getElem?_eq_getElem hk⟩
        rw [take_snoc ht, List.map_append, List.sum_append]
        have := hA.pos t (List.mem_of_getElem? ht)
        simp only [List.map_cons, List.map_nil, List.sum_cons, List.sum_nil]
        omega
      · rw [List.take_of_length_le (by omega)] at ih ⊢
        omega
  refine AWp.block (AWp.loop (fun m st => ∃ k kn : Nat, k ≤ ss.length ∧ m = ss.length - k ∧ n3 ≤ kn ∧
    Fr st [(0, v), (4, .ptr (some (h.next, 0))), (5, .ptr (some (h.next + 1, 0))), (6, .bool false), (7, .bool true), (8, .slice so ss.length se sc), (10, .int .i64 (((ss.take k).map Sh.am).sum)), (11, .int .i64 (k : Int))] 236 ⟨o3, f3, kn, h.next⟩ []) ss.length ?_ ?_)
  · exact ⟨0, n3, by omega, by omega, Nat.le_refl _, rfl, rfl, rfl, rfl, rfl, rfl, rfl, rfl, rfl, rfl, rfl, trivial⟩
  rintro m st ⟨k, kn, hk, rfl, hkn, hF⟩
  obtain ⟨f, rfl⟩ := hF.open
  simp only [updL]
  by_cases hlt : k < ss.length
  · have c1 : decide ((k : Int) < (ss.length : Int)) = true := by simp only [decide_eq_true_eq]; omega
    obtain ⟨t, ht⟩ : ∃ t, ss[k]? = some t := ⟨ss[k], List.getElem?_eq_getElem hlt⟩
    have htb := hA.pos t (List.mem_of_getElem? ht)
    obtain ⟨id, off, cap, cs, hv', hid, hrow, hcl, hch, hcell⟩ := hrd3.open (i := k) (by rw [List.length_map]; exact hlt)
    rw [List.length_map] at hv'
    cases hv'
    simp only at hrow hid
    obtain ⟨k0, k1⟩ := cellsZ2 hcell ht
    have hsk := hsum k
    have hnext : ((ss.take (k + 1)).map Sh.am).sum = ((ss.take k).map Sh.am).sum + t.am := by
      rw [take_snoc ht, List.map_append, List.sum_append]; simp
    have hadd := bin_add (P := Tryz.prog) (t := 3) (a := ((ss.take k).map Sh.am).sum) (b := t.am) ⟨by omega, by omega⟩
    have cz : decide (t.am ≤ 0) = false := decide_eq_false (by omega)
    (repeat refine AWp.seq ?_); change AWp _ _ _ _ _; refine AWp.region ?_; (repeat (first | refine AOps.v rfl rfl rfl rfl rfl (by simp only [evS, cond_tt, cond_ff, absV, depthV, Nat.reduceEqDiff, Nat.reduceLT, ↓reduceIte, Option.map_some, Option.bind_some, List.toList_toArray, Tryz.tw, H.lay, Nat.zero_add, Nat.add_zero, ↓reduceIte, List.getElem?_cons_zero, List.getElem?_cons_succ, c1, len_slice Tryz.underlying31]; rfl) ?_ | refine AOps.s rfl rfl rfl ?_ | refine AOps.u rfl rfl rfl rfl (by simp only [evS, cond_tt, cond_ff, absV, depthV, Nat.reduceEqDiff, Nat.reduceLT, ↓reduceIte, Option.map_some, Option.bind_some, List.toList_toArray, Tryz.tw, H.lay, Nat.zero_add, Nat.add_zero, ↓reduceIte, List.getElem?_cons_zero, List.getElem?_cons_succ, c1, len_slice Tryz.underlying31]; rfl) ?_)); refine AOps.nil ?_
    (repeat refine AWp.seq ?_); change AWp _ _ _ _ _; refine AWp.yes (by rfl) (by rfl) (AWp.skip ?_)
    (repeat refine AWp.seq ?_)
    refine AWp.block ?_
    (repeat refine AWp.seq ?_); change AWp _ _ _ _ _; refine AWp.region ?_; (repeat (first | refine AOps.v rfl rfl rfl rfl rfl (by simp only [evS, cond_tt, cond_ff, absV, depthV, Nat.reduceEqDiff, Nat.reduceLT, ↓reduceIte, Option.map_some, Option.bind_some, List.toList_toArray, Tryz.tw, H.lay, Nat.zero_add, Nat.add_zero, ↓reduceIte, List.getElem?_cons_zero, List.getElem?_cons_succ, Tryz.fa36_0, Tryz.fa36_1, iaddr_slice Tryz.underlying31 Tryz.size36 hlt, hrow, k1, hadd]; rfl) ?_ | refine AOps.s rfl rfl rfl ?_ | refine AOps.u rfl rfl rfl rfl (by simp only [evS, cond_tt, cond_ff, absV, depthV, Nat.reduceEqDiff, Nat.reduceLT, ↓reduceIte, Option.map_some, Option.bind_some, List.toList_toArray, Tryz.tw, H.lay, Nat.zero_add, Nat.add_zero, ↓reduceIte, List.getElem?_cons_zero, List.getElem?_cons_succ, Tryz.fa36_0, Tryz.fa36_1, iaddr_slice Tryz.underlying31 Tryz.size36 hlt, hrow, k1, hadd]; rfl) ?_)); refine AOps.nil ?_
    rw [← hnext]
    (repeat refine AWp.seq ?_)
    refine AWp.mono (Q := fun ex st => ex = .normal ∧ ∃ kn' : Nat, n3 ≤ kn' ∧ Fr st [(0, v), (4, .ptr (some (h.next, 0))), (5, .ptr (some (h.next + 1, 0))), (6, .bool false), (7, .bool true), (8, .slice (some (id, off)) ss.length 2 sc), (10, .int .i64 (((ss.take (k + 1)).map Sh.am).sum)), (11, .int .i64 (k : Int)), (87, .bool false)] 236 ⟨o3, f3, kn', h.next⟩ []) ?_ ?_
    · cases k with
      | zero =>
        refine AWp.draws (cv := cv0) cv0_ok rfl (L := 24) rfl (ms := [0, 0, 3, 7, 15, 31, 63, 127, 255, 511, 1023, 1023, 3071, 8191, 16383, 32767, 1023, 1023, 197631, 459775, 984063, 2097151, 4194303, 8388607]) (by kernel_rfl) (by kernel_rfl) ?_
        (repeat (first | refine DRun.r rfl rfl rfl rfl rfl rfl (by simp only [evS, cond_tt, cond_ff, absV, depthV, Nat.reduceEqDiff, Nat.reduceLT, ↓reduceIte, Option.map_some, Option.bind_some, List.toList_toArray, addX_nil, updo_some, updo_none, orU_some, List.filter_nil, Tryz.tw, H.lay, Nat.zero_add, Nat.add_zero, ↓reduceIte, List.getElem?_cons_zero, List.getElem?_cons_succ, Tryz.fa36_0, Tryz.fa36_1, iaddr_slice Tryz.underlying31 Tryz.size36 hlt, hrow, k0, k1, cz]; rfl) ?_ | refine DRun.s rfl rfl rfl ?_))
        refine DRun.nil ⟨?_, ?_⟩
        · (intro y hy; simp only [List.nil_append, List.cons_append, List.mem_cons, List.not_mem_nil, or_false] at hy; (repeat' (rcases hy with hy | hy)) <;> (try subst hy) <;> refine ⟨by first | exact eqTop_str _ _ | exact eqTop_int _ _ _ | exact eqTop_bool _ _ | exact eqTop_ptr _ _ _ | exact eqTop_map _ _ | exact eqTop_slice _ _ _ _ _ _ | (simp only [eqTop_agg, eqTop_tup, eqTop, all2, eqL_eq, eqI_eq, kEq, decide_true, Bool.and_self, Bool.and_true]; done), ?_⟩ <;> (simp only [phOk]; refine ⟨?_, trivial⟩) <;> first | exact trivial | exact Or.inl rfl | exact Or.inr ⟨_, by simp only [evS, cond_tt, cond_ff, absV, depthV, Nat.reduceEqDiff, Nat.reduceLT, ↓reduceIte, Option.map_some, Option.bind_some, List.toList_toArray, addX_nil, updo_some, updo_none, orU_some, List.filter_nil, Tryz.tw, H.lay, Nat.zero_add, Nat.add_zero, ↓reduceIte, List.getElem?_cons_zero, List.getElem?_cons_succ, Tryz.fa36_0, Tryz.fa36_1, iaddr_slice Tryz.underlying31 Tryz.size36 hlt, hrow, k0, k1, cz]; rfl⟩)
        simp only [List.filter_nil, addX_nil, updo_some, updo_none, orU_some]
        refine ⟨trivial, kn + 24, by omega, rfl, rfl, rfl, ?_⟩; (repeat' (first | exact rfl | exact trivial | refine ⟨?_, ?_⟩))
      | succ k =>
        have hltp : k < ss.length := by omega
        obtain ⟨s, hs'⟩ : ∃ s, ss[k]? = some s := ⟨ss[k], List.getElem?_eq_getElem hltp⟩
        obtain ⟨r0, r1⟩ := cellsZ2 hcell hs'
        have hsub : ∀ t0, binA Tryz.prog .sub t0 (.int .i64 ((k + 1 : Nat) : Int)) (.int .i64 1) = some (.int .i64 (k : Int)) := fun t0 => by
          rw [bin_sub (show -9223372036854775808 ≤ ((k + 1 : Nat) : Int) - 1 ∧ ((k + 1 : Nat) : Int) - 1 ≤ 9223372036854775807 from ⟨by omega, by omega⟩)]
          have : ((k + 1 : Nat) : Int) - 1 = (k : Int) := by omega
          rw [this]
        have hgt0 : decide ((0 : Int) < ((k + 1 : Nat) : Int)) = true := by simp only [decide_eq_true_eq]; omega
        have hlts : ltL s.pt t.pt = true := by
          have e1 : ss[k] = s := by rw [List.getElem?_eq_getElem hltp] at hs'; exact Option.some.inj hs'
          have e2 : ss[k + 1] = t := by rw [List.getElem?_eq_getElem hlt] at ht; exact Option.some.inj ht
          have := List.pairwise_iff_getElem.1 hA.lts k (k + 1) hltp hlt (by omega)
          rw [e1, e2] at this; exact this
        have hge : ∀ t0, binA Tryz.prog .geq t0 (.str s.pt) (.str t.pt) = some (.bool false) := fun t0 => by rw [bin_sgeq, hlts]; rfl
        refine AWp.draws (cv := cv0) cv0_ok rfl (L := 24) rfl (ms := [0, 0, 3, 7, 15, 31, 63, 127, 255, 511, 1023, 1023, 3071, 8191, 16383, 32767, 1023, 1023, 197631, 459775, 984063, 2097151, 4194303, 8388607]) (by kernel_rfl) (by kernel_rfl) ?_
        (repeat (first | refine DRun.r rfl rfl rfl rfl rfl rfl (by simp only [evS, cond_tt, cond_ff, absV, depthV, Nat.reduceEqDiff, Nat.reduceLT, ↓reduceIte, Option.map_some, Option.bind_some, List.toList_toArray, addX_nil, updo_some, updo_none, orU_some, List.filter_nil, Tryz.tw, H.lay, Nat.zero_add, Nat.add_zero, ↓reduceIte, List.getElem?_cons_zero, List.getElem?_cons_succ, Tryz.fa36_0, Tryz.fa36_1, iaddr_slice Tryz.underlying31 Tryz.size36 hlt, iaddr_slice Tryz.underlying31 Tryz.size36 hltp, hrow, k0, k1, r0, r1, cz, hsub, hgt0, hge]; rfl) ?_ | refine DRun.s rfl rfl rfl ?_))
        refine DRun.nil ⟨?_, ?_⟩
        · (intro y hy; simp only [List.nil_append, List.cons_append, List.mem_cons, List.not_mem_nil, or_false] at hy; (repeat' (rcases hy with hy | hy)) <;> (try subst hy) <;> refine ⟨by first | exact eqTop_str _ _ | exact eqTop_int _ _ _ | exact eqTop_bool _ _ | exact eqTop_ptr _ _ _ | exact eqTop_map _ _ | exact eqTop_slice _ _ _ _ _ _ | (simp only [eqTop_agg, eqTop_tup, eqTop, all2, eqL_eq, eqI_eq, kEq, decide_true, Bool.and_self, Bool.and_true]; done), ?_⟩ <;> (simp only [phOk]; refine ⟨?_, trivial⟩) <;> first | exact trivial | exact Or.inl rfl | exact Or.inr ⟨_, by simp only [evS, cond_tt, cond_ff, absV, depthV, Nat.reduceEqDiff, Nat.reduceLT, ↓reduceIte, Option.map_some, Option.bind_some, List.toList_toArray, addX_nil, updo_some, updo_none, orU_some, List.filter_nil, Tryz.tw, H.lay, Nat.zero_add, Nat.add_zero, ↓reduceIte, List.getElem?_cons_zero, List.getElem?_cons_succ, Tryz.fa36_0, Tryz.fa36_1, iaddr_slice Tryz.underlying31 Tryz.size36 hlt, iaddr_slice Tryz.underlying31 Tryz.size36 hltp, hrow, k0, k1, r0, r1, cz, hsub, hgt0, hge]; rfl⟩)
        simp only [List.filter_nil, addX_nil, updo_some, updo_none, orU_some]
        refine ⟨trivial, kn + 24, by omega, rfl, rfl, rfl, ?_⟩; (repeat' (first | exact rfl | exact trivial | refine ⟨?_, ?_⟩))
    rintro ex st ⟨rfl, kn1, hkn1, hF1⟩
    obtain ⟨f, rfl⟩ := hF1.open
    simp only [updL]
    show AWp _ _ _ _ _
    (repeat refine AWp.seq ?_); change AWp _ _ _ _ _; refine AWp.no (by rfl) (by rfl) (AWp.skip ?_)
    (repeat refine AWp.seq ?_); change AWp _ _ _ _ _; refine AWp.region ?_; (repeat (first | refine AOps.v rfl rfl rfl rfl rfl (by simp only [evS, cond_tt, cond_ff, absV, depthV, Nat.reduceEqDiff, Nat.reduceLT, ↓reduceIte, Option.map_some, Option.bind_some, List.toList_toArray, bin_add (show -9223372036854775808 ≤ (k : Int) + 1 ∧ (k : Int) + 1 ≤ 9223372036854775807 from ⟨by omega, by omega⟩)]; rfl) ?_ | refine AOps.s rfl rfl rfl ?_ | refine AOps.u rfl rfl rfl rfl (by simp only [evS, cond_tt, cond_ff, absV, depthV, Nat.reduceEqDiff, Nat.reduceLT, ↓reduceIte, Option.map_some, Option.bind_some, List.toList_toArray, bin_add (show -9223372036854775808 ≤ (k : Int) + 1 ∧ (k : Int) + 1 ≤ 9223372036854775807 from ⟨by omega, by omega⟩)]; rfl) ?_)); refine AOps.nil ?_
    exact ⟨ss.length - (k + 1), by omega, k + 1, kn1, by omega, rfl, hkn1, rfl, rfl, rfl, rfl, rfl, rfl, rfl, rfl, rfl, rfl, rfl, trivial⟩
  have hkk : k = ss.length := by omega
  subst hkk
  have c1 : decide ((ss.length : Int) < (ss.length : Int)) = false := by simp
  (repeat refine AWp.seq ?_); change AWp _ _ _ _ _; refine AWp.region ?_; (repeat (first | refine AOps.v rfl rfl rfl rfl rfl (by simp only [evS, cond_tt, cond_ff, absV, depthV, Nat.reduceEqDiff, Nat.reduceLT, ↓reduceIte, Option.map_some, Option.bind_some, List.toList_toArray, Tryz.tw, H.lay, Nat.zero_add, Nat.add_zero, ↓reduceIte, List.getElem?_cons_zero, List.getElem?_cons_succ, c1, len_slice Tryz.underlying31]; rfl) ?_ | refine AOps.s rfl rfl rfl ?_ | refine AOps.u rfl rfl rfl rfl (by simp only [evS, cond_tt, cond_ff, absV, depthV, Nat.reduceEqDiff, Nat.reduceLT, ↓reduceIte, Option.map_some, Option.bind_some, List.toList_toArray, Tryz.tw, H.lay, Nat.zero_add, Nat.add_zero, ↓reduceIte, List.getElem?_cons_zero, List.getElem?_cons_succ, c1, len_slice Tryz.underlying31]; rfl) ?_)); refine AOps.nil ?_
  (repeat refine AWp.seq ?_); change AWp _ _ _ _ _; refine AWp.no (by rfl) (by rfl) ?_
  refine AWp.exit ?_
  rw [List.take_length, hA.sum]
  clear hF
  have hov3k : Over n3 ⟨o3, f3, n3, h.next⟩ ⟨o3, f3, kn, h.next⟩ := ⟨by show n3 ≤ kn; omega, fun _ _ => rfl, fun _ _ => rfl, fun _ => rfl⟩
  have hvk := rdS_over hov3k hv3
  have hpk := rdS_over hov3k hp3
  have hg0k : ∀ {oo : Tr AO}, (∀ j, j < n3 → oo.get j = o3.get j) → rowO oo h.next = some [pv] ∧ rowO oo (h.next + 1) = some c.cells := fun hj => ⟨rowO_of g03 (hj _ (by omega)), rowO_of g13 (hj _ (by omega))⟩
  -- the part
  (repeat refine AWp.seq ?_); change AWp _ _ _ _ _; refine AWp.region ?_; (repeat (first | refine AOps.v rfl rfl rfl rfl rfl (by simp only [evS, cond_tt, cond_ff, absV, depthV, Nat.reduceEqDiff, Nat.reduceLT, ↓reduceIte, Option.map_some, Option.bind_some, List.toList_toArray, Tryz.tw, H.lay, Nat.zero_add, Nat.add_zero, ↓reduceIte, List.getElem?_cons_zero, List.getElem?_cons_succ, g03, g13, q0, hch1]; rfl) ?_ | refine AOps.s rfl rfl rfl ?_ | refine AOps.u rfl rfl rfl rfl (by simp only [evS, cond_tt, cond_ff, absV, depthV, Nat.reduceEqDiff, Nat.reduceLT, ↓reduceIte, Option.map_some, Option.bind_some, List.toList_toArray, Tryz.tw, H.lay, Nat.zero_add, Nat.add_zero, ↓reduceIte, List.getElem?_cons_zero, List.getElem?_cons_succ, g03, g13, q0, hch1]; rfl) ?_))
  refine AOps.c rfl rfl rfl rfl rfl (by simp only [callOf_val, callW_fn, evS, cond_tt, cond_ff, absV, depthV, Nat.reduceEqDiff, Nat.reduceLT, ↓reduceIte, Option.map_some, Option.bind_some, List.toList_toArray]; rfl) rfl (Tryz.find ps c.part (by omega) pv ⟨o3, f3, kn, h.next⟩ hpk hpv1 hone) ?_
  rintro r ⟨o5, f5, n5, l5⟩ ⟨hov5, hfq⟩
  have hl5 : l5 = h.next := hov5.low (show h.next ≤ kn by omega)
  subst hl5
  have hn5 : kn ≤ n5 := hov5.next
  rw [hf] at hfq
  have hr5 : r = .tup [.agg p.cells, .bool true] := hfq
  subst hr5
  (repeat (first | refine AOps.v rfl rfl rfl rfl rfl (by simp only [evS, cond_tt, cond_ff, absV, depthV, Nat.reduceEqDiff, Nat.reduceLT, ↓reduceIte, Option.map_some, Option.bind_some, List.toList_toArray, Tryz.zero43, H.lay]; rfl) ?_ | refine AOps.s rfl rfl rfl ?_ | refine AOps.u rfl rfl rfl rfl (by simp only [evS, cond_tt, cond_ff, absV, depthV, Nat.reduceEqDiff, Nat.reduceLT, ↓reduceIte, Option.map_some, Option.bind_some, List.toList_toArray, Tryz.zero43, H.lay]; rfl) ?_))
  refine AOps.st rfl rfl rfl (by simp only [evS, cond_tt, cond_ff, absV, depthV, Nat.reduceEqDiff, Nat.reduceLT, ↓reduceIte, Option.map_some, Option.bind_some, List.toList_toArray]; rfl) (by simp only [evS, cond_tt, cond_ff, absV, depthV, Nat.reduceEqDiff, Nat.reduceLT, ↓reduceIte, Option.map_some, Option.bind_some, List.toList_toArray]; rfl) (by exact Tryz.size43) (by simp only [put_get]; rfl) (by simp only [put_get]; rfl) (by rfl) (by exact hpall) (cs' := p.cells) (by rfl) (minN_left (show h.next ≤ n5 by omega)) ?_
  (repeat (first | refine AOps.v rfl rfl rfl rfl rfl (by simp only [evS, cond_tt, cond_ff, absV, depthV, Nat.reduceEqDiff, Nat.reduceLT, ↓reduceIte, Option.map_some, Option.bind_some, List.toList_toArray]; rfl) ?_ | refine AOps.s rfl rfl rfl ?_ | refine AOps.u rfl rfl rfl rfl (by simp only [evS, cond_tt, cond_ff, absV, depthV, Nat.reduceEqDiff, Nat.reduceLT, ↓reduceIte, Option.map_some, Option.bind_some, List.toList_toArray]; rfl) ?_))
  refine AOps.nil ?_
  obtain ⟨O6, hO6⟩ : ∃ X, X = Tr.put (Tr.put o5 n5 (some (.cells Pt.zero.cells n5))) n5 (some (.cells p.cells n5)) := ⟨_, rfl⟩
  obtain ⟨F6, hF6⟩ : ∃ X, X = Tr.put f5 n5 (some (n5, n5)) := ⟨_, rfl⟩
  rw [← hO6, ← hF6]
  have g6p : rowO O6 n5 = some p.cells := by unfold rowO; rw [hO6, put_same]; rfl
  have hov6 : Over n5 ⟨o5, f5, n5, h.next⟩ ⟨O6, F6, n5 + 1, h.next⟩ := Over.mk' (by omega) (fun j hj => by rw [hO6, put_other _ _ (by omega), put_other _ _ (by omega)]) (fun j hj => by rw [hF6, put_other _ _ (by omega)])
  clear hO6 hF6
  have hov36 : Over kn ⟨o3, f3, kn, h.next⟩ ⟨O6, F6, n5 + 1, h.next⟩ := Over.mk' (by omega) (fun j hj => (hov6.objs j (by omega)).trans (hov5.objs j hj)) (fun j hj => (hov6.fams j (by omega)).trans (hov5.fams j hj))
  have g06 : rowO O6 h.next = some [pv] := rowO_of g03 (hov36.objs _ (by omega))
  have g16 : rowO O6 (h.next + 1) = some c.cells := rowO_of g13 (hov36.objs _ (by omega))
  have hv6 := rdS_over hov36 hvk
  have hp6 := rdS_over hov36 hpk
  have hrd6 : RdZ ⟨O6, F6, n5 + 1, h.next⟩ (.slice so ss.length se sc) ss := rdS_over hov36 (rdS_over hov3k hrd3)
  have hsm : decide (c.am = c.am) = true := by simp
  have hl2 : decide ((2 : Int) < (ss.length : Int)) = false := decide_eq_false (by omega)
  (repeat refine AWp.seq ?_); change AWp _ _ _ _ _; refine AWp.region ?_; (repeat (first | refine AOps.v rfl rfl rfl rfl rfl (by simp only [evS, cond_tt, cond_ff, absV, depthV, Nat.reduceEqDiff, Nat.reduceLT, ↓reduceIte, Option.map_some, Option.bind_some, List.toList_toArray, Tryz.tw, H.lay, Nat.zero_add, Nat.add_zero, ↓reduceIte, List.getElem?_cons_zero, List.getElem?_cons_succ, g16, q3, hsm, hl2, len_slice Tryz.underlying31]; rfl) ?_ | refine AOps.s rfl rfl rfl ?_ | refine AOps.u rfl rfl rfl rfl (by simp only [evS, cond_tt, cond_ff, absV, depthV, Nat.reduceEqDiff, Nat.reduceLT, ↓reduceIte, Option.map_some, Option.bind_some, List.toList_toArray, Tryz.tw, H.lay, Nat.zero_add, Nat.add_zero, ↓reduceIte, List.getElem?_cons_zero, List.getElem?_cons_succ, g16, q3, hsm, hl2, len_slice Tryz.underlying31]; rfl) ?_)); refine AOps.nil ?_
  (repeat refine AWp.seq ?_); change AWp _ _ _ _ _; refine AWp.no (by rfl) (by rfl) (AWp.skip ?_)
  (repeat refine AWp.seq ?_); change AWp _ _ _ _ _; refine AWp.region ?_; (repeat (first | refine AOps.v rfl rfl rfl rfl rfl (by simp only [evS, cond_tt, cond_ff, absV, depthV, Nat.reduceEqDiff, Nat.reduceLT, ↓reduceIte, Option.map_some, Option.bind_some, List.toList_toArray]; rfl) ?_ | refine AOps.s rfl rfl rfl ?_ | refine AOps.u rfl rfl rfl rfl (by simp only [evS, cond_tt, cond_ff, absV, depthV, Nat.reduceEqDiff, Nat.reduceLT, ↓reduceIte, Option.map_some, Option.bind_some, List.toList_toArray]; rfl) ?_)); refine AOps.nil ?_
  (repeat refine AWp.seq ?_); change AWp _ _ _ _ _; refine AWp.region ?_; (repeat (first | refine AOps.v rfl rfl rfl rfl rfl (by simp only [evS, cond_tt, cond_ff, absV, depthV, Nat.reduceEqDiff, Nat.reduceLT, ↓reduceIte, Option.map_some, Option.bind_some, List.toList_toArray]; rfl) ?_ | refine AOps.s rfl rfl rfl ?_ | refine AOps.u rfl rfl rfl rfl (by simp only [evS, cond_tt, cond_ff, absV, depthV, Nat.reduceEqDiff, Nat.reduceLT, ↓reduceIte, Option.map_some, Option.bind_some, List.toList_toArray]; rfl) ?_)); refine AOps.nil ?_
  (repeat refine AWp.seq ?_); change AWp _ _ _ _ _; refine AWp.region ?_; (repeat (first | refine AOps.v rfl rfl rfl rfl rfl (by simp only [evS, cond_tt, cond_ff, absV, depthV, Nat.reduceEqDiff, Nat.reduceLT, ↓reduceIte, Option.map_some, Option.bind_some, List.toList_toArray]; rfl) ?_ | refine AOps.s rfl rfl rfl ?_ | refine AOps.u rfl rfl rfl rfl (by simp only [evS, cond_tt, cond_ff, absV, depthV, Nat.reduceEqDiff, Nat.reduceLT, ↓reduceIte, Option.map_some, Option.bind_some, List.toList_toArray]; rfl) ?_)); refine AOps.nil ?_
  -- the warranties
  have hch5 : ∀ w : Wy, chunkL w.cells 0 5 = some w.cells := fun _ => rfl
  have hch2 : ∀ a b : Int, chunkL [.int .i64 a, .int .i64 b] 0 2 = some [.int .i64 a, .int .i64 b] := fun _ _ => rfl
  refine AWp.block (AWp.loop (fun m st => ∃ (k km : Nat) (j : Int) (own : List Wy) (ov : AV) (o : Tr AO) (fm : Tr (Nat × Nat)), k ≤ ws.length ∧ m = ws.length - k ∧ Own ws p c k j own ∧ Over (n5 + 1) ⟨O6, F6, n5 + 1, h.next⟩ ⟨o, fm, km, h.next⟩ ∧ OutAt (n5 + 1) ⟨o, fm, km, h.next⟩ ov 5 (own.map Wy.cells) ∧
    Fr st [(0, v), (4, .ptr (some (h.next, 0))), (5, .ptr (some (h.next + 1, 0))), (6, .bool false), (7, .bool true), (8, .slice so ss.length se sc), (12, .ptr (some (n5, 0))), (14, .int .i64 j), (15, ov), (16, .int .i64 (k : Int))] 236 ⟨o, fm, km, h.next⟩ []) ws.length ?_ ?_)
  · exact ⟨0, n5 + 1, -1, [], .slice none 0 0 (some 0), O6, F6, by omega, by omega, Own.start ws p c, Over.refl _ _, ⟨fun r hr => (List.not_mem_nil hr).elim, .inl ⟨rfl, rfl⟩⟩, rfl, rfl, rfl, rfl, rfl, rfl, rfl, rfl, rfl, rfl, rfl, rfl, rfl, trivial⟩
  rintro m st ⟨k, km, j, own, ov, o, fm, hk, rfl, hown, hov, hout, hF⟩
  obtain ⟨f, rfl⟩ := hF.open
  simp only [updL]
  have hkm : n5 + 1 ≤ km := hov.next
  by_cases hlt : k < ws.length
  · have c1 : decide ((k : Int) < (ws.length : Int)) = true := by simp only [decide_eq_true_eq]; omega
    obtain ⟨w, hwk⟩ : ∃ w, ws[k]? = some w := ⟨ws[k], List.getElem?_eq_getElem hlt⟩
    have hlenv : lenA Tryz.prog ⟨o, fm, km, h.next⟩ 22 v = some (.int .i64 (ws.length : Int)) := by rw [hvs]; exact len_slice Tryz.underlying22
    (repeat refine AWp.seq ?_); change AWp _ _ _ _ _; refine AWp.region ?_; (repeat (first | refine AOps.v rfl rfl rfl rfl rfl (by simp only [evS, cond_tt, cond_ff, absV, depthV, Nat.reduceEqDiff, Nat.reduceLT, ↓reduceIte, Option.map_some, Option.bind_some, List.toList_toArray, Tryz.tw, H.lay, Nat.zero_add, Nat.add_zero, ↓reduceIte, List.getElem?_cons_zero, List.getElem?_cons_succ, c1, hlenv]; rfl) ?_ | refine AOps.s rfl rfl rfl ?_ | refine AOps.u rfl rfl rfl rfl (by simp only [evS, cond_tt, cond_ff, absV, depthV, Nat.reduceEqDiff, Nat.reduceLT, ↓reduceIte, Option.map_some, Option.bind_some, List.toList_toArray, Tryz.tw, H.lay, Nat.zero_add, Nat.add_zero, ↓reduceIte, List.getElem?_cons_zero, List.getElem?_cons_succ, c1, hlenv]; rfl) ?_)); refine AOps.nil ?_
    (repeat refine AWp.seq ?_); change AWp _ _ _ _ _; refine AWp.yes (by rfl) (by rfl) (AWp.skip ?_)
    (repeat refine AWp.seq ?_)
    refine AWp.block ?_
    have gp : rowO o n5 = some p.cells := rowO_of g6p (hov.objs _ (by show n5 < n5 + 1; omega))
    have gc : rowO o (h.next + 1) = some c.cells := rowO_of g16 (hov.objs _ (by show h.next + 1 < n5 + 1; omega))
    -- the age
    (repeat refine AWp.seq ?_); change AWp _ _ _ _ _; refine AWp.region ?_; (repeat (first | refine AOps.v rfl rfl rfl rfl rfl (by simp only [evS, cond_tt, cond_ff, absV, depthV, Nat.reduceEqDiff, Nat.reduceLT, ↓reduceIte, Option.map_some, Option.bind_some, List.toList_toArray, Tryz.tw, H.lay, Nat.zero_add, Nat.add_zero, ↓reduceIte, List.getElem?_cons_zero, List.getElem?_cons_succ, gp, gc, hch14, q2]; rfl) ?_ | refine AOps.s rfl rfl rfl ?_ | refine AOps.u rfl rfl rfl rfl (by simp only [evS, cond_tt, cond_ff, absV, depthV, Nat.reduceEqDiff, Nat.reduceLT, ↓reduceIte, Option.map_some, Option.bind_some, List.toList_toArray, Tryz.tw, H.lay, Nat.zero_add, Nat.add_zero, ↓reduceIte, List.getElem?_cons_zero, List.getElem?_cons_succ, gp, gc, hch14, q2]; rfl) ?_))
    refine AOps.c rfl rfl rfl rfl rfl (by simp only [callOf_val, callW_fn, evS, cond_tt, cond_ff, absV, depthV, Nat.reduceEqDiff, Nat.reduceLT, ↓reduceIte, Option.map_some, Option.bind_some, List.toList_toArray]; rfl) rfl (Tryz.value p sAge (sinceN c.day p.made) (sinceN c.day p.made) c.day hday _ hpone (.inl ⟨rfl, rfl, rfl⟩)) ?_; rintro _ _ ⟨rfl, rfl⟩
    (repeat (first | refine AOps.v rfl rfl rfl rfl rfl (by simp only [evS, cond_tt, cond_ff, absV, depthV, Nat.reduceEqDiff, Nat.reduceLT, ↓reduceIte, Option.map_some, Option.bind_some, List.toList_toArray, Tryz.zero39, H.lay]; rfl) ?_ | refine AOps.s rfl rfl rfl ?_ | refine AOps.u rfl rfl rfl rfl (by simp only [evS, cond_tt, cond_ff, absV, depthV, Nat.reduceEqDiff, Nat.reduceLT, ↓reduceIte, Option.map_some, Option.bind_some, List.toList_toArray, Tryz.zero39, H.lay]; rfl) ?_))
    refine AOps.st rfl rfl rfl (by simp only [evS, cond_tt, cond_ff, absV, depthV, Nat.reduceEqDiff, Nat.reduceLT, ↓reduceIte, Option.map_some, Option.bind_some, List.toList_toArray]; rfl) (by simp only [evS, cond_tt, cond_ff, absV, depthV, Nat.reduceEqDiff, Nat.reduceLT, ↓reduceIte, Option.map_some, Option.bind_some, List.toList_toArray]; rfl) (by exact Tryz.size39) (by simp only [put_get]; rfl) (by simp only [put_get]; rfl) (by rfl) (by rfl) (cs' := [.int .i64 (sinceN c.day p.made), .int .i64 (sinceN c.day p.made)]) (by rfl) (minN_left (show h.next ≤ km by omega)) ?_
    (repeat (first | refine AOps.v rfl rfl rfl rfl rfl (by simp only [evS, cond_tt, cond_ff, absV, depthV, Nat.reduceEqDiff, Nat.reduceLT, ↓reduceIte, Option.map_some, Option.bind_some, List.toList_toArray]; rfl) ?_ | refine AOps.s rfl rfl rfl ?_ | refine AOps.u rfl rfl rfl rfl (by simp only [evS, cond_tt, cond_ff, absV, depthV, Nat.reduceEqDiff, Nat.reduceLT, ↓reduceIte, Option.map_some, Option.bind_some, List.toList_toArray]; rfl) ?_))
    refine AOps.nil ?_
    obtain ⟨Oa, hOa⟩ : ∃ X, X = Tr.put (Tr.put o km (some (.cells [.int .i64 0, .int .i64 0] km))) km (some (.cells [.int .i64 (sinceN c.day p.made), .int .i64 (sinceN c.day p.made)] km)) := ⟨_, rfl⟩
    obtain ⟨Fa, hFa⟩ : ∃ X, X = Tr.put fm km (some (km, km)) := ⟨_, rfl⟩
    rw [← hOa, ← hFa]
    have ga : rowO Oa km = some [.int .i64 (sinceN c.day p.made), .int .i64 (sinceN c.day p.made)] := by unfold rowO; rw [hOa, put_same]; rfl
    have ka : ∀ i, i < km → Oa.get i = o.get i := fun i hi => by rw [hOa, put_other _ _ (by omega), put_other _ _ (by omega)]
    have kfa : ∀ i, i < km → Fa.get i = fm.get i := fun i hi => by rw [hFa, put_other _ _ (by omega)]
    clear hOa hFa
    have gpa : rowO Oa n5 = some p.cells := rowO_of gp (ka _ (by omega))
    have gca : rowO Oa (h.next + 1) = some c.cells := rowO_of gc (ka _ (by omega))
    -- the kilometres
    (repeat refine AWp.seq ?_); change AWp _ _ _ _ _; refine AWp.region ?_; (repeat (first | refine AOps.v rfl rfl rfl rfl rfl (by simp only [evS, cond_tt, cond_ff, absV, depthV, Nat.reduceEqDiff, Nat.reduceLT, ↓reduceIte, Option.map_some, Option.bind_some, List.toList_toArray, Tryz.tw, H.lay, Nat.zero_add, Nat.add_zero, ↓reduceIte, List.getElem?_cons_zero, List.getElem?_cons_succ, gpa, gca, hch14, q2]; rfl) ?_ | refine AOps.s rfl rfl rfl ?_ | refine AOps.u rfl rfl rfl rfl (by simp only [evS, cond_tt, cond_ff, absV, depthV, Nat.reduceEqDiff, Nat.reduceLT, ↓reduceIte, Option.map_some, Option.bind_some, List.toList_toArray, Tryz.tw, H.lay, Nat.zero_add, Nat.add_zero, ↓reduceIte, List.getElem?_cons_zero, List.getElem?_cons_succ, gpa, gca, hch14, q2]; rfl) ?_))
    refine AOps.c rfl rfl rfl rfl rfl (by simp only [callOf_val, callW_fn, evS, cond_tt, cond_ff, absV, depthV, Nat.reduceEqDiff, Nat.reduceLT, ↓reduceIte, Option.map_some, Option.bind_some, List.toList_toArray]; rfl) rfl (Tryz.value p sKm p.kml p.kmh c.day hday _ hpone (.inr ⟨rfl, rfl, rfl⟩)) ?_; rintro _ _ ⟨rfl, rfl⟩
    (repeat (first | refine AOps.v rfl rfl rfl rfl rfl (by simp only [evS, cond_tt, cond_ff, absV, depthV, Nat.reduceEqDiff, Nat.reduceLT, ↓reduceIte, Option.map_some, Option.bind_some, List.toList_toArray, Tryz.zero39, H.lay]; rfl) ?_ | refine AOps.s rfl rfl rfl ?_ | refine AOps.u rfl rfl rfl rfl (by simp only [evS, cond_tt, cond_ff, absV, depthV, Nat.reduceEqDiff, Nat.reduceLT, ↓reduceIte, Option.map_some, Option.bind_some, List.toList_toArray, Tryz.zero39, H.lay]; rfl) ?_))
    refine AOps.st rfl rfl rfl (by simp only [evS, cond_tt, cond_ff, absV, depthV, Nat.reduceEqDiff, Nat.reduceLT, ↓reduceIte, Option.map_some, Option.bind_some, List.toList_toArray]; rfl) (by simp only [evS, cond_tt, cond_ff, absV, depthV, Nat.reduceEqDiff, Nat.reduceLT, ↓reduceIte, Option.map_some, Option.bind_some, List.toList_toArray]; rfl) (by exact Tryz.size39) (by simp only [put_get]; rfl) (by simp only [put_get]; rfl) (by rfl) (by rfl) (cs' := [.int .i64 p.kml, .int .i64 p.kmh]) (by rfl) (minN_left (show h.next ≤ km + 1 by omega)) ?_
    (repeat (first | refine AOps.v rfl rfl rfl rfl rfl (by simp only [evS, cond_tt, cond_ff, absV, depthV, Nat.reduceEqDiff, Nat.reduceLT, ↓reduceIte, Option.map_some, Option.bind_some, List.toList_toArray]; rfl) ?_ | refine AOps.s rfl rfl rfl ?_ | refine AOps.u rfl rfl rfl rfl (by simp only [evS, cond_tt, cond_ff, absV, depthV, Nat.reduceEqDiff, Nat.reduceLT, ↓reduceIte, Option.map_some, Option.bind_some, List.toList_toArray]; rfl) ?_))
    refine AOps.nil ?_
    obtain ⟨Ob, hOb⟩ : ∃ X, X = Tr.put (Tr.put Oa (km + 1) (some (.cells [.int .i64 0, .int .i64 0] (km + 1)))) (km + 1) (some (.cells [.int .i64 p.kml, .int .i64 p.kmh] (km + 1))) := ⟨_, rfl⟩
    obtain ⟨Fb, hFb⟩ : ∃ X, X = Tr.put Fa (km + 1) (some (km + 1, km + 1)) := ⟨_, rfl⟩
    rw [← hOb, ← hFb]
    have gb : rowO Ob (km + 1) = some [.int .i64 p.kml, .int .i64 p.kmh] := by unfold rowO; rw [hOb, put_same]; rfl
    have kb : ∀ i, i < km + 1 → Ob.get i = Oa.get i := fun i hi => by rw [hOb, put_other _ _ (by omega), put_other _ _ (by omega)]
    have kfb : ∀ i, i < km + 1 → Fb.get i = Fa.get i := fun i hi => by rw [hFb, put_other _ _ (by omega)]
    clear hOb hFb
    have gab : rowO Ob km = some [.int .i64 (sinceN c.day p.made), .int .i64 (sinceN c.day p.made)] := rowO_of ga (kb _ (by omega))
    have gpb : rowO Ob n5 = some p.cells := rowO_of gpa (kb _ (by omega))
    have hovb : Over km ⟨o, fm, km, h.next⟩ ⟨Ob, Fb, km + 1 + 1, h.next⟩ := Over.mk' (by omega) (fun i hi => (kb i (by omega)).trans (ka i hi)) (fun i hi => (kfb i (by omega)).trans (kfa i hi))
    have hov6b : Over (n5 + 1) ⟨O6, F6, n5 + 1, h.next⟩ ⟨Ob, Fb, km + 1 + 1, h.next⟩ := Over.mk' (by omega) (fun i hi => (hovb.objs i (by omega)).trans (hov.objs i hi)) (fun i hi => (hovb.fams i (by omega)).trans (hov.fams i hi))
    have houtb : OutAt (n5 + 1) ⟨Ob, Fb, km + 1 + 1, h.next⟩ ov 5 (own.map Wy.cells) := hout.keep (fun i _ hi => hovb.objs i hi) (fun i _ hi => hovb.fams i hi) (by show km ≤ km + 1 + 1; omega)
    obtain ⟨id, off, cap, cs, hv', hid, hrow6, hcl, hch, hcell⟩ := hv6.open (i := k) (by rw [List.length_map]; exact hlt)
    rw [List.length_map] at hv'
    have w0 := hcell _ _ (rowsW_get ws hwk) 0 (by omega)
    rw [show w.cells[0]? = some (.str w.kind) from rfl, Nat.add_zero] at w0
    have w2 := hcell _ _ (rowsW_get ws hwk) 2 (by omega)
    rw [show w.cells[2]? = some (.int .i64 w.days) from rfl] at w2
    have w3 := hcell _ _ (rowsW_get ws hwk) 3 (by omega)
    rw [show w.cells[3]? = some (.int .i64 w.km) from rfl] at w3
    have kc := hch _ _ (rowsW_get ws hwk)
    rw [hv']
    (repeat refine AWp.seq ?_); change AWp _ _ _ _ _; refine AWp.region ?_; (repeat (first | refine AOps.v rfl rfl rfl rfl rfl (by simp only [evS, cond_tt, cond_ff, absV, depthV, Nat.reduceEqDiff, Nat.reduceLT, ↓reduceIte, Option.map_some, Option.bind_some, List.toList_toArray]; rfl) ?_ | refine AOps.s rfl rfl rfl ?_ | refine AOps.u rfl rfl rfl rfl (by simp only [evS, cond_tt, cond_ff, absV, depthV, Nat.reduceEqDiff, Nat.reduceLT, ↓reduceIte, Option.map_some, Option.bind_some, List.toList_toArray]; rfl) ?_)); refine AOps.nil ?_
    (repeat refine AWp.seq ?_); change AWp _ _ _ _ _; refine AWp.no (by rfl) (by rfl) (AWp.skip ?_)
    have hia : ∀ {kk : IntKind}, indexAddrA Tryz.prog 22 (.slice (some (id, off)) ws.length 5 cap) (.int kk (k : Int)) = some (.ptr (some (id, off + k * 5))) := fun {kk} => iaddr_slice Tryz.underlying22 Tryz.size49 hlt
    have hkadd := bin_add (P := Tryz.prog) (t := 3) (a := (k : Int)) (b := 1) ⟨by omega, by omega⟩
    simp only at hrow6 hid
    have hrow : rowO Ob id = some cs := rowO_of hrow6 (hov6b.objs id hid)
    cases e3 : decide (w.kind = p.kind)
    · -- another kind
      (repeat refine AWp.seq ?_)
      refine AWp.draws (cv := cv0) cv0_ok rfl (L := 12) rfl (ms := [0, 0, 3, 7, 15, 0, 32, 127, 255, 511, 1023, 2047]) (by kernel_rfl) (by kernel_rfl) ?_
      (repeat (first | refine DRun.r rfl rfl rfl rfl rfl rfl (by simp only [evS, cond_tt, cond_ff, absV, depthV, Nat.reduceEqDiff, Nat.reduceLT, ↓reduceIte, Option.map_some, Option.bind_some, List.toList_toArray, addX_nil, updo_some, updo_none, orU_some, List.filter_nil, Tryz.tw, H.lay, Nat.zero_add, Nat.add_zero, ↓reduceIte, List.getElem?_cons_zero, List.getElem?_cons_succ, hia, hrow, w0, gpb, p1, e3]; rfl) ?_ | refine DRun.s rfl rfl rfl ?_))
      refine DRun.nil ⟨?_, ?_⟩
      · (intro y hy; simp only [List.nil_append, List.cons_append, List.mem_cons, List.not_mem_nil, or_false] at hy; (repeat' (rcases hy with hy | hy)) <;> (try subst hy) <;> refine ⟨by first | exact eqTop_str _ _ | exact eqTop_int _ _ _ | exact eqTop_bool _ _ | exact eqTop_ptr _ _ _ | exact eqTop_map _ _ | exact eqTop_slice _ _ _ _ _ _ | (simp only [eqTop_agg, eqTop_tup, eqTop, all2, eqL_eq, eqI_eq, kEq, decide_true, Bool.and_self, Bool.and_true]; done), ?_⟩ <;> (simp only [phOk]; refine ⟨?_, trivial⟩) <;> first | exact trivial | exact Or.inl rfl | exact Or.inr ⟨_, by simp only [evS, cond_tt, cond_ff, absV, depthV, Nat.reduceEqDiff, Nat.reduceLT, ↓reduceIte, Option.map_some, Option.bind_some, List.toList_toArray, addX_nil, updo_some, updo_none, orU_some, List.filter_nil, Tryz.tw, H.lay, Nat.zero_add, Nat.add_zero, ↓reduceIte, List.getElem?_cons_zero, List.getElem?_cons_succ, hia, hrow, w0, gpb, p1, e3]; rfl⟩)
      simp only [List.filter_nil, addX_nil, updo_some, updo_none, orU_some]
      show AWp _ _ _ _ _
      (repeat refine AWp.seq ?_); change AWp _ _ _ _ _; refine AWp.yes (by rfl) (by rfl) ?_
      refine AWp.exit ?_
      (try simp only [OutOf, Then, Round, NoGoto, if_true])
      (repeat refine AWp.seq ?_); change AWp _ _ _ _ _; refine AWp.region ?_; (repeat (first | refine AOps.v rfl rfl rfl rfl rfl (by simp only [evS, cond_tt, cond_ff, absV, depthV, Nat.reduceEqDiff, Nat.reduceLT, ↓reduceIte, Option.map_some, Option.bind_some, List.toList_toArray, hkadd]; rfl) ?_ | refine AOps.s rfl rfl rfl ?_ | refine AOps.u rfl rfl rfl rfl (by simp only [evS, cond_tt, cond_ff, absV, depthV, Nat.reduceEqDiff, Nat.reduceLT, ↓reduceIte, Option.map_some, Option.bind_some, List.toList_toArray, hkadd]; rfl) ?_)); refine AOps.nil ?_
      exact ⟨ws.length - (k + 1), by omega, k + 1, km + 1 + 1 + 12, j, own, ov, Ob, Fb, by omega, rfl, hown.skip hwk (.inl (of_decide_eq_false e3)), ⟨by show n5 + 1 ≤ km + 1 + 1 + 12; omega, hov6b.objs, hov6b.fams, fun _ => rfl⟩, houtb.keep (fun _ _ _ => rfl) (fun _ _ _ => rfl) (by show km + 1 + 1 ≤ km + 1 + 1 + 12; omega), rfl, rfl, rfl, rfl, rfl, rfl, rfl, rfl, rfl, rfl, rfl, rfl, rfl, trivial⟩
    cases e4 : decide ((0 : Int) ≤ j)
    case true =>
      -- behind the first
      (repeat refine AWp.seq ?_)
      refine AWp.draws (cv := cv0) cv0_ok rfl (L := 12) rfl (ms := [0, 0, 3, 7, 15, 0, 32, 127, 255, 511, 1023, 2047]) (by kernel_rfl) (by kernel_rfl) ?_
      (repeat (first | refine DRun.r rfl rfl rfl rfl rfl rfl (by simp only [evS, cond_tt, cond_ff, absV, depthV, Nat.reduceEqDiff, Nat.reduceLT, ↓reduceIte, Option.map_some, Option.bind_some, List.toList_toArray, addX_nil, updo_some, updo_none, orU_some, List.filter_nil, Tryz.tw, H.lay, Nat.zero_add, Nat.add_zero, ↓reduceIte, List.getElem?_cons_zero, List.getElem?_cons_succ, hia, hrow, w0, gpb, p1, e3, e4]; rfl) ?_ | refine DRun.s rfl rfl rfl ?_))
      refine DRun.nil ⟨?_, ?_⟩
      · (intro y hy; simp only [List.nil_append, List.cons_append, List.mem_cons, List.not_mem_nil, or_false] at hy; (repeat' (rcases hy with hy | hy)) <;> (try subst hy) <;> refine ⟨by first | exact eqTop_str _ _ | exact eqTop_int _ _ _ | exact eqTop_bool _ _ | exact eqTop_ptr _ _ _ | exact eqTop_map _ _ | exact eqTop_slice _ _ _ _ _ _ | (simp only [eqTop_agg, eqTop_tup, eqTop, all2, eqL_eq, eqI_eq, kEq, decide_true, Bool.and_self, Bool.and_true]; done), ?_⟩ <;> (simp only [phOk]; refine ⟨?_, trivial⟩) <;> first | exact trivial | exact Or.inl rfl | exact Or.inr ⟨_, by simp only [evS, cond_tt, cond_ff, absV, depthV, Nat.reduceEqDiff, Nat.reduceLT, ↓reduceIte, Option.map_some, Option.bind_some, List.toList_toArray, addX_nil, updo_some, updo_none, orU_some, List.filter_nil, Tryz.tw, H.lay, Nat.zero_add, Nat.add_zero, ↓reduceIte, List.getElem?_cons_zero, List.getElem?_cons_succ, hia, hrow, w0, gpb, p1, e3, e4]; rfl⟩)
      simp only [List.filter_nil, addX_nil, updo_some, updo_none, orU_some]
      show AWp _ _ _ _ _
      (repeat refine AWp.seq ?_); change AWp _ _ _ _ _; refine AWp.yes (by rfl) (by rfl) ?_
      refine AWp.exit ?_
      (try simp only [OutOf, Then, Round, NoGoto, if_true])
      (repeat refine AWp.seq ?_); change AWp _ _ _ _ _; refine AWp.region ?_; (repeat (first | refine AOps.v rfl rfl rfl rfl rfl (by simp only [evS, cond_tt, cond_ff, absV, depthV, Nat.reduceEqDiff, Nat.reduceLT, ↓reduceIte, Option.map_some, Option.bind_some, List.toList_toArray, hkadd]; rfl) ?_ | refine AOps.s rfl rfl rfl ?_ | refine AOps.u rfl rfl rfl rfl (by simp only [evS, cond_tt, cond_ff, absV, depthV, Nat.reduceEqDiff, Nat.reduceLT, ↓reduceIte, Option.map_some, Option.bind_some, List.toList_toArray, hkadd]; rfl) ?_)); refine AOps.nil ?_
      exact ⟨ws.length - (k + 1), by omega, k + 1, km + 1 + 1 + 12, j, own, ov, Ob, Fb, by omega, rfl, hown.skip hwk (.inr (of_decide_eq_true e4)), ⟨by show n5 + 1 ≤ km + 1 + 1 + 12; omega, hov6b.objs, hov6b.fams, fun _ => rfl⟩, houtb.keep (fun _ _ _ => rfl) (fun _ _ _ => rfl) (by show km + 1 + 1 ≤ km + 1 + 1 + 12; omega), rfl, rfl, rfl, rfl, rfl, rfl, rfl, rfl, rfl, rfl, rfl, rfl, rfl, trivial⟩
    have hj : j = -1 := by
      rcases hown.at' with ⟨h1, _⟩ | ⟨i, _, h1, _⟩
      · exact h1
      · have := of_decide_eq_false e4; omega
    subst hj
    (repeat refine AWp.seq ?_)
    refine AWp.draws (cv := cv0) cv0_ok rfl (L := 12) rfl (ms := [0, 0, 3, 7, 15, 0, 32, 127, 255, 511, 1023, 2047]) (by kernel_rfl) (by kernel_rfl) ?_
    (repeat (first | refine DRun.r rfl rfl rfl rfl rfl rfl (by simp only [evS, cond_tt, cond_ff, absV, depthV, Nat.reduceEqDiff, Nat.reduceLT, ↓reduceIte, Option.map_some, Option.bind_some, List.toList_toArray, addX_nil, updo_some, updo_none, orU_some, List.filter_nil, Tryz.tw, H.lay, Nat.zero_add, Nat.add_zero, ↓reduceIte, List.getElem?_cons_zero, List.getElem?_cons_succ, hia, hrow, w0, gpb, p1, e3, e4]; rfl) ?_ | refine DRun.s rfl rfl rfl ?_))
    refine DRun.nil ⟨?_, ?_⟩
    · (intro y hy; simp only [List.nil_append, List.cons_append, List.mem_cons, List.not_mem_nil, or_false] at hy; (repeat' (rcases hy with hy | hy)) <;> (try subst hy) <;> refine ⟨by first | exact eqTop_str _ _ | exact eqTop_int _ _ _ | exact eqTop_bool _ _ | exact eqTop_ptr _ _ _ | exact eqTop_map _ _ | exact eqTop_slice _ _ _ _ _ _ | (simp only [eqTop_agg, eqTop_tup, eqTop, all2, eqL_eq, eqI_eq, kEq, decide_true, Bool.and_self, Bool.and_true]; done), ?_⟩ <;> (simp only [phOk]; refine ⟨?_, trivial⟩) <;> first | exact trivial | exact Or.inl rfl | exact Or.inr ⟨_, by simp only [evS, cond_tt, cond_ff, absV, depthV, Nat.reduceEqDiff, Nat.reduceLT, ↓reduceIte, Option.map_some, Option.bind_some, List.toList_toArray, addX_nil, updo_some, updo_none, orU_some, List.filter_nil, Tryz.tw, H.lay, Nat.zero_add, Nat.add_zero, ↓reduceIte, List.getElem?_cons_zero, List.getElem?_cons_succ, hia, hrow, w0, gpb, p1, e3, e4]; rfl⟩)
    simp only [List.filter_nil, addX_nil, updo_some, updo_none, orU_some]
    show AWp _ _ _ _ _
    (repeat refine AWp.seq ?_); change AWp _ _ _ _ _; refine AWp.no (by rfl) (by rfl) (AWp.skip ?_)
    -- one more
    (repeat refine AWp.seq ?_); change AWp _ _ _ _ _; refine AWp.region ?_; (repeat (first | refine AOps.v rfl rfl rfl rfl rfl (by simp only [evS, cond_tt, cond_ff, absV, depthV, Nat.reduceEqDiff, Nat.reduceLT, ↓reduceIte, Option.map_some, Option.bind_some, List.toList_toArray, Tryz.tw, H.lay, Nat.zero_add, Nat.add_zero, ↓reduceIte, List.getElem?_cons_zero, List.getElem?_cons_succ, hia, hrow, kc, op_buildSlice, partsA_cons, partsA_nil, buildS22 w]; rfl) ?_ | refine AOps.s rfl rfl rfl ?_ | refine AOps.u rfl rfl rfl rfl (by simp only [evS, cond_tt, cond_ff, absV, depthV, Nat.reduceEqDiff, Nat.reduceLT, ↓reduceIte, Option.map_some, Option.bind_some, List.toList_toArray, Tryz.tw, H.lay, Nat.zero_add, Nat.add_zero, ↓reduceIte, List.getElem?_cons_zero, List.getElem?_cons_succ, hia, hrow, kc, op_buildSlice, partsA_cons, partsA_nil, buildS22 w]; rfl) ?_))
    obtain ⟨n1, hn1⟩ : ∃ X, X = km + 1 + 1 + 12 := ⟨_, rfl⟩
    rw [← hn1]
    obtain ⟨Oc, hOc⟩ : ∃ X, X = Tr.put Ob n1 (some (.cells w.cells n1)) := ⟨_, rfl⟩
    obtain ⟨Fc, hFc⟩ : ∃ X, X = Tr.put Fb n1 (some (n1, n1)) := ⟨_, rfl⟩
    rw [← hOc, ← hFc]
    have gw : rowO Oc n1 = some w.cells := by unfold rowO; rw [hOc, put_same]; rfl
    have kco : ∀ i, i < n1 → Oc.get i = Ob.get i := fun i hi => by rw [hOc, put_other _ _ (by omega)]
    have kcf : ∀ i, i < n1 → Fc.get i = Fb.get i := fun i hi => by rw [hFc, put_other _ _ (by omega)]
    clear hOc hFc
    obtain ⟨v', ⟨od, fd, nd, ld⟩, happ, houtd, hovd, hmid⟩ := append_mid (P := Tryz.prog) (st := 22) (xt := 22) (h0 := ⟨o, fm, km, h.next⟩) (h := ⟨Oc, Fc, n1 + 1, h.next⟩) (new := [w].map Wy.cells) (y := .slice (some (n1, 0)) 1 5 (some 1)) Tryz.underlying22 Tryz.underlying22 Tryz.info49 Tryz.zero49 rfl rfl (show (5 : Nat) ≠ 0 by decide) (by decide) hout
      (fun i hi => by simp only at hi ⊢; rw [kco i (by omega)]; exact hovb.objs i hi) (fun i hi => by simp only at hi ⊢; rw [kcf i (by omega)]; exact hovb.fams i hi) (by show km ≤ n1 + 1; omega) (by show n5 + 1 ≤ km; omega) (rd_one gw (by omega) rfl) (one_rowsW [w]) (by simp) (by have := hown.len; rw [List.length_map]; omega) (by simp)
    have hld : ld = h.next := hovd.low (show h.next ≤ n5 + 1 by omega)
    subst hld
    have hnd : n1 + 1 ≤ nd := hovd.next
    have hmid : ∀ j, km ≤ j → j < n1 + 1 → od.get j = Oc.get j := hmid
    have hovd6 : Over (n5 + 1) ⟨O6, F6, n5 + 1, h.next⟩ ⟨od, fd, nd, h.next⟩ := Over.mk' (by omega) (fun i hi => by rw [hovd.objs i hi, kco i (by omega)]; exact hov6b.objs i hi) (fun i hi => by rw [hovd.fams i hi, kcf i (by omega)]; exact hov6b.fams i hi)
    have happ : appendA Tryz.prog ⟨Oc, Fc, n1 + 1, h.next⟩ 22 22 ov (.slice (some (n1, 0)) 1 5 (some 1)) = some (v', ⟨od, fd, nd, h.next⟩) := happ
    (repeat (first | refine AOps.v rfl rfl rfl rfl rfl (by simp only [evS, cond_tt, cond_ff, absV, depthV, Nat.reduceEqDiff, Nat.reduceLT, ↓reduceIte, Option.map_some, Option.bind_some, List.toList_toArray, bi_append, happ]; rfl) ?_ | refine AOps.s rfl rfl rfl ?_ | refine AOps.u rfl rfl rfl rfl (by simp only [evS, cond_tt, cond_ff, absV, depthV, Nat.reduceEqDiff, Nat.reduceLT, ↓reduceIte, Option.map_some, Option.bind_some, List.toList_toArray, bi_append, happ]; rfl) ?_))
    refine AOps.nil ?_
    have gad : rowO od km = some [.int .i64 (sinceN c.day p.made), .int .i64 (sinceN c.day p.made)] := rowO_of gab ((hmid _ (by omega) (by omega)).trans (kco _ (by omega)))
    have gbd : rowO od (km + 1) = some [.int .i64 p.kml, .int .i64 p.kmh] := rowO_of gb ((hmid _ (by omega) (by omega)).trans (kco _ (by omega)))
    have hrowd : rowO od id = some cs := rowO_of hrow6 (hovd6.objs id hid)
    have hadd := hown.add hwk
    rw [← List.map_append] at houtd
    have hend : ∀ (jj : Int) (kn : Nat) (st' : FSt), nd ≤ kn → Own ws p c (k + 1) jj (own ++ [w]) → Fr st' [(0, v), (4, .ptr (some (h.next, 0))), (5, .ptr (some (h.next + 1, 0))), (6, .bool false), (7, .bool true), (8, .slice so ss.length se sc), (12, .ptr (some (n5, 0))), (14, .int .i64 jj), (15, v'), (16, .int .i64 ((k : Int) + 1))] 236 ⟨od, fd, kn, h.next⟩ [] →
        ∃ (m' : Nat), m' < ws.length - k ∧ ∃ (k' km' : Nat) (j' : Int) (own' : List Wy) (ov' : AV) (o' : Tr AO) (fm' : Tr (Nat × Nat)), k' ≤ ws.length ∧ m' = ws.length - k' ∧ Own ws p c k' j' own' ∧ Over (n5 + 1) ⟨O6, F6, n5 + 1, h.next⟩ ⟨o', fm', km', h.next⟩ ∧ OutAt (n5 + 1) ⟨o', fm', km', h.next⟩ ov' 5 (own'.map Wy.cells) ∧
          Fr st' [(0, v), (4, .ptr (some (h.next, 0))), (5, .ptr (some (h.next + 1, 0))), (6, .bool false), (7, .bool true), (8, .slice so ss.length se sc), (12, .ptr (some (n5, 0))), (14, .int .i64 j'), (15, ov'), (16, .int .i64 (k' : Int))] 236 ⟨o', fm', km', h.next⟩ [] := fun jj kn st' hkn ho hF =>
      ⟨ws.length - (k + 1), by omega, k + 1, kn, jj, own ++ [w], v', od, fd, by omega, rfl, ho, ⟨by show n5 + 1 ≤ kn; omega, hovd6.objs, hovd6.fams, fun _ => rfl⟩, houtd.keep (fun _ _ _ => rfl) (fun _ _ _ => rfl) hkn, hF⟩
    rw [hv'] at hend
    cases e5 : decide (sinceN c.day p.made ≤ w.days)
    case false =>
      have hcov : coversB p c w = false := by unfold coversB; rw [e3, e5]; rfl
      rw [hcov, if_neg (by decide)] at hadd
      (repeat refine AWp.seq ?_)
      refine AWp.draws (cv := cv0) cv0_ok rfl (L := 18) rfl (ms := [0, 1, 0, 0, 12, 28, 60, 127, 255, 511, 1023, 511, 511, 6655, 14847, 31231, 65535, 131071]) (by kernel_rfl) (by kernel_rfl) ?_
      (repeat (first | refine DRun.r rfl rfl rfl rfl rfl rfl (by simp only [evS, cond_tt, cond_ff, absV, depthV, Nat.reduceEqDiff, Nat.reduceLT, ↓reduceIte, Option.map_some, Option.bind_some, List.toList_toArray, addX_nil, updo_some, updo_none, orU_some, List.filter_nil, Tryz.tw, H.lay, Nat.zero_add, Nat.add_zero, ↓reduceIte, List.getElem?_cons_zero, List.getElem?_cons_succ, hia, hrowd, w2, w3, gad, gbd, e5]; rfl) ?_ | refine DRun.s rfl rfl rfl ?_))
      refine DRun.nil ⟨?_, ?_⟩
      · (intro y hy; simp only [List.nil_append, List.cons_append, List.mem_cons, List.not_mem_nil, or_false] at hy; (repeat' (rcases hy with hy | hy)) <;> (try subst hy) <;> refine ⟨by first | exact eqTop_str _ _ | exact eqTop_int _ _ _ | exact eqTop_bool _ _ | exact eqTop_ptr _ _ _ | exact eqTop_map _ _ | exact eqTop_slice _ _ _ _ _ _ | (simp only [eqTop_agg, eqTop_tup, eqTop, all2, eqL_eq, eqI_eq, kEq, decide_true, Bool.and_self, Bool.and_true]; done), ?_⟩ <;> (simp only [phOk]; refine ⟨?_, trivial⟩) <;> first | exact trivial | exact Or.inl rfl | exact Or.inr ⟨_, by simp only [evS, cond_tt, cond_ff, absV, depthV, Nat.reduceEqDiff, Nat.reduceLT, ↓reduceIte, Option.map_some, Option.bind_some, List.toList_toArray, addX_nil, updo_some, updo_none, orU_some, List.filter_nil, Tryz.tw, H.lay, Nat.zero_add, Nat.add_zero, ↓reduceIte, List.getElem?_cons_zero, List.getElem?_cons_succ, hia, hrowd, w2, w3, gad, gbd, e5]; rfl⟩)
      simp only [List.filter_nil, addX_nil, updo_some, updo_none, orU_some]
      show AWp _ _ _ _ _
      (repeat refine AWp.seq ?_); change AWp _ _ _ _ _; refine AWp.no (by rfl) (by rfl) (AWp.skip ?_)
      (try simp only [OutOf, Then, Round, NoGoto, if_true])
      (repeat refine AWp.seq ?_); change AWp _ _ _ _ _; refine AWp.region ?_; (repeat (first | refine AOps.v rfl rfl rfl rfl rfl (by simp only [evS, cond_tt, cond_ff, absV, depthV, Nat.reduceEqDiff, Nat.reduceLT, ↓reduceIte, Option.map_some, Option.bind_some, List.toList_toArray, hkadd]; rfl) ?_ | refine AOps.s rfl rfl rfl ?_ | refine AOps.u rfl rfl rfl rfl (by simp only [evS, cond_tt, cond_ff, absV, depthV, Nat.reduceEqDiff, Nat.reduceLT, ↓reduceIte, Option.map_some, Option.bind_some, List.toList_toArray, hkadd]; rfl) ?_)); refine AOps.nil ?_
      exact hend (-1) _ _ (Nat.le_add_right _ _) hadd ⟨rfl, rfl, rfl, rfl, rfl, rfl, rfl, rfl, rfl, rfl, rfl, rfl, rfl, trivial⟩
    cases e6 : decide (p.kmh ≤ w.km)
    case false =>
      have hcov : coversB p c w = false := by unfold coversB; rw [e3, e5, e6]; rfl
      rw [hcov, if_neg (by decide)] at hadd
      (repeat refine AWp.seq ?_)
      refine AWp.draws (cv := cv0) cv0_ok rfl (L := 18) rfl (ms := [0, 1, 0, 0, 12, 28, 60, 127, 255, 511, 1023, 511, 511, 6655, 14847, 31231, 65535, 131071]) (by kernel_rfl) (by kernel_rfl) ?_
      (repeat (first | refine DRun.r rfl rfl rfl rfl rfl rfl (by simp only [evS, cond_tt, cond_ff, absV, depthV, Nat.reduceEqDiff, Nat.reduceLT, ↓reduceIte, Option.map_some, Option.bind_some, List.toList_toArray, addX_nil, updo_some, updo_none, orU_some, List.filter_nil, Tryz.tw, H.lay, Nat.zero_add, Nat.add_zero, ↓reduceIte, List.getElem?_cons_zero, List.getElem?_cons_succ, hia, hrowd, w2, w3, gad, gbd, e5, e6]; rfl) ?_ | refine DRun.s rfl rfl rfl ?_))
      refine DRun.nil ⟨?_, ?_⟩
      · (intro y hy; simp only [List.nil_append, List.cons_append, List.mem_cons, List.not_mem_nil, or_false] at hy; (repeat' (rcases hy with hy | hy)) <;> (try subst hy) <;> refine ⟨by first | exact eqTop_str _ _ | exact eqTop_int _ _ _ | exact eqTop_bool _ _ | exact eqTop_ptr _ _ _ | exact eqTop_map _ _ | exact eqTop_slice _ _ _ _ _ _ | (simp only [eqTop_agg, eqTop_tup, eqTop, all2, eqL_eq, eqI_eq, kEq, decide_true, Bool.and_self, Bool.and_true]; done), ?_⟩ <;> (simp only [phOk]; refine ⟨?_, trivial⟩) <;> first | exact trivial | exact Or.inl rfl | exact Or.inr ⟨_, by simp only [evS, cond_tt, cond_ff, absV, depthV, Nat.reduceEqDiff, Nat.reduceLT, ↓reduceIte, Option.map_some, Option.bind_some, List.toList_toArray, addX_nil, updo_some, updo_none, orU_some, List.filter_nil, Tryz.tw, H.lay, Nat.zero_add, Nat.add_zero, ↓reduceIte, List.getElem?_cons_zero, List.getElem?_cons_succ, hia, hrowd, w2, w3, gad, gbd, e5, e6]; rfl⟩)
      simp only [List.filter_nil, addX_nil, updo_some, updo_none, orU_some]
      show AWp _ _ _ _ _
      (repeat refine AWp.seq ?_); change AWp _ _ _ _ _; refine AWp.no (by rfl) (by rfl) (AWp.skip ?_)
      (try simp only [OutOf, Then, Round, NoGoto, if_true])
      (repeat refine AWp.seq ?_); change AWp _ _ _ _ _; refine AWp.region ?_; (repeat (first | refine AOps.v rfl rfl rfl rfl rfl (by simp only [evS, cond_tt, cond_ff, absV, depthV, Nat.reduceEqDiff, Nat.reduceLT, ↓reduceIte, Option.map_some, Option.bind_some, List.toList_toArray, hkadd]; rfl) ?_ | refine AOps.s rfl rfl rfl ?_ | refine AOps.u rfl rfl rfl rfl (by simp only [evS, cond_tt, cond_ff, absV, depthV, Nat.reduceEqDiff, Nat.reduceLT, ↓reduceIte, Option.map_some, Option.bind_some, List.toList_toArray, hkadd]; rfl) ?_)); refine AOps.nil ?_
      exact hend (-1) _ _ (Nat.le_add_right _ _) hadd ⟨rfl, rfl, rfl, rfl, rfl, rfl, rfl, rfl, rfl, rfl, rfl, rfl, rfl, trivial⟩
    have hcov : coversB p c w = true := by unfold coversB; rw [e3, e5, e6]; rfl
    rw [hcov, if_pos rfl] at hadd
    (repeat refine AWp.seq ?_)
    refine AWp.draws (cv := cv0) cv0_ok rfl (L := 18) rfl (ms := [0, 1, 0, 0, 12, 28, 60, 127, 255, 511, 1023, 511, 511, 6655, 14847, 31231, 65535, 131071]) (by kernel_rfl) (by kernel_rfl) ?_
    (repeat (first | refine DRun.r rfl rfl rfl rfl rfl rfl (by simp only [evS, cond_tt, cond_ff, absV, depthV, Nat.reduceEqDiff, Nat.reduceLT, ↓reduceIte, Option.map_some, Option.bind_some, List.toList_toArray, addX_nil, updo_some, updo_none, orU_some, List.filter_nil, Tryz.tw, H.lay, Nat.zero_add, Nat.add_zero, ↓reduceIte, List.getElem?_cons_zero, List.getElem?_cons_succ, hia, hrowd, w2, w3, gad, gbd, e5, e6]; rfl) ?_ | refine DRun.s rfl rfl rfl ?_))
    refine DRun.nil ⟨?_, ?_⟩
    · (intro y hy; simp only [List.nil_append, List.cons_append, List.mem_cons, List.not_mem_nil, or_false] at hy; (repeat' (rcases hy with hy | hy)) <;> (try subst hy) <;> refine ⟨by first | exact eqTop_str _ _ | exact eqTop_int _ _ _ | exact eqTop_bool _ _ | exact eqTop_ptr _ _ _ | exact eqTop_map _ _ | exact eqTop_slice _ _ _ _ _ _ | (simp only [eqTop_agg, eqTop_tup, eqTop, all2, eqL_eq, eqI_eq, kEq, decide_true, Bool.and_self, Bool.and_true]; done), ?_⟩ <;> (simp only [phOk]; refine ⟨?_, trivial⟩) <;> first | exact trivial | exact Or.inl rfl | exact Or.inr ⟨_, by simp only [evS, cond_tt, cond_ff, absV, depthV, Nat.reduceEqDiff, Nat.reduceLT, ↓reduceIte, Option.map_some, Option.bind_some, List.toList_toArray, addX_nil, updo_some, updo_none, orU_some, List.filter_nil, Tryz.tw, H.lay, Nat.zero_add, Nat.add_zero, ↓reduceIte, List.getElem?_cons_zero, List.getElem?_cons_succ, hia, hrowd, w2, w3, gad, gbd, e5, e6]; rfl⟩)
    simp only [List.filter_nil, addX_nil, updo_some, updo_none, orU_some]
    show AWp _ _ _ _ _
    (repeat refine AWp.seq ?_); change AWp _ _ _ _ _; refine AWp.yes (by rfl) (by rfl) ?_
    (repeat refine AWp.seq ?_); change AWp _ _ _ _ _; refine AWp.region ?_; (repeat (first | refine AOps.v rfl rfl rfl rfl rfl (by simp only [evS, cond_tt, cond_ff, absV, depthV, Nat.reduceEqDiff, Nat.reduceLT, ↓reduceIte, Option.map_some, Option.bind_some, List.toList_toArray]; rfl) ?_ | refine AOps.s rfl rfl rfl ?_ | refine AOps.u rfl rfl rfl rfl (by simp only [evS, cond_tt, cond_ff, absV, depthV, Nat.reduceEqDiff, Nat.reduceLT, ↓reduceIte, Option.map_some, Option.bind_some, List.toList_toArray]; rfl) ?_)); refine AOps.nil ?_
    (try simp only [OutOf, Then, Round, NoGoto, if_true])
    (repeat refine AWp.seq ?_); change AWp _ _ _ _ _; refine AWp.region ?_; (repeat (first | refine AOps.v rfl rfl rfl rfl rfl (by simp only [evS, cond_tt, cond_ff, absV, depthV, Nat.reduceEqDiff, Nat.reduceLT, ↓reduceIte, Option.map_some, Option.bind_some, List.toList_toArray, hkadd]; rfl) ?_ | refine AOps.s rfl rfl rfl ?_ | refine AOps.u rfl rfl rfl rfl (by simp only [evS, cond_tt, cond_ff, absV, depthV, Nat.reduceEqDiff, Nat.reduceLT, ↓reduceIte, Option.map_some, Option.bind_some, List.toList_toArray, hkadd]; rfl) ?_)); refine AOps.nil ?_
    exact hend (k : Int) _ _ (Nat.le_add_right _ _) hadd ⟨rfl, rfl, rfl, rfl, rfl, rfl, rfl, rfl, rfl, rfl, rfl, rfl, rfl, trivial⟩
  have hkk : k = ws.length := by omega
  subst hkk
  have c1 : decide ((ws.length : Int) < (ws.length : Int)) = false := by simp
  have hlenv : lenA Tryz.prog ⟨o, fm, km, h.next⟩ 22 v = some (.int .i64 (ws.length : Int)) := by rw [hvs]; exact len_slice Tryz.underlying22
  (repeat refine AWp.seq ?_); change AWp _ _ _ _ _; refine AWp.region ?_; (repeat (first | refine AOps.v rfl rfl rfl rfl rfl (by simp only [evS, cond_tt, cond_ff, absV, depthV, Nat.reduceEqDiff, Nat.reduceLT, ↓reduceIte, Option.map_some, Option.bind_some, List.toList_toArray, Tryz.tw, H.lay, Nat.zero_add, Nat.add_zero, ↓reduceIte, List.getElem?_cons_zero, List.getElem?_cons_succ, c1, hlenv]; rfl) ?_ | refine AOps.s rfl rfl rfl ?_ | refine AOps.u rfl rfl rfl rfl (by simp only [evS, cond_tt, cond_ff, absV, depthV, Nat.reduceEqDiff, Nat.reduceLT, ↓reduceIte, Option.map_some, Option.bind_some, List.toList_toArray, Tryz.tw, H.lay, Nat.zero_add, Nat.add_zero, ↓reduceIte, List.getElem?_cons_zero, List.getElem?_cons_succ, c1, hlenv]; rfl) ?_)); refine AOps.nil ?_
  (repeat refine AWp.seq ?_); change AWp _ _ _ _ _; refine AWp.no (by rfl) (by rfl) ?_
  refine AWp.exit ?_
  clear hF
  obtain ⟨hfind, hj⟩ := hown.done
  have g07 : rowO o h.next = some [pv] := rowO_of g06 (hov.objs _ (by show h.next < n5 + 1; omega))
  have g17 : rowO o (h.next + 1) = some c.cells := rowO_of g16 (hov.objs _ (by show h.next + 1 < n5 + 1; omega))
  have hv7 := rdS_over hov hv6
  have hp7 := rdS_over hov hp6
  have hrd7 : RdZ ⟨o, fm, km, h.next⟩ (.slice so ss.length se sc) ss := rdS_over hov hrd6
  have ho7 : RdS ⟨o, fm, km, h.next⟩ ov 5 (own.map Wy.cells) := OutC.rd (.inl hout)
  -- without the others
  (repeat refine AWp.seq ?_); change AWp _ _ _ _ _; refine AWp.region ?_; (repeat (first | refine AOps.v rfl rfl rfl rfl rfl (by simp only [evS, cond_tt, cond_ff, absV, depthV, Nat.reduceEqDiff, Nat.reduceLT, ↓reduceIte, Option.map_some, Option.bind_some, List.toList_toArray, Tryz.tw, H.lay, Nat.zero_add, Nat.add_zero, ↓reduceIte, List.getElem?_cons_zero, List.getElem?_cons_succ, g07, g17, hch1, hch4]; rfl) ?_ | refine AOps.s rfl rfl rfl ?_ | refine AOps.u rfl rfl rfl rfl (by simp only [evS, cond_tt, cond_ff, absV, depthV, Nat.reduceEqDiff, Nat.reduceLT, ↓reduceIte, Option.map_some, Option.bind_some, List.toList_toArray, Tryz.tw, H.lay, Nat.zero_add, Nat.add_zero, ↓reduceIte, List.getElem?_cons_zero, List.getElem?_cons_succ, g07, g17, hch1, hch4]; rfl) ?_))
  refine AOps.c rfl rfl rfl rfl rfl (by simp only [callOf_val, callW_fn, evS, cond_tt, cond_ff, absV, depthV, Nat.reduceEqDiff, Nat.reduceLT, ↓reduceIte, Option.map_some, Option.bind_some, List.toList_toArray]; rfl) rfl (Tryz.shares own ps c (by have := hown.len; omega) (by omega) (fun w hw => hwf w (hown.sub w hw)) hcf ov pv ⟨o, fm, km, h.next⟩ ho7 hp7 hpv1 hone) ?_
  rintro _ ⟨o8, f8, n8, l8⟩ ⟨code2, lv2, ss2, rfl, hov8, hrd8, htop8, hc8⟩
  have hl8 : l8 = h.next := hov8.low (show h.next ≤ km by omega)
  subst hl8
  have hn8 : km ≤ n8 := hov8.next
  obtain ⟨rfl, rfl⟩ : code2 = 0 ∧ ss2 = ss := by
    rcases hc8 with ⟨h1, _⟩ | ⟨_, h2, _⟩ | ⟨_, _, h3, h4⟩
    · rw [right_less hr hown.sub] at h1; cases h1
    · rw [hf] at h2; cases h2
    · rw [hf, bill_less hfind] at h4
      exact ⟨h3, h4.uniq (bill_nodup hr) hl⟩
  (repeat (first | refine AOps.v rfl rfl rfl rfl rfl (by simp only [evS, cond_tt, cond_ff, absV, depthV, Nat.reduceEqDiff, Nat.reduceLT, ↓reduceIte, Option.map_some, Option.bind_some, List.toList_toArray]; rfl) ?_ | refine AOps.s rfl rfl rfl ?_ | refine AOps.u rfl rfl rfl rfl (by simp only [evS, cond_tt, cond_ff, absV, depthV, Nat.reduceEqDiff, Nat.reduceLT, ↓reduceIte, Option.map_some, Option.bind_some, List.toList_toArray]; rfl) ?_))
  refine AOps.nil ?_
  have hrd8' : RdZ ⟨o8, f8, n8, h.next⟩ (.slice so ss2.length se sc) ss2 := rdS_over hov8 hrd7
  have g18 : rowO o8 (h.next + 1) = some c.cells := rowO_of g17 (hov8.objs _ (by show h.next + 1 < km; omega))
  have hv8 := rdS_over hov8 hv7
  have hsame := Tryz.same43 ss2 ss2 (by omega) lv2 (.slice so ss2.length se sc) ⟨o8, f8, n8, h.next⟩ hrd8 hrd8'
  rw [decide_eq_true (rfl : ss2 = ss2)] at hsame
  (repeat refine AWp.seq ?_); change AWp _ _ _ _ _; refine AWp.region ?_; (repeat (first | refine AOps.v rfl rfl rfl rfl rfl (by simp only [evS, cond_tt, cond_ff, absV, depthV, Nat.reduceEqDiff, Nat.reduceLT, ↓reduceIte, Option.map_some, Option.bind_some, List.toList_toArray]; rfl) ?_ | refine AOps.s rfl rfl rfl ?_ | refine AOps.u rfl rfl rfl rfl (by simp only [evS, cond_tt, cond_ff, absV, depthV, Nat.reduceEqDiff, Nat.reduceLT, ↓reduceIte, Option.map_some, Option.bind_some, List.toList_toArray]; rfl) ?_))
  refine AOps.c rfl rfl rfl rfl rfl (by simp only [callOf_val, callW_fn, evS, cond_tt, cond_ff, absV, depthV, Nat.reduceEqDiff, Nat.reduceLT, ↓reduceIte, Option.map_some, Option.bind_some, List.toList_toArray]; rfl) rfl (hsame) ?_; rintro _ _ ⟨rfl, rfl⟩
  (repeat (first | refine AOps.v rfl rfl rfl rfl rfl (by simp only [evS, cond_tt, cond_ff, absV, depthV, Nat.reduceEqDiff, Nat.reduceLT, ↓reduceIte, Option.map_some, Option.bind_some, List.toList_toArray]; rfl) ?_ | refine AOps.s rfl rfl rfl ?_ | refine AOps.u rfl rfl rfl rfl (by simp only [evS, cond_tt, cond_ff, absV, depthV, Nat.reduceEqDiff, Nat.reduceLT, ↓reduceIte, Option.map_some, Option.bind_some, List.toList_toArray]; rfl) ?_))
  refine AOps.nil ?_
  (repeat refine AWp.seq ?_); change AWp _ _ _ _ _; refine AWp.no (by rfl) (by rfl) (AWp.skip ?_)
  have hof8 := hA.ofn
  have hofw := hA.ofw
  rcases hj with ⟨rfl, hnone⟩ | ⟨i, w, rfl, hwi, hwf⟩
  · -- none covers
    have hofn := hof8 hnone
    have hcv : CVok Tryz.prog (cvS [servF 16 (fun args hh => args = [.slice so ss2.length se sc, .str c.owner] ∧ RdZ hh (.slice so ss2.length se sc) ss2) (fun _ => .int .i64 c.am)]) := cvS_ok (servF_ok (fun args h0 hp => by
      obtain ⟨rfl, hr⟩ := hp
      have := Tryz.ofShare ss2 c.owner (by omega) _ h0 hr
      rw [hofn] at this
      exact this) servOk_nil)
    have hrd9 : RdZ ⟨o8, f8, n8 + 11, h.next⟩ (.slice so ss2.length se sc) ss2 := rdS_over (h := ⟨o8, f8, n8, h.next⟩) (h' := ⟨o8, f8, n8 + 11, h.next⟩) ⟨by show n8 ≤ n8 + 11; omega, fun _ _ => rfl, fun _ _ => rfl, fun _ => rfl⟩ hrd8'
    (repeat refine AWp.seq ?_); change AWp _ _ _ _ _; refine AWp.region ?_; (repeat (first | refine AOps.v rfl rfl rfl rfl rfl (by simp only [evS, cond_tt, cond_ff, absV, depthV, Nat.reduceEqDiff, Nat.reduceLT, ↓reduceIte, Option.map_some, Option.bind_some, List.toList_toArray]; rfl) ?_ | refine AOps.s rfl rfl rfl ?_ | refine AOps.u rfl rfl rfl rfl (by simp only [evS, cond_tt, cond_ff, absV, depthV, Nat.reduceEqDiff, Nat.reduceLT, ↓reduceIte, Option.map_some, Option.bind_some, List.toList_toArray]; rfl) ?_)); refine AOps.nil ?_
    (repeat refine AWp.seq ?_); change AWp _ _ _ _ _; refine AWp.yes (by rfl) (by rfl) ?_
    (repeat refine AWp.seq ?_)
    refine AWp.draws (cv := cvS [servF 16 (fun args hh => args = [.slice so ss2.length se sc, .str c.owner] ∧ RdZ hh (.slice so ss2.length se sc) ss2) (fun _ => .int .i64 c.am)]) hcv rfl (L := 11) rfl (ms := [0, 1, 3, 3, 11, 31, 3, 67, 255, 511, 1023]) (by kernel_rfl) (by kernel_rfl) ?_
    (repeat (first | refine DRun.r rfl rfl rfl rfl rfl rfl (by simp only [evS, cond_tt, cond_ff, absV, depthV, Nat.reduceEqDiff, Nat.reduceLT, ↓reduceIte, Option.map_some, Option.bind_some, List.toList_toArray, addX_nil, updo_some, updo_none, orU_some, List.filter_nil, Tryz.tw, H.lay, Nat.zero_add, Nat.add_zero, ↓reduceIte, List.getElem?_cons_zero, List.getElem?_cons_succ, g18, q1, q3, hsm]; rfl) ?_ | refine DRun.s rfl rfl rfl ?_))
    refine DRun.k rfl rfl rfl rfl rfl rfl (by simp only [callOf_val, callW_fn, evS, cond_tt, cond_ff, absV, depthV, Nat.reduceEqDiff, Nat.reduceLT, ↓reduceIte, Option.map_some, Option.bind_some, List.toList_toArray]; rfl) rfl (cvS_servF ⟨rfl, hrd9⟩) ?_
    (repeat (first | refine DRun.r rfl rfl rfl rfl rfl rfl (by simp only [evS, cond_tt, cond_ff, absV, depthV, Nat.reduceEqDiff, Nat.reduceLT, ↓reduceIte, Option.map_some, Option.bind_some, List.toList_toArray, addX_nil, updo_some, updo_none, orU_some, List.filter_nil, Tryz.tw, H.lay, Nat.zero_add, Nat.add_zero, ↓reduceIte, List.getElem?_cons_zero, List.getElem?_cons_succ, g18, q1, q3, hsm]; rfl) ?_ | refine DRun.s rfl rfl rfl ?_))
    refine DRun.nil ⟨?_, ?_⟩
    · (intro y hy; simp only [List.nil_append, List.cons_append, List.mem_cons, List.not_mem_nil, or_false] at hy; (repeat' (rcases hy with hy | hy)) <;> (try subst hy) <;> refine ⟨by first | exact eqTop_str _ _ | exact eqTop_int _ _ _ | exact eqTop_bool _ _ | exact eqTop_ptr _ _ _ | exact eqTop_map _ _ | exact eqTop_slice _ _ _ _ _ _ | exact htop3 _ | (simp only [eqTop_agg, eqTop_tup, eqTop, all2, eqL_eq, eqI_eq, kEq, decide_true, Bool.and_self, Bool.and_true]; done), ?_⟩ <;> (simp only [phOk]; refine ⟨?_, ?_, trivial⟩) <;> first | exact trivial | exact Or.inl rfl | exact Or.inr ⟨_, by simp only [evS, cond_tt, cond_ff, absV, depthV, Nat.reduceEqDiff, Nat.reduceLT, ↓reduceIte, Option.map_some, Option.bind_some, List.toList_toArray, addX_nil, updo_some, updo_none, orU_some, List.filter_nil, Tryz.tw, H.lay, Nat.zero_add, Nat.add_zero, ↓reduceIte, List.getElem?_cons_zero, List.getElem?_cons_succ, g18, q1, q3, hsm]; rfl⟩)
    simp only [List.filter_nil, addX_nil, updo_some, updo_none, orU_some]
    show AWp _ _ _ _ _
    refine AWp.ret ?_
    (try simp only [OutOf, Then, Round, NoGoto])
    exact hgood _ _ _ _
  -- the first that covers
  have hofn := hofw w hwf
  have hlti : i < ws.length := (List.getElem?_eq_some_iff.1 hwi).1
  obtain ⟨hpct, hamr, hpr⟩ := pct_of_ok ((right_parts hr).1 w (List.mem_of_getElem? hwi)) hco
  have hcv : CVok Tryz.prog (cvS [servF 17 (fun args _ => args = [.int .i64 c.am, .int .i64 w.pct]) (fun _ => .tup [.int .i64 (pctN c.am w.pct), .int .i64 0])]) := cvS_ok (servF_ok (fun args h0 hp => by
    rw [hp]
    have := Tryz.percent c.am w.pct h0
    rw [hpct] at this
    exact this) servOk_nil)
  obtain ⟨id, off, cap, cs, hv', hid, hrow, hcl, hch, hcell⟩ := hv8.open (i := i) (by rw [List.length_map]; exact hlti)
  rw [List.length_map] at hv'
  simp only at hrow hid
  have w4 := hcell _ _ (rowsW_get ws hwi) 4 (by omega)
  rw [show w.cells[4]? = some (.int .i64 w.pct) from rfl] at w4
  have wm := hcell _ _ (rowsW_get ws hwi) 1 (by omega)
  rw [show w.cells[1]? = some (.str w.maker) from rfl] at wm
  have hia : ∀ {kk : IntKind}, indexAddrA Tryz.prog 22 (.slice (some (id, off)) ws.length 5 cap) (.int kk (i : Int)) = some (.ptr (some (id, off + i * 5))) := fun {kk} => iaddr_slice Tryz.underlying22 Tryz.size49 hlti
  have d1 : decide ((i : Int) < 0) = false := decide_eq_false (by omega)
  rw [hv']
  (repeat refine AWp.seq ?_); change AWp _ _ _ _ _; refine AWp.region ?_; (repeat (first | refine AOps.v rfl rfl rfl rfl rfl (by simp only [evS, cond_tt, cond_ff, absV, depthV, Nat.reduceEqDiff, Nat.reduceLT, ↓reduceIte, Option.map_some, Option.bind_some, List.toList_toArray, d1]; rfl) ?_ | refine AOps.s rfl rfl rfl ?_ | refine AOps.u rfl rfl rfl rfl (by simp only [evS, cond_tt, cond_ff, absV, depthV, Nat.reduceEqDiff, Nat.reduceLT, ↓reduceIte, Option.map_some, Option.bind_some, List.toList_toArray, d1]; rfl) ?_)); refine AOps.nil ?_
  (repeat refine AWp.seq ?_); change AWp _ _ _ _ _; refine AWp.no (by rfl) (by rfl) (AWp.skip ?_)
  (repeat refine AWp.seq ?_)
  refine AWp.draws (cv := cvS [servF 17 (fun args _ => args = [.int .i64 c.am, .int .i64 w.pct]) (fun _ => .tup [.int .i64 (pctN c.am w.pct), .int .i64 0])]) hcv rfl (L := 13) rfl (ms := [0, 1, 0, 0, 12, 28, 60, 127, 255, 511, 511, 1023, 4095]) (by kernel_rfl) (by kernel_rfl) ?_
  (repeat (first | refine DRun.r rfl rfl rfl rfl rfl rfl (by simp only [evS, cond_tt, cond_ff, absV, depthV, Nat.reduceEqDiff, Nat.reduceLT, ↓reduceIte, Option.map_some, Option.bind_some, List.toList_toArray, addX_nil, updo_some, updo_none, orU_some, List.filter_nil, Tryz.tw, H.lay, Nat.zero_add, Nat.add_zero, ↓reduceIte, List.getElem?_cons_zero, List.getElem?_cons_succ, hia, hrow, w4, g18, q3]; rfl) ?_ | refine DRun.s rfl rfl rfl ?_))
  refine DRun.k rfl rfl rfl rfl rfl rfl (by simp only [callOf_val, callW_fn, evS, cond_tt, cond_ff, absV, depthV, Nat.reduceEqDiff, Nat.reduceLT, ↓reduceIte, Option.map_some, Option.bind_some, List.toList_toArray]; rfl) rfl (cvS_servF rfl) ?_
  (repeat (first | refine DRun.r rfl rfl rfl rfl rfl rfl (by simp only [evS, cond_tt, cond_ff, absV, depthV, Nat.reduceEqDiff, Nat.reduceLT, ↓reduceIte, Option.map_some, Option.bind_some, List.toList_toArray, addX_nil, updo_some, updo_none, orU_some, List.filter_nil]; rfl) ?_ | refine DRun.s rfl rfl rfl ?_))
  refine DRun.nil ⟨?_, ?_⟩
  · (intro y hy; simp only [List.nil_append, List.cons_append, List.mem_cons, List.not_mem_nil, or_false] at hy; (repeat' (rcases hy with hy | hy)) <;> (try subst hy) <;> refine ⟨by first | exact eqTop_str _ _ | exact eqTop_int _ _ _ | exact eqTop_bool _ _ | exact eqTop_ptr _ _ _ | exact eqTop_map _ _ | exact eqTop_slice _ _ _ _ _ _ | (simp only [eqTop_agg, eqTop_tup, eqTop, all2, eqL_eq, eqI_eq, kEq, decide_true, Bool.and_self, Bool.and_true]; done), ?_⟩ <;> (simp only [phOk]; refine ⟨?_, ?_, trivial⟩) <;> first | exact trivial | exact Or.inl rfl | exact Or.inr ⟨_, by simp only [evS, cond_tt, cond_ff, absV, depthV, Nat.reduceEqDiff, Nat.reduceLT, ↓reduceIte, Option.map_some, Option.bind_some, List.toList_toArray, addX_nil, updo_some, updo_none, orU_some, List.filter_nil, Tryz.tw, H.lay, Nat.zero_add, Nat.add_zero, ↓reduceIte, List.getElem?_cons_zero, List.getElem?_cons_succ, hia, hrow, w4, g18, q3]; rfl⟩)
  simp only [List.filter_nil, addX_nil, updo_some, updo_none, orU_some]
  show AWp _ _ _ _ _
  have hrd9 : RdZ ⟨o8, f8, n8 + 13 + 8, h.next⟩ (.slice so ss2.length se sc) ss2 := rdS_over (h := ⟨o8, f8, n8, h.next⟩) (h' := ⟨o8, f8, n8 + 13 + 8, h.next⟩) ⟨by show n8 ≤ n8 + 13 + 8; omega, fun _ _ => rfl, fun _ _ => rfl, fun _ => rfl⟩ hrd8'
  have hcall := Tryz.ofShare ss2 w.maker (by omega) _ _ hrd9
  rw [hofn] at hcall
  cases e7 : decide (w.maker = c.owner)
  · rw [if_neg (of_decide_eq_false e7)] at hcall
    have hdec : decide (pctN c.am w.pct = pctN c.am w.pct) = true := by simp
    (repeat refine AWp.seq ?_)
    refine AWp.draws (cv := cv0) cv0_ok rfl (L := 8) rfl (ms := [0, 0, 3, 7, 15, 0, 32, 127]) (by kernel_rfl) (by kernel_rfl) ?_
    (repeat (first | refine DRun.r rfl rfl rfl rfl rfl rfl (by simp only [evS, cond_tt, cond_ff, absV, depthV, Nat.reduceEqDiff, Nat.reduceLT, ↓reduceIte, Option.map_some, Option.bind_some, List.toList_toArray, addX_nil, updo_some, updo_none, orU_some, List.filter_nil, Tryz.tw, H.lay, Nat.zero_add, Nat.add_zero, ↓reduceIte, List.getElem?_cons_zero, List.getElem?_cons_succ, hia, hrow, wm, g18, q1, e7]; rfl) ?_ | refine DRun.s rfl rfl rfl ?_))
    refine DRun.nil ⟨?_, ?_⟩
    · (intro y hy; simp only [List.nil_append, List.cons_append, List.mem_cons, List.not_mem_nil, or_false] at hy; (repeat' (rcases hy with hy | hy)) <;> (try subst hy) <;> refine ⟨by first | exact eqTop_str _ _ | exact eqTop_int _ _ _ | exact eqTop_bool _ _ | exact eqTop_ptr _ _ _ | exact eqTop_map _ _ | exact eqTop_slice _ _ _ _ _ _ | (simp only [eqTop_agg, eqTop_tup, eqTop, all2, eqL_eq, eqI_eq, kEq, decide_true, Bool.and_self, Bool.and_true]; done), ?_⟩ <;> (simp only [phOk]; refine ⟨?_, trivial⟩) <;> first | exact trivial | exact Or.inl rfl | exact Or.inr ⟨_, by simp only [evS, cond_tt, cond_ff, absV, depthV, Nat.reduceEqDiff, Nat.reduceLT, ↓reduceIte, Option.map_some, Option.bind_some, List.toList_toArray, addX_nil, updo_some, updo_none, orU_some, List.filter_nil, Tryz.tw, H.lay, Nat.zero_add, Nat.add_zero, ↓reduceIte, List.getElem?_cons_zero, List.getElem?_cons_succ, hia, hrow, wm, g18, q1, e7]; rfl⟩)
    simp only [List.filter_nil, addX_nil, updo_some, updo_none, orU_some]
    show AWp _ _ _ _ _
    (repeat refine AWp.seq ?_); change AWp _ _ _ _ _; refine AWp.no (by rfl) (by rfl) (AWp.skip ?_)
    (repeat refine AWp.seq ?_); change AWp _ _ _ _ _; refine AWp.region ?_; (repeat (first | refine AOps.v rfl rfl rfl rfl rfl (by simp only [evS, cond_tt, cond_ff, absV, depthV, Nat.reduceEqDiff, Nat.reduceLT, ↓reduceIte, Option.map_some, Option.bind_some, List.toList_toArray, Tryz.tw, H.lay, Nat.zero_add, Nat.add_zero, ↓reduceIte, List.getElem?_cons_zero, List.getElem?_cons_succ, hia, hrow, wm]; rfl) ?_ | refine AOps.s rfl rfl rfl ?_ | refine AOps.u rfl rfl rfl rfl (by simp only [evS, cond_tt, cond_ff, absV, depthV, Nat.reduceEqDiff, Nat.reduceLT, ↓reduceIte, Option.map_some, Option.bind_some, List.toList_toArray, Tryz.tw, H.lay, Nat.zero_add, Nat.add_zero, ↓reduceIte, List.getElem?_cons_zero, List.getElem?_cons_succ, hia, hrow, wm]; rfl) ?_))
    refine AOps.c rfl rfl rfl rfl rfl (by simp only [callOf_val, callW_fn, evS, cond_tt, cond_ff, absV, depthV, Nat.reduceEqDiff, Nat.reduceLT, ↓reduceIte, Option.map_some, Option.bind_some, List.toList_toArray]; rfl) rfl (hcall) ?_; rintro _ _ ⟨rfl, rfl⟩
    (repeat (first | refine AOps.v rfl rfl rfl rfl rfl (by simp only [evS, cond_tt, cond_ff, absV, depthV, Nat.reduceEqDiff, Nat.reduceLT, ↓reduceIte, Option.map_some, Option.bind_some, List.toList_toArray, hdec]; rfl) ?_ | refine AOps.s rfl rfl rfl ?_ | refine AOps.u rfl rfl rfl rfl (by simp only [evS, cond_tt, cond_ff, absV, depthV, Nat.reduceEqDiff, Nat.reduceLT, ↓reduceIte, Option.map_some, Option.bind_some, List.toList_toArray, hdec]; rfl) ?_))
    refine AOps.nil ?_
    refine AWp.ret ?_
    (try simp only [OutOf, Then, Round, NoGoto])
    exact hgood _ _ _ _
  · rw [if_pos (of_decide_eq_true e7)] at hcall
    (repeat refine AWp.seq ?_)
    refine AWp.draws (cv := cv0) cv0_ok rfl (L := 8) rfl (ms := [0, 0, 3, 7, 15, 0, 32, 127]) (by kernel_rfl) (by kernel_rfl) ?_
    (repeat (first | refine DRun.r rfl rfl rfl rfl rfl rfl (by simp only [evS, cond_tt, cond_ff, absV, depthV, Nat.reduceEqDiff, Nat.reduceLT, ↓reduceIte, Option.map_some, Option.bind_some, List.toList_toArray, addX_nil, updo_some, updo_none, orU_some, List.filter_nil, Tryz.tw, H.lay, Nat.zero_add, Nat.add_zero, ↓reduceIte, List.getElem?_cons_zero, List.getElem?_cons_succ, hia, hrow, wm, g18, q1, e7]; rfl) ?_ | refine DRun.s rfl rfl rfl ?_))
    refine DRun.nil ⟨?_, ?_⟩
    · (intro y hy; simp only [List.nil_append, List.cons_append, List.mem_cons, List.not_mem_nil, or_false] at hy; (repeat' (rcases hy with hy | hy)) <;> (try subst hy) <;> refine ⟨by first | exact eqTop_str _ _ | exact eqTop_int _ _ _ | exact eqTop_bool _ _ | exact eqTop_ptr _ _ _ | exact eqTop_map _ _ | exact eqTop_slice _ _ _ _ _ _ | (simp only [eqTop_agg, eqTop_tup, eqTop, all2, eqL_eq, eqI_eq, kEq, decide_true, Bool.and_self, Bool.and_true]; done), ?_⟩ <;> (simp only [phOk]; refine ⟨?_, trivial⟩) <;> first | exact trivial | exact Or.inl rfl | exact Or.inr ⟨_, by simp only [evS, cond_tt, cond_ff, absV, depthV, Nat.reduceEqDiff, Nat.reduceLT, ↓reduceIte, Option.map_some, Option.bind_some, List.toList_toArray, addX_nil, updo_some, updo_none, orU_some, List.filter_nil, Tryz.tw, H.lay, Nat.zero_add, Nat.add_zero, ↓reduceIte, List.getElem?_cons_zero, List.getElem?_cons_succ, hia, hrow, wm, g18, q1, e7]; rfl⟩)
    simp only [List.filter_nil, addX_nil, updo_some, updo_none, orU_some]
    show AWp _ _ _ _ _
    (repeat refine AWp.seq ?_); change AWp _ _ _ _ _; refine AWp.yes (by rfl) (by rfl) ?_
    (repeat refine AWp.seq ?_); change AWp _ _ _ _ _; refine AWp.region ?_; (repeat (first | refine AOps.v rfl rfl rfl rfl rfl (by simp only [evS, cond_tt, cond_ff, absV, depthV, Nat.reduceEqDiff, Nat.reduceLT, ↓reduceIte, Option.map_some, Option.bind_some, List.toList_toArray, Tryz.tw, H.lay, Nat.zero_add, Nat.add_zero, ↓reduceIte, List.getElem?_cons_zero, List.getElem?_cons_succ, g18, q3]; rfl) ?_ | refine AOps.s rfl rfl rfl ?_ | refine AOps.u rfl rfl rfl rfl (by simp only [evS, cond_tt, cond_ff, absV, depthV, Nat.reduceEqDiff, Nat.reduceLT, ↓reduceIte, Option.map_some, Option.bind_some, List.toList_toArray, Tryz.tw, H.lay, Nat.zero_add, Nat.add_zero, ↓reduceIte, List.getElem?_cons_zero, List.getElem?_cons_succ, g18, q3]; rfl) ?_)); refine AOps.nil ?_
    (repeat refine AWp.seq ?_); change AWp _ _ _ _ _; refine AWp.region ?_; (repeat (first | refine AOps.v rfl rfl rfl rfl rfl (by simp only [evS, cond_tt, cond_ff, absV, depthV, Nat.reduceEqDiff, Nat.reduceLT, ↓reduceIte, Option.map_some, Option.bind_some, List.toList_toArray, Tryz.tw, H.lay, Nat.zero_add, Nat.add_zero, ↓reduceIte, List.getElem?_cons_zero, List.getElem?_cons_succ, hia, hrow, wm]; rfl) ?_ | refine AOps.s rfl rfl rfl ?_ | refine AOps.u rfl rfl rfl rfl (by simp only [evS, cond_tt, cond_ff, absV, depthV, Nat.reduceEqDiff, Nat.reduceLT, ↓reduceIte, Option.map_some, Option.bind_some, List.toList_toArray, Tryz.tw, H.lay, Nat.zero_add, Nat.add_zero, ↓reduceIte, List.getElem?_cons_zero, List.getElem?_cons_succ, hia, hrow, wm]; rfl) ?_))
    refine AOps.c rfl rfl rfl rfl rfl (by simp only [callOf_val, callW_fn, evS, cond_tt, cond_ff, absV, depthV, Nat.reduceEqDiff, Nat.reduceLT, ↓reduceIte, Option.map_some, Option.bind_some, List.toList_toArray]; rfl) rfl (hcall) ?_; rintro _ _ ⟨rfl, rfl⟩
    (repeat (first | refine AOps.v rfl rfl rfl rfl rfl (by simp only [evS, cond_tt, cond_ff, absV, depthV, Nat.reduceEqDiff, Nat.reduceLT, ↓reduceIte, Option.map_some, Option.bind_some, List.toList_toArray, hsm]; rfl) ?_ | refine AOps.s rfl rfl rfl ?_ | refine AOps.u rfl rfl rfl rfl (by simp only [evS, cond_tt, cond_ff, absV, depthV, Nat.reduceEqDiff, Nat.reduceLT, ↓reduceIte, Option.map_some, Option.bind_some, List.toList_toArray, hsm]; rfl) ?_))
    refine AOps.nil ?_
    refine AWp.ret ?_
    (try simp only [OutOf, Then, Round, NoGoto])
    exact hgood _ _ _ _

end Go.Proofs

/- Seat r1: bogielaw43.CostAges. No conditions beyond those that each theorem states. -/
import Derived.Test.YtpanlnnlhpnlcaaGreatCe
import Derived.Test.YtpanlnnlhpnlcaaGreatCb
import Derived.Test.YtpanlnnlhpnlcaaGreatGh

set_option linter.unusedSimpArgs false
set_option linter.unusedVariables false
set_option linter.unusedSectionVars false

namespace Go.Proofs
open Go.Ev
set_option maxRecDepth 100000

/-! ### The law, in plain words -/

theorem ListOk.of {ml : List (List Nat × Int)} {ss : List Sh} (h : ListOk ml ss) (k : List Nat) : ofS ss k = if 0 < getM 0 k ml then getM 0 k ml else 0 := by
  obtain ⟨ks, hp, _, rfl⟩ := h.ex
  unfold ofS
  cases hf : (shL ml ks).find? (fun s => decide (s.pt = k)) with
  | some s =>
    have h1 := List.find?_some hf
    have h2 := List.mem_of_find?_eq_some hf
    unfold shL at h2
    obtain ⟨k', hk', rfl⟩ := List.mem_map.1 h2
    obtain ⟨_, hpos⟩ := List.mem_filter.1 hk'
    have : k' = k := by simpa using h1
    subst this
    rw [if_pos (by simpa using hpos)]
  | none =>
    rw [List.find?_eq_none] at hf
    by_cases hpos : 0 < getM 0 k ml
    · have hh : hasM k ml = true := by
        cases hh : hasM k ml
        · rw [getM_not (u0 := (0 : Int)) hh] at hpos; exact absurd hpos (by decide)
        · rfl
      have hk : k ∈ ks := hp.mem_iff.2 (hasM_mem.1 hh)
      have := hf ⟨k, getM 0 k ml⟩ (List.mem_map.2 ⟨k, List.mem_filter.2 ⟨hk, by simpa using hpos⟩, rfl⟩)
      simp at this
    · rw [if_neg hpos]

theorem since_le {day a b : Int} (h : b ≤ a) : sinceN day a ≤ sinceN day b := by
  unfold sinceN
  split <;> split <;> (try split) <;> (try split) <;> omega

theorem findP_one (p : Pt) (name : List Nat) : findP [p] name = if p.name = name then some p else none := by
  unfold findP
  by_cases h : p.name = name <;> simp [h]

/-- What the maker bears. -/
def bearP (w : Wy) (c : Co) : Option Pt → Int
  | some p => if coversB p c w then pctN c.am w.pct else 0
  | none => 0

theorem bears_one {w : Wy} {c : Co} (hw : w.ok = true) (hc : c.ok = true) (hne : w.maker ≠ c.owner) {po : Option Pt} {ss : List Sh} (h : ListOk (billOf [w] po c) ss) :
    ofS ss w.maker = bearP w c po := by
  unfold bearP
  obtain ⟨_, hamr, hpr⟩ := pct_of_ok hw hc
  obtain ⟨hn0, hn1⟩ := pct_bnd hamr hpr
  have h0 : ∀ x : Int, getM 0 w.maker [(c.owner, x)] = 0 := fun x => by simp [getM, hne]
  rw [h.of]
  cases po with
  | none => simp only [billOf, h0]; rfl
  | some p =>
    simp only
    by_cases hcov : coversB p c w = true
    · have hb : billOf [w] (some p) c = putM w.maker (getM 0 w.maker (putM c.owner (c.am - pctN c.am w.pct) [(c.owner, c.am)]) + pctN c.am w.pct) (putM c.owner (c.am - pctN c.am w.pct) [(c.owner, c.am)]) := by
        simp [billOf, hcov]
      have hg : getM 0 w.maker (billOf [w] (some p) c) = pctN c.am w.pct := by
        rw [hb, getM_put, if_pos rfl, getM_put, if_neg hne, h0, Int.zero_add]
      rw [hg, if_pos hcov]
      split <;> omega
    · have hb : billOf [w] (some p) c = [(c.owner, c.am)] := by simp [billOf, hcov]
      rw [hb, h0, if_neg hcov]; rfl

theorem covers_mono {p q : Pt} {c : Co} {w : Wy} (hk : p.kind = q.kind) (hm : q.made ≤ p.made) (hkm : p.kmh ≤ q.kmh) (h : coversB q c w = true) : coversB p c w = true := by
  unfold coversB at h ⊢
  simp only [Bool.and_eq_true, decide_eq_true_eq] at h ⊢
  have := since_le (day := c.day) hm
  exact ⟨by rw [hk]; exact h.1, by omega, by omega⟩

theorem bill_len (ws : List Wy) (po : Option Pt) (c : Co) : (billOf ws po c).length ≤ 3 := by
  unfold billOf
  split
  · simp
  · split
    · simp
    · rename_i w _
      have h1 := putM_len c.owner (c.am - pctN c.am w.pct) [(c.owner, c.am)]
      have h2 := putM_len w.maker (getM 0 w.maker (putM c.owner (c.am - pctN c.am w.pct) [(c.owner, c.am)]) + pctN c.am w.pct) (putM c.owner (c.am - pctN c.am w.pct) [(c.owner, c.am)])
      simp only [List.length_singleton] at h1
      omega

theorem ListOk.len {ml : List (List Nat × Int)} {ss : List Sh} (h : ListOk ml ss) : ss.length ≤ ml.length := by
  obtain ⟨ks, hp, _, rfl⟩ := h.ex
  unfold shL
  have := hp.length_eq
  have h1 := List.length_filter_le (fun k => decide (0 < getM 0 k ml)) ks
  rw [List.length_map] at this ⊢
  omega

theorem shc_inj {a b : List Sh} (h : a.map Sh.cells = b.map Sh.cells) : a = b := by
  induction a generalizing b with
  | nil => cases b with
    | nil => rfl
    | cons t b => cases h
  | cons s a ih => cases b with
    | nil => cases h
    | cons t b =>
      simp only [List.map_cons, List.cons.injEq, Sh.cells, AV.str.injEq, AV.int.injEq] at h
      obtain ⟨⟨h1, ⟨_, h2⟩, _⟩, h3⟩ := h
      obtain ⟨x, y⟩ := s
      obtain ⟨x', y'⟩ := t
      cases h1; cases h2
      rw [ih h3]

open Classical in
noncomputable def rows2 (v : AV) (a b : List Sh) (x : AV) : List Sh := if x = v then a else b

theorem rows2_at {h : H} {v w : AV} {a b : List Sh} (hv : RdZ h v a) (hw : RdZ h w b) : rows2 v a b v = a ∧ rows2 v a b w = b := by
  unfold rows2
  refine ⟨if_pos rfl, ?_⟩
  by_cases e : w = v
  · rw [if_pos e]; subst e; exact shc_inj (rdS_inj (by decide) hv hw)
  · rw [if_neg e]

/-- What the shares of one cost are. -/
def ShA (w : Wy) (p : Pt) (c : Co) (code : Int) (ss : List Sh) : Prop :=
  (rightB [w] c = false ∧ code = 1 ∧ ss = []) ∨ (rightB [w] c = true ∧ findP [p] c.part = none ∧ code = 2 ∧ ss = []) ∨ (rightB [w] c = true ∧ (findP [p] c.part).isSome = true ∧ code = 0 ∧ ListOk (billOf [w] (findP [p] c.part) c) ss)

theorem ShA.len {w : Wy} {p : Pt} {c : Co} {code : Int} {ss : List Sh} (h : ShA w p c code ss) : ss.length ≤ 3 := by
  rcases h with ⟨_, _, rfl⟩ | ⟨_, _, _, rfl⟩ | ⟨_, _, _, h⟩
  · simp
  · simp
  · have := h.len; have := bill_len [w] (findP [p] c.part) c; omega

theorem ages_plain {w : Wy} {p q : Pt} {c : Co} {k1 k2 : Int} {s1 s2 : List Sh} (h1 : ShA w p c k1 s1) (h2 : ShA w q c k2 s2) (hn : p.name = q.name) (hk : p.kind = q.kind) (hm : q.made ≤ p.made) (hkm : p.kmh ≤ q.kmh) (hne : w.maker ≠ c.owner) :
    k1 = k2 ∧ ofS s2 w.maker ≤ ofS s1 w.maker := by
  have hf : (findP [p] c.part).isSome = (findP [q] c.part).isSome := by
    rw [findP_one, findP_one, hn]; split <;> rfl
  rcases h1 with ⟨a1, rfl, rfl⟩ | ⟨a1, a2, rfl, rfl⟩ | ⟨a1, a2, rfl, a4⟩
  · rcases h2 with ⟨_, rfl, rfl⟩ | ⟨b1, _⟩ | ⟨b1, _⟩
    · exact ⟨rfl, Int.le_refl _⟩
    · rw [a1] at b1; cases b1
    · rw [a1] at b1; cases b1
  · rcases h2 with ⟨b1, _⟩ | ⟨_, _, rfl, rfl⟩ | ⟨_, b2, _⟩
    · rw [a1] at b1; cases b1
    · exact ⟨rfl, Int.le_refl _⟩
    · rw [← hf, a2] at b2; cases b2
  · rcases h2 with ⟨b1, _⟩ | ⟨_, b2, _⟩ | ⟨_, b2, rfl, b4⟩
    · rw [a1] at b1; cases b1
    · rw [hf, b2] at a2; cases a2
    · refine ⟨rfl, ?_⟩
      unfold rightB at a1
      simp only [List.all_cons, List.all_nil, Bool.and_true, Bool.and_eq_true] at a1
      obtain ⟨hw, hc⟩ := a1
      obtain ⟨_, hamr, hpr⟩ := pct_of_ok hw hc
      obtain ⟨hn0, _⟩ := pct_bnd hamr hpr
      rw [bears_one hw hc hne a4, bears_one hw hc hne b4, findP_one, findP_one, hn]
      by_cases hq : q.name = c.part
      · rw [if_pos hq, if_pos hq]
        unfold bearP
        simp only
        by_cases hc2 : coversB q c w = true
        · rw [if_pos hc2, if_pos (covers_mono hk hm hkm hc2)]; exact Int.le_refl _
        · rw [if_neg hc2]; split <;> omega
      · rw [if_neg hq, if_neg hq]; exact Int.le_refl _

/-! ### The walk -/

theorem buildS22 (w : Wy) : buildSliceA Tryz.prog 22 1 [(0, .agg w.cells)] = some (5, w.cells) := by obtain ⟨a, b, c, d, e⟩ := w; kernel_rfl
theorem buildS23 (p : Pt) : buildSliceA Tryz.prog 23 1 [(0, .agg p.cells)] = some (14, p.cells) := by obtain ⟨a, b, c, d, e, f, g, h, i, j, k, l, m, n⟩ := p; kernel_rfl
theorem build25 (o : Option (Nat × Nat)) (n e : Nat) (c : Option Nat) : buildA Tryz.prog 25 [(0, .slice o n e c)] = some (.agg [.slice o n e c]) := by kernel_rfl
theorem Tryz.zero25 : zeroA Tryz.prog 25 = some (.agg [.slice none 0 0 (some 0)]) := by kernel_rfl
theorem hA0 : hasBit 0 1 = false ∧ hasBit 0 4 = false ∧ hasBit 0 6 = false ∧ hasBit 0 7 = false := ⟨by kernel_rfl, by kernel_rfl, by kernel_rfl, by kernel_rfl⟩
theorem hA1 : hasBit 1 1 = false ∧ hasBit 1 4 = false ∧ hasBit 1 6 = false ∧ hasBit 1 7 = false := ⟨by kernel_rfl, by kernel_rfl, by kernel_rfl, by kernel_rfl⟩
theorem hA3 : hasBit 3 1 = true ∧ hasBit 3 4 = false ∧ hasBit 3 6 = false ∧ hasBit 3 7 = false := ⟨by kernel_rfl, by kernel_rfl, by kernel_rfl, by kernel_rfl⟩
theorem hA8 : hasBit 8 1 = false ∧ hasBit 8 4 = false ∧ hasBit 8 6 = false ∧ hasBit 8 7 = false := ⟨by kernel_rfl, by kernel_rfl, by kernel_rfl, by kernel_rfl⟩
theorem hA24 : hasBit 24 1 = false ∧ hasBit 24 4 = true ∧ hasBit 24 6 = false ∧ hasBit 24 7 = false := ⟨by kernel_rfl, by kernel_rfl, by kernel_rfl, by kernel_rfl⟩
theorem hA199 : hasBit 199 1 = true ∧ hasBit 199 4 = false ∧ hasBit 199 6 = true ∧ hasBit 199 7 = true := ⟨by kernel_rfl, by kernel_rfl, by kernel_rfl, by kernel_rfl⟩
theorem hA511 : hasBit 511 1 = true ∧ hasBit 511 4 = true ∧ hasBit 511 6 = true ∧ hasBit 511 7 = true := ⟨by kernel_rfl, by kernel_rfl, by kernel_rfl, by kernel_rfl⟩
theorem hAm : hasBit (Nat.lor 0 199) 1 = true ∧ hasBit (Nat.lor 0 199) 4 = false ∧ hasBit (Nat.lor 0 199) 6 = true ∧ hasBit (Nat.lor 0 199) 7 = true := ⟨by kernel_rfl, by kernel_rfl, by kernel_rfl, by kernel_rfl⟩
theorem hAn : hasBit (Nat.lor (Nat.lor 0 199) 511) 1 = true ∧ hasBit (Nat.lor (Nat.lor 0 199) 511) 4 = true ∧ hasBit (Nat.lor (Nat.lor 0 199) 511) 6 = true ∧ hasBit (Nat.lor (Nat.lor 0 199) 511) 7 = true := ⟨by kernel_rfl, by kernel_rfl, by kernel_rfl, by kernel_rfl⟩

theorem allocS10 {P : Program} {r : Tr AV} {tt : TypeId} {m : Nat} {ps : Array (Nat × Operand)} {id : Nat} {q : List (Nat × AV)} {u : Nat × List AV} (hp : partsA r ps.toList = some q) (hb : buildSliceA P tt m q = some u) : allocA P r (.buildSlice tt m ps) id = some (.slice (some (id, 0)) m u.1 (some m), .cells u.2 id) := by
  simp only [allocA, hp, hb, Option.bind_some, Option.map_some]

theorem eqTop_pt (n : Nat) (p : Pt) (h : eqTop (n + 1) p.props p.props = true) : eqTop (n + 2) (.agg p.cells) (.agg p.cells) = true := by
  refine eqTop_agg _ _ ?_
  simp only [Pt.cells, all2_cons, all2_nil, h, eqTop_str, eqTop_int, eqTop_bool, Bool.and_self]

theorem rd_one {o : Tr AO} {f : Tr (Nat × Nat)} {n lw id s : Nat} {r : List AV} {cap : Option Nat} (ho : rowO o id = some r) (hid : id < n) (hs : r.length = s) : RdS ⟨o, f, n, lw⟩ (.slice (some (id, 0)) 1 s cap) s [r] := by
  refine ⟨fun x hx => by rw [List.mem_singleton.1 hx]; exact hs, .inr ⟨id, 0, cap, r, rfl, hid, ho, ?_, ?_⟩⟩
  · simp [hs]
  · simp only [List.length_singleton, Nat.one_mul, List.drop_zero, List.flatten_singleton]
    exact List.take_of_length_le (by omega)

set_option maxHeartbeats 8000000 in
theorem Tryz.ages (w : Wy) (p q : Pt) (c : Co) (hw : w.kind.length ≤ 1000000000000000 ∧ w.maker.length ≤ 1000000000000000) (hwb : (∀ b ∈ w.kind, b < 256) ∧ ∀ b ∈ w.maker, b < 256) (hc : c.part.length ≤ 1000000000000000 ∧ c.owner.length ≤ 1000000000000000)
    (hcb : (∀ b ∈ c.part, b < 256) ∧ ∀ b ∈ c.owner, b < 256) (h : H) (hp : PtOk h p) (hq : PtOk h q) :
    ACalls Tryz.prog (.func 4) [.agg w.cells, .agg p.cells, .agg q.cells, .agg c.cells] h (fun r h' => r = .bool true ∧ h' = h) := by
  refine ACalls.body (n := 111) Tryz.nogo Tryz.func4 rfl rfl ?_
  rw [argF4]
  have w1 : w.cells[1]? = some (.str w.maker) := rfl
  have c1 : c.cells[1]? = some (.str c.owner) := rfl
  have p0 : p.cells[0]? = some (.str p.name) := rfl
  have p1 : p.cells[1]? = some (.str p.kind) := rfl
  have p4 : p.cells[4]? = some (.int .i64 p.made) := rfl
  have p9 : p.cells[9]? = some (.int .i64 p.kmh) := rfl
  have q0 : q.cells[0]? = some (.str q.name) := rfl
  have q1 : q.cells[1]? = some (.str q.kind) := rfl
  have q4 : q.cells[4]? = some (.int .i64 q.made) := rfl
  have q9 : q.cells[9]? = some (.int .i64 q.kmh) := rfl
  have hch5 : chunkL w.cells 0 5 = some w.cells := rfl
  have hch4 : chunkL c.cells 0 4 = some c.cells := rfl
  have hch14 := pt_chunk p
  have hch14q := pt_chunk q
  have hpall : p.cells.all oneC = true := by simp only [Pt.cells, List.all_cons, List.all_nil, hp.one]; rfl
  have hqall : q.cells.all oneC = true := by simp only [Pt.cells, List.all_cons, List.all_nil, hq.one]; rfl
  have hgood : ∀ (f : Nat → AV) (o : Tr AO) (fm : Tr (Nat × Nat)) (kn : Nat), Lv Tryz.prog Tryz.f4 h (fun r h' => r = .bool true ∧ h' = h) .ret ⟨upd f 8 (.bool true), 111, ⟨o, fm, kn, h.next⟩, []⟩ := fun f o fm kn =>
    leaves_plain (v := .bool true) (by rfl) (by rfl) (fun _ => rfl) (by rfl) ⟨rfl, rfl⟩
  (repeat refine AWp.seq ?_); change AWp _ _ _ _ _; refine AWp.region ?_; (repeat (first | refine AOps.v rfl rfl rfl rfl rfl (by simp only [evS, cond_tt, cond_ff, absV, depthV, Nat.reduceEqDiff, Nat.reduceLT, ↓reduceIte, Option.map_some, Option.bind_some, List.toList_toArray, op_box, H.lay]; rfl) ?_ | refine AOps.s rfl rfl rfl ?_ | refine AOps.u rfl rfl rfl rfl (by simp only [evS, cond_tt, cond_ff, absV, depthV, Nat.reduceEqDiff, Nat.reduceLT, ↓reduceIte, Option.map_some, Option.bind_some, List.toList_toArray, op_box, H.lay]; rfl) ?_)); refine AOps.nil ?_
  obtain ⟨O2, hO2⟩ : ∃ X, X = Tr.put (Tr.put (Tr.put (Tr.put h.objs h.next (some (.cells w.cells h.next))) (h.next + 1) (some (.cells p.cells (h.next + 1)))) (h.next + 1 + 1) (some (.cells q.cells (h.next + 1 + 1)))) (h.next + 1 + 1 + 1) (some (.cells c.cells (h.next + 1 + 1 + 1))) := ⟨_, rfl⟩
  obtain ⟨F2, hF2⟩ : ∃ X, X = Tr.put (Tr.put (Tr.put (Tr.put h.fams h.next (some (h.next, h.next))) (h.next + 1) (some (h.next + 1, h.next + 1))) (h.next + 1 + 1) (some (h.next + 1 + 1, h.next + 1 + 1))) (h.next + 1 + 1 + 1) (some (h.next + 1 + 1 + 1, h.next + 1 + 1 + 1)) := ⟨_, rfl⟩
  rw [← hO2, ← hF2]
  have g0 : rowO O2 h.next = some w.cells := by unfold rowO; rw [hO2, put_other _ _ (by omega), put_other _ _ (by omega), put_other _ _ (by omega), put_same]; rfl
  have g1 : rowO O2 (h.next + 1) = some p.cells := by unfold rowO; rw [hO2, put_other _ _ (by omega), put_other _ _ (by omega), put_same]; rfl
  have g2 : rowO O2 (h.next + 1 + 1) = some q.cells := by unfold rowO; rw [hO2, put_other _ _ (by omega), put_same]; rfl
  have g3 : rowO O2 (h.next + 1 + 1 + 1) = some c.cells := by unfold rowO; rw [hO2, put_same]; rfl
  have hp0 : PtOk ⟨h.objs, h.fams, h.next, h.next⟩ p := ⟨hp.one, hp.top, hp.n, hp.k, hp.i, hp.s, let ⟨l, h1, h2, h3⟩ := hp.pr; ⟨l, ⟨h1.wide, h1.at'⟩, h2, h3⟩⟩
  have hq0 : PtOk ⟨h.objs, h.fams, h.next, h.next⟩ q := ⟨hq.one, hq.top, hq.n, hq.k, hq.i, hq.s, let ⟨l, h1, h2, h3⟩ := hq.pr; ⟨l, ⟨h1.wide, h1.at'⟩, h2, h3⟩⟩
  have hov2 : Over h.next ⟨h.objs, h.fams, h.next, h.next⟩ ⟨O2, F2, h.next + 1 + 1 + 1 + 1, h.next⟩ := Over.mk' (by omega) (fun j hj => by rw [hO2, put_other _ _ (by omega), put_other _ _ (by omega), put_other _ _ (by omega), put_other _ _ (by omega)]) (fun j hj => by rw [hF2, put_other _ _ (by omega), put_other _ _ (by omega), put_other _ _ (by omega), put_other _ _ (by omega)])
  clear hO2 hF2
  (repeat refine AWp.seq ?_); change AWp _ _ _ _ _; refine AWp.region ?_; (repeat (first | refine AOps.v rfl rfl rfl rfl rfl (by simp only [evS, cond_tt, cond_ff, absV, depthV, Nat.reduceEqDiff, Nat.reduceLT, ↓reduceIte, Option.map_some, Option.bind_some, List.toList_toArray]; rfl) ?_ | refine AOps.s rfl rfl rfl ?_ | refine AOps.u rfl rfl rfl rfl (by simp only [evS, cond_tt, cond_ff, absV, depthV, Nat.reduceEqDiff, Nat.reduceLT, ↓reduceIte, Option.map_some, Option.bind_some, List.toList_toArray]; rfl) ?_))
  refine AOps.c rfl rfl rfl rfl rfl (by simp only [callOf_val, callW_fn, evS, cond_tt, cond_ff, absV, depthV, Nat.reduceEqDiff, Nat.reduceLT, ↓reduceIte, Option.map_some, Option.bind_some, List.toList_toArray]; rfl) rfl (Tryz.head43 _) ?_; rintro _ _ ⟨rfl, rfl⟩
  (repeat (first | refine AOps.v rfl rfl rfl rfl rfl (by simp only [evS, cond_tt, cond_ff, absV, depthV, Nat.reduceEqDiff, Nat.reduceLT, ↓reduceIte, Option.map_some, Option.bind_some, List.toList_toArray]; rfl) ?_ | refine AOps.s rfl rfl rfl ?_ | refine AOps.u rfl rfl rfl rfl (by simp only [evS, cond_tt, cond_ff, absV, depthV, Nat.reduceEqDiff, Nat.reduceLT, ↓reduceIte, Option.map_some, Option.bind_some, List.toList_toArray]; rfl) ?_))
  refine AOps.nil ?_
  (repeat refine AWp.seq ?_); change AWp _ _ _ _ _; refine AWp.region ?_; (repeat (first | refine AOps.v rfl rfl rfl rfl rfl (by simp only [evS, cond_tt, cond_ff, absV, depthV, Nat.reduceEqDiff, Nat.reduceLT, ↓reduceIte, Option.map_some, Option.bind_some, List.toList_toArray, Tryz.tw, H.lay, Nat.zero_add, Nat.add_zero, ↓reduceIte, List.getElem?_cons_zero, List.getElem?_cons_succ, g0, hch5, op_buildSlice, partsA_cons, partsA_nil, buildS22 w]; rfl) ?_ | refine AOps.s rfl rfl rfl ?_ | refine AOps.u rfl rfl rfl rfl (by simp only [evS, cond_tt, cond_ff, absV, depthV, Nat.reduceEqDiff, Nat.reduceLT, ↓reduceIte, Option.map_some, Option.bind_some, List.toList_toArray, Tryz.tw, H.lay, Nat.zero_add, Nat.add_zero, ↓reduceIte, List.getElem?_cons_zero, List.getElem?_cons_succ, g0, hch5, op_buildSlice, partsA_cons, partsA_nil, buildS22 w]; rfl) ?_)); refine AOps.nil ?_
  obtain ⟨O3, hO3⟩ : ∃ X, X = Tr.put O2 (h.next + 1 + 1 + 1 + 1) (some (.cells w.cells (h.next + 1 + 1 + 1 + 1))) := ⟨_, rfl⟩
  obtain ⟨F3, hF3⟩ : ∃ X, X = Tr.put F2 (h.next + 1 + 1 + 1 + 1) (some (h.next + 1 + 1 + 1 + 1, h.next + 1 + 1 + 1 + 1)) := ⟨_, rfl⟩
  rw [← hO3, ← hF3]
  generalize hN : h.next = N at *
  have k3 : ∀ j, j < N + 4 → O3.get j = O2.get j := fun j hj => by rw [hO3, put_other _ _ (by omega)]
  have kf3 : ∀ j, j < N + 4 → F3.get j = F2.get j := fun j hj => by rw [hF3, put_other _ _ (by omega)]
  have k4 : rowO O3 (N + 4) = some w.cells := by unfold rowO; rw [hO3, put_same]; rfl
  clear hO3 hF3
  have a0 : rowO O3 N = some w.cells := rowO_of g0 (k3 _ (by omega))
  have a1 : rowO O3 (N + 1) = some p.cells := rowO_of g1 (k3 _ (by omega))
  have a2 : rowO O3 (N + 1 + 1) = some q.cells := rowO_of g2 (k3 _ (by omega))
  have a3 : rowO O3 (N + 1 + 1 + 1) = some c.cells := rowO_of g3 (k3 _ (by omega))
  -- the two states
  obtain ⟨O4, hO4⟩ : ∃ X, X = Tr.put (Tr.put (Tr.put O3 (N + 5 + 1) (some (.cells p.cells (N + 5 + 1)))) (N + 5 + 6) (some (.cells [.slice none 0 0 (some 0)] (N + 5 + 6)))) (N + 5 + 7) (some (.cells [.slice none 0 0 (some 0)] (N + 5 + 7))) := ⟨_, rfl⟩
  obtain ⟨F4, hF4⟩ : ∃ X, X = Tr.put (Tr.put (Tr.put F3 (N + 5 + 1) (some (N + 5 + 1, N + 5 + 1))) (N + 5 + 6) (some (N + 5 + 6, N + 5 + 6))) (N + 5 + 7) (some (N + 5 + 7, N + 5 + 7)) := ⟨_, rfl⟩
  obtain ⟨O5, hO5⟩ : ∃ X, X = Tr.put O4 (N + 5 + 6) (some (.cells [.slice (some (N + 5 + 1, 0)) 1 14 (some 1)] (N + 5 + 6))) := ⟨_, rfl⟩
  obtain ⟨O6, hO6⟩ : ∃ X, X = Tr.put O5 (N + 5 + 4) (some (.cells q.cells (N + 5 + 4))) := ⟨_, rfl⟩
  obtain ⟨F6, hF6⟩ : ∃ X, X = Tr.put F4 (N + 5 + 4) (some (N + 5 + 4, N + 5 + 4)) := ⟨_, rfl⟩
  obtain ⟨O7, hO7⟩ : ∃ X, X = Tr.put O6 (N + 5 + 7) (some (.cells [.slice (some (N + 5 + 4, 0)) 1 14 (some 1)] (N + 5 + 7))) := ⟨_, rfl⟩
  have m6 : O4.get (N + 5 + 6) = some (.cells [.slice none 0 0 (some 0)] (N + 5 + 6)) := by rw [hO4, put_other _ _ (by omega), put_same]
  have mf6 : F4.get (N + 5 + 6) = some (N + 5 + 6, N + 5 + 6) := by rw [hF4, put_other _ _ (by omega), put_same]
  have m7 : O6.get (N + 5 + 7) = some (.cells [.slice none 0 0 (some 0)] (N + 5 + 7)) := by rw [hO6, put_other _ _ (by omega), hO5, put_other _ _ (by omega), hO4, put_same]
  have mf7 : F6.get (N + 5 + 7) = some (N + 5 + 7, N + 5 + 7) := by rw [hF6, put_other _ _ (by omega), hF4, put_same]
  have b4 : ∀ j, j < N + 5 → O4.get j = O3.get j := fun j hj => by rw [hO4, put_other _ _ (by omega), put_other _ _ (by omega), put_other _ _ (by omega)]
  have b5 : ∀ j, j < N + 5 → O5.get j = O3.get j := fun j hj => by rw [hO5, put_other _ _ (by omega)]; exact b4 j hj
  have b7 : ∀ j, j < N + 5 → O7.get j = O3.get j := fun j hj => by rw [hO7, put_other _ _ (by omega), hO6, put_other _ _ (by omega)]; exact b5 j hj
  have bf7 : ∀ j, j < N + 5 → F6.get j = F3.get j := fun j hj => by rw [hF6, put_other _ _ (by omega), hF4, put_other _ _ (by omega), put_other _ _ (by omega), put_other _ _ (by omega)]
  have a25 : rowO O5 (N + 1 + 1) = some q.cells := rowO_of a2 (b5 _ (by omega))
  (repeat refine AWp.seq ?_)
  refine AWp.draws (cv := cv0) cv0_ok rfl (L := 10) rfl (ms := [0, 1, 3, 0, 8, 24, 0, 0, 199, 511]) (by kernel_rfl) (by kernel_rfl) ?_
  (repeat (first | refine DRun.r rfl rfl rfl rfl rfl rfl (by simp only [evS, cond_tt, cond_ff, absV, depthV, Nat.reduceEqDiff, Nat.reduceLT, ↓reduceIte, Option.map_some, Option.bind_some, List.toList_toArray, addX_nil, updo_some, updo_none, orU_some, List.filter_nil, Tryz.tw, H.lay, Nat.zero_add, Nat.add_zero, ↓reduceIte, List.getElem?_cons_zero, List.getElem?_cons_succ, a1, a2, hch14, hch14q]; rfl) ?_ | refine DRun.s rfl rfl rfl ?_))
  refine DRun.a rfl rfl rfl rfl rfl rfl (allocS10 (by simp only [partsA_cons, partsA_nil, evS, cond_tt, cond_ff, absV, depthV, Nat.reduceEqDiff, Nat.reduceLT, ↓reduceIte, Option.map_some, Option.bind_some, List.toList_toArray]) (buildS23 p)) ?_
  (repeat (first | refine DRun.r rfl rfl rfl rfl rfl rfl (by simp only [evS, cond_tt, cond_ff, absV, depthV, Nat.reduceEqDiff, Nat.reduceLT, ↓reduceIte, Option.map_some, Option.bind_some, List.toList_toArray, addX_nil, updo_some, updo_none, orU_some, List.filter_nil, op_build, partsA_cons, partsA_nil, build25]; rfl) ?_ | refine DRun.s rfl rfl rfl ?_))
  refine DRun.r (v := .agg q.cells) (hh := ⟨O3, F3, N + 5 + 10, N⟩) rfl rfl rfl rfl rfl rfl ?_ ?_
  · generalize hX : addX _ _ _ _ = X
    have hXe : X = ⟨O3, F3, N + 5 + 10, N⟩ := by rw [← hX]; kernel_rfl
    subst hXe
    simp only [evS, cond_tt, cond_ff, absV, depthV, Nat.reduceEqDiff, Nat.reduceLT, ↓reduceIte, Option.map_some, Option.bind_some, List.toList_toArray, Tryz.tw, H.lay, Nat.zero_add, Nat.add_zero, ↓reduceIte, List.getElem?_cons_zero, List.getElem?_cons_succ, a2, hch14q]
  refine DRun.a rfl rfl rfl rfl rfl rfl (allocS10 (by simp only [partsA_cons, partsA_nil, evS, cond_tt, cond_ff, absV, depthV, Nat.reduceEqDiff, Nat.reduceLT, ↓reduceIte, Option.map_some, Option.bind_some, List.toList_toArray]) (buildS23 q)) ?_
  (repeat (first | refine DRun.r rfl rfl rfl rfl rfl rfl (by simp only [evS, cond_tt, cond_ff, absV, depthV, Nat.reduceEqDiff, Nat.reduceLT, ↓reduceIte, Option.map_some, Option.bind_some, List.toList_toArray, addX_nil, updo_some, updo_none, orU_some, List.filter_nil, op_build, partsA_cons, partsA_nil, build25]; rfl) ?_ | refine DRun.s rfl rfl rfl ?_))
  refine DRun.a rfl rfl rfl rfl rfl rfl (alloc_at Tryz.zero25) ?_
  refine DRun.a rfl rfl rfl rfl rfl rfl (alloc_at Tryz.zero25) ?_
  refine DRun.st rfl rfl rfl (v := .agg [.slice (some (N + 5 + 1, 0)) 1 14 (some 1)]) (c1 := ⟨O4, F4, N + 5 + 10, N⟩) (by rw [hO4, hF4]; kernel_rfl) (by simp only [evS, cond_tt, cond_ff, absV, depthV, Nat.reduceEqDiff, Nat.reduceLT, ↓reduceIte, Option.map_some, Option.bind_some, List.toList_toArray]; rfl) (by simp only [evS, cond_tt, cond_ff, absV, depthV, Nat.reduceEqDiff, Nat.reduceLT, ↓reduceIte, Option.map_some, Option.bind_some, List.toList_toArray]) (by exact Tryz.size25) m6 mf6 (by rfl) (by rfl) (bs' := [.slice (some (N + 5 + 1, 0)) 1 14 (some 1)]) (by rfl) (minN_left (show N ≤ N + 5 + 6 by omega)) (c' := ⟨O5, F4, N + 5 + 10, N⟩) (by rw [hO5]) ?_
  refine DRun.st rfl rfl rfl (v := .agg [.slice (some (N + 5 + 4, 0)) 1 14 (some 1)]) (c1 := ⟨O6, F6, N + 5 + 10, N⟩) (by rw [hO6, hF6]; kernel_rfl) (by simp only [evS, cond_tt, cond_ff, absV, depthV, Nat.reduceEqDiff, Nat.reduceLT, ↓reduceIte, Option.map_some, Option.bind_some, List.toList_toArray]; rfl) (by simp only [evS, cond_tt, cond_ff, absV, depthV, Nat.reduceEqDiff, Nat.reduceLT, ↓reduceIte, Option.map_some, Option.bind_some, List.toList_toArray]) (by exact Tryz.size25) m7 mf7 (by rfl) (by rfl) (bs' := [.slice (some (N + 5 + 4, 0)) 1 14 (some 1)]) (by rfl) (minN_left (show N ≤ N + 5 + 7 by omega)) (c' := ⟨O7, F6, N + 5 + 10, N⟩) (by rw [hO7]) ?_
  have a27 : rowO O7 (N + 1 + 1) = some q.cells := rowO_of a2 (b7 _ (by omega))
  have a15 : rowO O5 (N + 1) = some p.cells := rowO_of a1 (b5 _ (by omega))
  have a17 : rowO O7 (N + 1) = some p.cells := rowO_of a1 (b7 _ (by omega))
  refine DRun.nil ⟨?_, ?_⟩
  · (intro y hy; simp only [List.nil_append, List.cons_append, List.mem_cons, List.not_mem_nil, or_false] at hy; (repeat' (rcases hy with hy | hy)) <;> (try subst hy) <;> refine ⟨by first | exact eqTop_str _ _ | exact eqTop_int _ _ _ | exact eqTop_bool _ _ | exact eqTop_ptr _ _ _ | exact eqTop_map _ _ | exact eqTop_slice _ _ _ _ _ _ | exact eqTop_pt 4 p (hp.top 4) | exact eqTop_pt 4 q (hq.top 4) | exact eqTop_agg _ _ (by simp only [all2_cons, all2_nil, eqTop_slice, Bool.and_self]) | (simp only [eqTop_agg, eqTop_tup, eqTop, all2, eqL_eq, eqI_eq, kEq, decide_true, Bool.and_self, Bool.and_true]; done), ?_⟩ <;> (simp only [phOk]; refine ⟨?_, ?_, ?_, trivial⟩) <;> first | exact trivial | exact Or.inl rfl | (refine Or.inr ?_; generalize hX : addX _ _ _ _ = X; simp [addX, hA0.1, hA0.2.1, hA0.2.2.1, hA0.2.2.2, hA1.1, hA1.2.1, hA1.2.2.1, hA1.2.2.2, hA3.1, hA3.2.1, hA3.2.2.1, hA3.2.2.2, hA8.1, hA8.2.1, hA8.2.2.1, hA8.2.2.2, hA24.1, hA24.2.1, hA24.2.2.1, hA24.2.2.2, hA199.1, hA199.2.1, hA199.2.2.1, hA199.2.2.2, hA511.1, hA511.2.1, hA511.2.2.1, hA511.2.2.2, hAm.1, hAm.2.1, hAm.2.2.1, hAm.2.2.2, hAn.1, hAn.2.1, hAn.2.2.1, hAn.2.2.2] at hX; subst hX; exact ⟨_, by simp only [evS, cond_tt, cond_ff, absV, depthV, Nat.reduceEqDiff, Nat.reduceLT, ↓reduceIte, Option.map_some, Option.bind_some, List.toList_toArray, addX_nil, updo_some, updo_none, orU_some, List.filter_nil, Tryz.tw, H.lay, Nat.zero_add, Nat.add_zero, ↓reduceIte, List.getElem?_cons_zero, List.getElem?_cons_succ, op_build, partsA_cons, partsA_nil, build25, a1, a2, a15, a17, a25, a27, hch14, hch14q]; rfl⟩))
  simp only [updo_some, updo_none, orU_some]
  generalize hX : addX _ _ _ _ = X
  have hXe : X = ⟨O7, F6, N + 5 + 10, N⟩ := by rw [← hX]; kernel_rfl
  subst hXe
  show AWp _ _ _ _ _
  have a07 : rowO O7 N = some w.cells := rowO_of a0 (b7 _ (by omega))
  have a37 : rowO O7 (N + 1 + 1 + 1) = some c.cells := rowO_of a3 (b7 _ (by omega))
  have k47 : rowO O7 (N + 4) = some w.cells := rowO_of k4 (b7 _ (by omega))
  have s1 : rowO O7 (N + 5 + 6) = some [.slice (some (N + 5 + 1, 0)) 1 14 (some 1)] := by unfold rowO; rw [hO7, put_other _ _ (by omega), hO6, put_other _ _ (by omega), hO5, put_same]; rfl
  have s2 : rowO O7 (N + 5 + 7) = some [.slice (some (N + 5 + 4, 0)) 1 14 (some 1)] := by unfold rowO; rw [hO7, put_same]; rfl
  have sp : rowO O7 (N + 5 + 1) = some p.cells := by unfold rowO; rw [hO7, put_other _ _ (by omega), hO6, put_other _ _ (by omega), hO5, put_other _ _ (by omega), hO4, put_other _ _ (by omega), put_other _ _ (by omega), put_same]; rfl
  have sq : rowO O7 (N + 5 + 4) = some q.cells := by unfold rowO; rw [hO7, put_other _ _ (by omega), hO6, put_same]; rfl
  have hov7 : Over N ⟨h.objs, h.fams, N, N⟩ ⟨O7, F6, N + 5 + 10, N⟩ := Over.mk' (by omega) (fun j hj => by rw [b7 j (by omega), k3 j (by omega)]; exact hov2.objs j hj) (fun j hj => by rw [bf7 j (by omega), kf3 j (by omega)]; exact hov2.fams j hj)
  clear hO7 hO6 hO5 hO4 hF6 hF4 m6 mf6 m7 mf7 b4 b5 b7 bf7
  have hp7 : PtOk ⟨O7, F6, N + 5 + 10, N⟩ p := hp0.over hov7
  have hq7 : PtOk ⟨O7, F6, N + 5 + 10, N⟩ q := hq0.over hov7
  have rw7 : RdS ⟨O7, F6, N + 5 + 10, N⟩ (.slice (some (N + 4, 0)) 1 5 (some 1)) 5 ([w].map Wy.cells) := rd_one k47 (by omega) rfl
  have rp7 : RdS ⟨O7, F6, N + 5 + 10, N⟩ (.slice (some (N + 5 + 1, 0)) 1 14 (some 1)) 14 ([p].map Pt.cells) := rd_one sp (by omega) rfl
  have rq7 : RdS ⟨O7, F6, N + 5 + 10, N⟩ (.slice (some (N + 5 + 4, 0)) 1 14 (some 1)) 14 ([q].map Pt.cells) := rd_one sq (by omega) rfl
  have hchs : ∀ v : AV, chunkL [v] 0 1 = some [v] := fun v => rfl
  -- the guard
  (repeat refine AWp.seq ?_); change AWp _ _ _ _ _; refine AWp.region ?_; (repeat (first | refine AOps.v rfl rfl rfl rfl rfl (by simp only [evS, cond_tt, cond_ff, absV, depthV, Nat.reduceEqDiff, Nat.reduceLT, ↓reduceIte, Option.map_some, Option.bind_some, List.toList_toArray, Tryz.tw, H.lay, Nat.zero_add, Nat.add_zero, ↓reduceIte, List.getElem?_cons_zero, List.getElem?_cons_succ, a37, hch4]; rfl) ?_ | refine AOps.s rfl rfl rfl ?_ | refine AOps.u rfl rfl rfl rfl (by simp only [evS, cond_tt, cond_ff, absV, depthV, Nat.reduceEqDiff, Nat.reduceLT, ↓reduceIte, Option.map_some, Option.bind_some, List.toList_toArray, Tryz.tw, H.lay, Nat.zero_add, Nat.add_zero, ↓reduceIte, List.getElem?_cons_zero, List.getElem?_cons_succ, a37, hch4]; rfl) ?_))
  refine AOps.c rfl rfl rfl rfl rfl (by simp only [callOf_val, callW_fn, evS, cond_tt, cond_ff, absV, depthV, Nat.reduceEqDiff, Nat.reduceLT, ↓reduceIte, Option.map_some, Option.bind_some, List.toList_toArray]; rfl) rfl (Tryz.fewCost [w] c (fun x hx => by rw [List.mem_singleton.1 hx]; exact hw) hc _ _ rw7) ?_; rintro _ _ ⟨rfl, rfl⟩
  cases e1 : fewW [w] c
  case false =>
    (repeat (first | refine AOps.v rfl rfl rfl rfl rfl (by simp only [evS, cond_tt, cond_ff, absV, depthV, Nat.reduceEqDiff, Nat.reduceLT, ↓reduceIte, Option.map_some, Option.bind_some, List.toList_toArray]; rfl) ?_ | refine AOps.s rfl rfl rfl ?_ | refine AOps.u rfl rfl rfl rfl (by simp only [evS, cond_tt, cond_ff, absV, depthV, Nat.reduceEqDiff, Nat.reduceLT, ↓reduceIte, Option.map_some, Option.bind_some, List.toList_toArray]; rfl) ?_))
    refine AOps.nil ?_
    (repeat refine AWp.seq ?_); change AWp _ _ _ _ _; refine AWp.yes (by rfl) (by rfl) ?_
    (repeat refine AWp.seq ?_); change AWp _ _ _ _ _; refine AWp.region ?_; (repeat (first | refine AOps.v rfl rfl rfl rfl rfl (by simp only [evS, cond_tt, cond_ff, absV, depthV, Nat.reduceEqDiff, Nat.reduceLT, ↓reduceIte, Option.map_some, Option.bind_some, List.toList_toArray]; rfl) ?_ | refine AOps.s rfl rfl rfl ?_ | refine AOps.u rfl rfl rfl rfl (by simp only [evS, cond_tt, cond_ff, absV, depthV, Nat.reduceEqDiff, Nat.reduceLT, ↓reduceIte, Option.map_some, Option.bind_some, List.toList_toArray]; rfl) ?_)); refine AOps.nil ?_
    refine AWp.ret ?_
    (try simp only [OutOf, Then, Round, NoGoto])
    exact hgood _ _ _ _
  (repeat (first | refine AOps.v rfl rfl rfl rfl rfl (by simp only [evS, cond_tt, cond_ff, absV, depthV, Nat.reduceEqDiff, Nat.reduceLT, ↓reduceIte, Option.map_some, Option.bind_some, List.toList_toArray, Tryz.tw, H.lay, Nat.zero_add, Nat.add_zero, ↓reduceIte, List.getElem?_cons_zero, List.getElem?_cons_succ, s1, hchs]; rfl) ?_ | refine AOps.s rfl rfl rfl ?_ | refine AOps.u rfl rfl rfl rfl (by simp only [evS, cond_tt, cond_ff, absV, depthV, Nat.reduceEqDiff, Nat.reduceLT, ↓reduceIte, Option.map_some, Option.bind_some, List.toList_toArray, Tryz.tw, H.lay, Nat.zero_add, Nat.add_zero, ↓reduceIte, List.getElem?_cons_zero, List.getElem?_cons_succ, s1, hchs]; rfl) ?_))
  refine AOps.c rfl rfl rfl rfl rfl (by simp only [callOf_val, callW_fn, evS, cond_tt, cond_ff, absV, depthV, Nat.reduceEqDiff, Nat.reduceLT, ↓reduceIte, Option.map_some, Option.bind_some, List.toList_toArray]; rfl) rfl (Tryz.fewState [p] 1 (by simp) _ ⟨O7, F6, N + 5 + 10, N⟩ rp7 (fun x hx => by rw [List.mem_singleton.1 hx]; exact hp7)) ?_
  rintro _ _ ⟨b1, rfl, rfl, _⟩
  cases b1
  case false =>
    (repeat (first | refine AOps.v rfl rfl rfl rfl rfl (by simp only [evS, cond_tt, cond_ff, absV, depthV, Nat.reduceEqDiff, Nat.reduceLT, ↓reduceIte, Option.map_some, Option.bind_some, List.toList_toArray]; rfl) ?_ | refine AOps.s rfl rfl rfl ?_ | refine AOps.u rfl rfl rfl rfl (by simp only [evS, cond_tt, cond_ff, absV, depthV, Nat.reduceEqDiff, Nat.reduceLT, ↓reduceIte, Option.map_some, Option.bind_some, List.toList_toArray]; rfl) ?_))
    refine AOps.nil ?_
    (repeat refine AWp.seq ?_); change AWp _ _ _ _ _; refine AWp.yes (by rfl) (by rfl) ?_
    (repeat refine AWp.seq ?_); change AWp _ _ _ _ _; refine AWp.region ?_; (repeat (first | refine AOps.v rfl rfl rfl rfl rfl (by simp only [evS, cond_tt, cond_ff, absV, depthV, Nat.reduceEqDiff, Nat.reduceLT, ↓reduceIte, Option.map_some, Option.bind_some, List.toList_toArray]; rfl) ?_ | refine AOps.s rfl rfl rfl ?_ | refine AOps.u rfl rfl rfl rfl (by simp only [evS, cond_tt, cond_ff, absV, depthV, Nat.reduceEqDiff, Nat.reduceLT, ↓reduceIte, Option.map_some, Option.bind_some, List.toList_toArray]; rfl) ?_)); refine AOps.nil ?_
    refine AWp.ret ?_
    (try simp only [OutOf, Then, Round, NoGoto])
    exact hgood _ _ _ _
  (repeat (first | refine AOps.v rfl rfl rfl rfl rfl (by simp only [evS, cond_tt, cond_ff, absV, depthV, Nat.reduceEqDiff, Nat.reduceLT, ↓reduceIte, Option.map_some, Option.bind_some, List.toList_toArray, Tryz.tw, H.lay, Nat.zero_add, Nat.add_zero, ↓reduceIte, List.getElem?_cons_zero, List.getElem?_cons_succ, s2, hchs]; rfl) ?_ | refine AOps.s rfl rfl rfl ?_ | refine AOps.u rfl rfl rfl rfl (by simp only [evS, cond_tt, cond_ff, absV, depthV, Nat.reduceEqDiff, Nat.reduceLT, ↓reduceIte, Option.map_some, Option.bind_some, List.toList_toArray, Tryz.tw, H.lay, Nat.zero_add, Nat.add_zero, ↓reduceIte, List.getElem?_cons_zero, List.getElem?_cons_succ, s2, hchs]; rfl) ?_))
  refine AOps.c rfl rfl rfl rfl rfl (by simp only [callOf_val, callW_fn, evS, cond_tt, cond_ff, absV, depthV, Nat.reduceEqDiff, Nat.reduceLT, ↓reduceIte, Option.map_some, Option.bind_some, List.toList_toArray]; rfl) rfl (Tryz.fewState [q] 1 (by simp) _ ⟨O7, F6, N + 5 + 10, N⟩ rq7 (fun x hx => by rw [List.mem_singleton.1 hx]; exact hq7)) ?_
  rintro _ _ ⟨b2, rfl, rfl, _⟩
  cases b2
  case false =>
    (repeat (first | refine AOps.v rfl rfl rfl rfl rfl (by simp only [evS, cond_tt, cond_ff, absV, depthV, Nat.reduceEqDiff, Nat.reduceLT, ↓reduceIte, Option.map_some, Option.bind_some, List.toList_toArray]; rfl) ?_ | refine AOps.s rfl rfl rfl ?_ | refine AOps.u rfl rfl rfl rfl (by simp only [evS, cond_tt, cond_ff, absV, depthV, Nat.reduceEqDiff, Nat.reduceLT, ↓reduceIte, Option.map_some, Option.bind_some, List.toList_toArray]; rfl) ?_))
    refine AOps.nil ?_
    (repeat refine AWp.seq ?_); change AWp _ _ _ _ _; refine AWp.yes (by rfl) (by rfl) ?_
    (repeat refine AWp.seq ?_); change AWp _ _ _ _ _; refine AWp.region ?_; (repeat (first | refine AOps.v rfl rfl rfl rfl rfl (by simp only [evS, cond_tt, cond_ff, absV, depthV, Nat.reduceEqDiff, Nat.reduceLT, ↓reduceIte, Option.map_some, Option.bind_some, List.toList_toArray]; rfl) ?_ | refine AOps.s rfl rfl rfl ?_ | refine AOps.u rfl rfl rfl rfl (by simp only [evS, cond_tt, cond_ff, absV, depthV, Nat.reduceEqDiff, Nat.reduceLT, ↓reduceIte, Option.map_some, Option.bind_some, List.toList_toArray]; rfl) ?_)); refine AOps.nil ?_
    refine AWp.ret ?_
    (try simp only [OutOf, Then, Round, NoGoto])
    exact hgood _ _ _ _
  cases e3 : decide (p.name = q.name)
  case false =>
    (repeat (first | refine AOps.v rfl rfl rfl rfl rfl (by simp only [evS, cond_tt, cond_ff, absV, depthV, Nat.reduceEqDiff, Nat.reduceLT, ↓reduceIte, Option.map_some, Option.bind_some, List.toList_toArray, Tryz.tw, H.lay, Nat.zero_add, Nat.add_zero, ↓reduceIte, List.getElem?_cons_zero, List.getElem?_cons_succ, a07, a17, a27, a37, p0, p1, p4, p9, q0, q1, q4, q9, w1, c1, e3]; rfl) ?_ | refine AOps.s rfl rfl rfl ?_ | refine AOps.u rfl rfl rfl rfl (by simp only [evS, cond_tt, cond_ff, absV, depthV, Nat.reduceEqDiff, Nat.reduceLT, ↓reduceIte, Option.map_some, Option.bind_some, List.toList_toArray, Tryz.tw, H.lay, Nat.zero_add, Nat.add_zero, ↓reduceIte, List.getElem?_cons_zero, List.getElem?_cons_succ, a07, a17, a27, a37, p0, p1, p4, p9, q0, q1, q4, q9, w1, c1, e3]; rfl) ?_))
    refine AOps.nil ?_
    (repeat refine AWp.seq ?_); change AWp _ _ _ _ _; refine AWp.yes (by rfl) (by rfl) ?_
    (repeat refine AWp.seq ?_); change AWp _ _ _ _ _; refine AWp.region ?_; (repeat (first | refine AOps.v rfl rfl rfl rfl rfl (by simp only [evS, cond_tt, cond_ff, absV, depthV, Nat.reduceEqDiff, Nat.reduceLT, ↓reduceIte, Option.map_some, Option.bind_some, List.toList_toArray]; rfl) ?_ | refine AOps.s rfl rfl rfl ?_ | refine AOps.u rfl rfl rfl rfl (by simp only [evS, cond_tt, cond_ff, absV, depthV, Nat.reduceEqDiff, Nat.reduceLT, ↓reduceIte, Option.map_some, Option.bind_some, List.toList_toArray]; rfl) ?_)); refine AOps.nil ?_
    refine AWp.ret ?_
    (try simp only [OutOf, Then, Round, NoGoto])
    exact hgood _ _ _ _
  cases e4 : decide (p.kind = q.kind)
  case false =>
    (repeat (first | refine AOps.v rfl rfl rfl rfl rfl (by simp only [evS, cond_tt, cond_ff, absV, depthV, Nat.reduceEqDiff, Nat.reduceLT, ↓reduceIte, Option.map_some, Option.bind_some, List.toList_toArray, Tryz.tw, H.lay, Nat.zero_add, Nat.add_zero, ↓reduceIte, List.getElem?_cons_zero, List.getElem?_cons_succ, a07, a17, a27, a37, p0, p1, p4, p9, q0, q1, q4, q9, w1, c1, e3, e4]; rfl) ?_ | refine AOps.s rfl rfl rfl ?_ | refine AOps.u rfl rfl rfl rfl (by simp only [evS, cond_tt, cond_ff, absV, depthV, Nat.reduceEqDiff, Nat.reduceLT, ↓reduceIte, Option.map_some, Option.bind_some, List.toList_toArray, Tryz.tw, H.lay, Nat.zero_add, Nat.add_zero, ↓reduceIte, List.getElem?_cons_zero, List.getElem?_cons_succ, a07, a17, a27, a37, p0, p1, p4, p9, q0, q1, q4, q9, w1, c1, e3, e4]; rfl) ?_))
    refine AOps.nil ?_
    (repeat refine AWp.seq ?_); change AWp _ _ _ _ _; refine AWp.yes (by rfl) (by rfl) ?_
    (repeat refine AWp.seq ?_); change AWp _ _ _ _ _; refine AWp.region ?_; (repeat (first | refine AOps.v rfl rfl rfl rfl rfl (by simp only [evS, cond_tt, cond_ff, absV, depthV, Nat.reduceEqDiff, Nat.reduceLT, ↓reduceIte, Option.map_some, Option.bind_some, List.toList_toArray]; rfl) ?_ | refine AOps.s rfl rfl rfl ?_ | refine AOps.u rfl rfl rfl rfl (by simp only [evS, cond_tt, cond_ff, absV, depthV, Nat.reduceEqDiff, Nat.reduceLT, ↓reduceIte, Option.map_some, Option.bind_some, List.toList_toArray]; rfl) ?_)); refine AOps.nil ?_
    refine AWp.ret ?_
    (try simp only [OutOf, Then, Round, NoGoto])
    exact hgood _ _ _ _
  cases e5 : decide (p.made < q.made)
  case true =>
    (repeat (first | refine AOps.v rfl rfl rfl rfl rfl (by simp only [evS, cond_tt, cond_ff, absV, depthV, Nat.reduceEqDiff, Nat.reduceLT, ↓reduceIte, Option.map_some, Option.bind_some, List.toList_toArray, Tryz.tw, H.lay, Nat.zero_add, Nat.add_zero, ↓reduceIte, List.getElem?_cons_zero, List.getElem?_cons_succ, a07, a17, a27, a37, p0, p1, p4, p9, q0, q1, q4, q9, w1, c1, e3, e4, e5]; rfl) ?_ | refine AOps.s rfl rfl rfl ?_ | refine AOps.u rfl rfl rfl rfl (by simp only [evS, cond_tt, cond_ff, absV, depthV, Nat.reduceEqDiff, Nat.reduceLT, ↓reduceIte, Option.map_some, Option.bind_some, List.toList_toArray, Tryz.tw, H.lay, Nat.zero_add, Nat.add_zero, ↓reduceIte, List.getElem?_cons_zero, List.getElem?_cons_succ, a07, a17, a27, a37, p0, p1, p4, p9, q0, q1, q4, q9, w1, c1, e3, e4, e5]; rfl) ?_))
    refine AOps.nil ?_
    (repeat refine AWp.seq ?_); change AWp _ _ _ _ _; refine AWp.yes (by rfl) (by rfl) ?_
    (repeat refine AWp.seq ?_); change AWp _ _ _ _ _; refine AWp.region ?_; (repeat (first | refine AOps.v rfl rfl rfl rfl rfl (by simp only [evS, cond_tt, cond_ff, absV, depthV, Nat.reduceEqDiff, Nat.reduceLT, ↓reduceIte, Option.map_some, Option.bind_some, List.toList_toArray]; rfl) ?_ | refine AOps.s rfl rfl rfl ?_ | refine AOps.u rfl rfl rfl rfl (by simp only [evS, cond_tt, cond_ff, absV, depthV, Nat.reduceEqDiff, Nat.reduceLT, ↓reduceIte, Option.map_some, Option.bind_some, List.toList_toArray]; rfl) ?_)); refine AOps.nil ?_
    refine AWp.ret ?_
    (try simp only [OutOf, Then, Round, NoGoto])
    exact hgood _ _ _ _
  cases e6 : decide (q.kmh < p.kmh)
  case true =>
    (repeat (first | refine AOps.v rfl rfl rfl rfl rfl (by simp only [evS, cond_tt, cond_ff, absV, depthV, Nat.reduceEqDiff, Nat.reduceLT, ↓reduceIte, Option.map_some, Option.bind_some, List.toList_toArray, Tryz.tw, H.lay, Nat.zero_add, Nat.add_zero, ↓reduceIte, List.getElem?_cons_zero, List.getElem?_cons_succ, a07, a17, a27, a37, p0, p1, p4, p9, q0, q1, q4, q9, w1, c1, e3, e4, e5, e6]; rfl) ?_ | refine AOps.s rfl rfl rfl ?_ | refine AOps.u rfl rfl rfl rfl (by simp only [evS, cond_tt, cond_ff, absV, depthV, Nat.reduceEqDiff, Nat.reduceLT, ↓reduceIte, Option.map_some, Option.bind_some, List.toList_toArray, Tryz.tw, H.lay, Nat.zero_add, Nat.add_zero, ↓reduceIte, List.getElem?_cons_zero, List.getElem?_cons_succ, a07, a17, a27, a37, p0, p1, p4, p9, q0, q1, q4, q9, w1, c1, e3, e4, e5, e6]; rfl) ?_))
    refine AOps.nil ?_
    (repeat refine AWp.seq ?_); change AWp _ _ _ _ _; refine AWp.yes (by rfl) (by rfl) ?_
    (repeat refine AWp.seq ?_); change AWp _ _ _ _ _; refine AWp.region ?_; (repeat (first | refine AOps.v rfl rfl rfl rfl rfl (by simp only [evS, cond_tt, cond_ff, absV, depthV, Nat.reduceEqDiff, Nat.reduceLT, ↓reduceIte, Option.map_some, Option.bind_some, List.toList_toArray]; rfl) ?_ | refine AOps.s rfl rfl rfl ?_ | refine AOps.u rfl rfl rfl rfl (by simp only [evS, cond_tt, cond_ff, absV, depthV, Nat.reduceEqDiff, Nat.reduceLT, ↓reduceIte, Option.map_some, Option.bind_some, List.toList_toArray]; rfl) ?_)); refine AOps.nil ?_
    refine AWp.ret ?_
    (try simp only [OutOf, Then, Round, NoGoto])
    exact hgood _ _ _ _
  cases e7 : decide (w.maker = c.owner)
  case true =>
    (repeat (first | refine AOps.v rfl rfl rfl rfl rfl (by simp only [evS, cond_tt, cond_ff, absV, depthV, Nat.reduceEqDiff, Nat.reduceLT, ↓reduceIte, Option.map_some, Option.bind_some, List.toList_toArray, Tryz.tw, H.lay, Nat.zero_add, Nat.add_zero, ↓reduceIte, List.getElem?_cons_zero, List.getElem?_cons_succ, a07, a17, a27, a37, p0, p1, p4, p9, q0, q1, q4, q9, w1, c1, e3, e4, e5, e6, e7]; rfl) ?_ | refine AOps.s rfl rfl rfl ?_ | refine AOps.u rfl rfl rfl rfl (by simp only [evS, cond_tt, cond_ff, absV, depthV, Nat.reduceEqDiff, Nat.reduceLT, ↓reduceIte, Option.map_some, Option.bind_some, List.toList_toArray, Tryz.tw, H.lay, Nat.zero_add, Nat.add_zero, ↓reduceIte, List.getElem?_cons_zero, List.getElem?_cons_succ, a07, a17, a27, a37, p0, p1, p4, p9, q0, q1, q4, q9, w1, c1, e3, e4, e5, e6, e7]; rfl) ?_))
    refine AOps.nil ?_
    (repeat refine AWp.seq ?_); change AWp _ _ _ _ _; refine AWp.yes (by rfl) (by rfl) ?_
    (repeat refine AWp.seq ?_); change AWp _ _ _ _ _; refine AWp.region ?_; (repeat (first | refine AOps.v rfl rfl rfl rfl rfl (by simp only [evS, cond_tt, cond_ff, absV, depthV, Nat.reduceEqDiff, Nat.reduceLT, ↓reduceIte, Option.map_some, Option.bind_some, List.toList_toArray]; rfl) ?_ | refine AOps.s rfl rfl rfl ?_ | refine AOps.u rfl rfl rfl rfl (by simp only [evS, cond_tt, cond_ff, absV, depthV, Nat.reduceEqDiff, Nat.reduceLT, ↓reduceIte, Option.map_some, Option.bind_some, List.toList_toArray]; rfl) ?_)); refine AOps.nil ?_
    refine AWp.ret ?_
    (try simp only [OutOf, Then, Round, NoGoto])
    exact hgood _ _ _ _
  (repeat (first | refine AOps.v rfl rfl rfl rfl rfl (by simp only [evS, cond_tt, cond_ff, absV, depthV, Nat.reduceEqDiff, Nat.reduceLT, ↓reduceIte, Option.map_some, Option.bind_some, List.toList_toArray, Tryz.tw, H.lay, Nat.zero_add, Nat.add_zero, ↓reduceIte, List.getElem?_cons_zero, List.getElem?_cons_succ, a07, a17, a27, a37, p0, p1, p4, p9, q0, q1, q4, q9, w1, c1, e3, e4, e5, e6, e7]; rfl) ?_ | refine AOps.s rfl rfl rfl ?_ | refine AOps.u rfl rfl rfl rfl (by simp only [evS, cond_tt, cond_ff, absV, depthV, Nat.reduceEqDiff, Nat.reduceLT, ↓reduceIte, Option.map_some, Option.bind_some, List.toList_toArray, Tryz.tw, H.lay, Nat.zero_add, Nat.add_zero, ↓reduceIte, List.getElem?_cons_zero, List.getElem?_cons_succ, a07, a17, a27, a37, p0, p1, p4, p9, q0, q1, q4, q9, w1, c1, e3, e4, e5, e6, e7]; rfl) ?_))
  refine AOps.nil ?_
  (repeat refine AWp.seq ?_); change AWp _ _ _ _ _; refine AWp.no (by rfl) (by rfl) (AWp.skip ?_)
  -- the shares
  have hfw : w.fits ∧ c.fits := by
    unfold fewW at e1
    simp only [List.all_cons, List.all_nil, Bool.and_true, Bool.and_eq_true, Wy.few, decide_eq_true_eq] at e1
    exact ⟨⟨by omega, hwb.1, by omega, hwb.2⟩, ⟨by omega, hcb.1, by omega, hcb.2⟩⟩
  (repeat refine AWp.seq ?_); change AWp _ _ _ _ _; refine AWp.region ?_; (repeat (first | refine AOps.v rfl rfl rfl rfl rfl (by simp only [evS, cond_tt, cond_ff, absV, depthV, Nat.reduceEqDiff, Nat.reduceLT, ↓reduceIte, Option.map_some, Option.bind_some, List.toList_toArray, Tryz.tw, H.lay, Nat.zero_add, Nat.add_zero, ↓reduceIte, List.getElem?_cons_zero, List.getElem?_cons_succ, s1, a37, hchs, hch4]; rfl) ?_ | refine AOps.s rfl rfl rfl ?_ | refine AOps.u rfl rfl rfl rfl (by simp only [evS, cond_tt, cond_ff, absV, depthV, Nat.reduceEqDiff, Nat.reduceLT, ↓reduceIte, Option.map_some, Option.bind_some, List.toList_toArray, Tryz.tw, H.lay, Nat.zero_add, Nat.add_zero, ↓reduceIte, List.getElem?_cons_zero, List.getElem?_cons_succ, s1, a37, hchs, hch4]; rfl) ?_))
  refine AOps.c rfl rfl rfl rfl rfl (by simp only [callOf_val, callW_fn, evS, cond_tt, cond_ff, absV, depthV, Nat.reduceEqDiff, Nat.reduceLT, ↓reduceIte, Option.map_some, Option.bind_some, List.toList_toArray]; rfl) rfl (Tryz.shares [w] [p] c (by simp) (by simp) (fun x hx => by rw [List.mem_singleton.1 hx]; exact hfw.1) hfw.2 _ _ ⟨O7, F6, N + 5 + 10, N⟩ rw7 rp7 rfl (fun x hx => by rw [List.mem_singleton.1 hx]; exact hp.one)) ?_
  rintro _ ⟨o8, f8, n8, l8⟩ ⟨code1, lv1, ss1, rfl, hov8, hrd8, htop8, hc8⟩
  have hl8 : N = l8 := (hov8.low (show N ≤ N + 5 + 10 by omega)).symm
  subst hl8
  have hn8 : N + 5 + 10 ≤ n8 := hov8.next
  have a08 : rowO o8 N = some w.cells := rowO_of a07 (hov8.objs N (by show N < N + 5 + 10; omega))
  have a38 : rowO o8 (N + 1 + 1 + 1) = some c.cells := rowO_of a37 (hov8.objs _ (by show N + 1 + 1 + 1 < N + 5 + 10; omega))
  have s28 : rowO o8 (N + 5 + 7) = some [.slice (some (N + 5 + 4, 0)) 1 14 (some 1)] := rowO_of s2 (hov8.objs _ (by show N + 5 + 7 < N + 5 + 10; omega))
  have rw8 := rdS_over hov8 rw7
  have rq8 := rdS_over hov8 rq7
  (repeat (first | refine AOps.v rfl rfl rfl rfl rfl (by simp only [evS, cond_tt, cond_ff, absV, depthV, Nat.reduceEqDiff, Nat.reduceLT, ↓reduceIte, Option.map_some, Option.bind_some, List.toList_toArray]; rfl) ?_ | refine AOps.s rfl rfl rfl ?_ | refine AOps.u rfl rfl rfl rfl (by simp only [evS, cond_tt, cond_ff, absV, depthV, Nat.reduceEqDiff, Nat.reduceLT, ↓reduceIte, Option.map_some, Option.bind_some, List.toList_toArray]; rfl) ?_))
  refine AOps.nil ?_
  (repeat refine AWp.seq ?_); change AWp _ _ _ _ _; refine AWp.region ?_; (repeat (first | refine AOps.v rfl rfl rfl rfl rfl (by simp only [evS, cond_tt, cond_ff, absV, depthV, Nat.reduceEqDiff, Nat.reduceLT, ↓reduceIte, Option.map_some, Option.bind_some, List.toList_toArray, Tryz.tw, H.lay, Nat.zero_add, Nat.add_zero, ↓reduceIte, List.getElem?_cons_zero, List.getElem?_cons_succ, s28, a38, hchs, hch4]; rfl) ?_ | refine AOps.s rfl rfl rfl ?_ | refine AOps.u rfl rfl rfl rfl (by simp only [evS, cond_tt, cond_ff, absV, depthV, Nat.reduceEqDiff, Nat.reduceLT, ↓reduceIte, Option.map_some, Option.bind_some, List.toList_toArray, Tryz.tw, H.lay, Nat.zero_add, Nat.add_zero, ↓reduceIte, List.getElem?_cons_zero, List.getElem?_cons_succ, s28, a38, hchs, hch4]; rfl) ?_))
  refine AOps.c rfl rfl rfl rfl rfl (by simp only [callOf_val, callW_fn, evS, cond_tt, cond_ff, absV, depthV, Nat.reduceEqDiff, Nat.reduceLT, ↓reduceIte, Option.map_some, Option.bind_some, List.toList_toArray]; rfl) rfl (Tryz.shares [w] [q] c (by simp) (by simp) (fun x hx => by rw [List.mem_singleton.1 hx]; exact hfw.1) hfw.2 _ _ ⟨o8, f8, n8, N⟩ rw8 rq8 rfl (fun x hx => by rw [List.mem_singleton.1 hx]; exact hq.one)) ?_
  rintro _ ⟨o9, f9, n9, l9⟩ ⟨code2, lv2, ss2, rfl, hov9, hrd9, htop9, hc9⟩
  have hl9 : N = l9 := (hov9.low (show N ≤ n8 by omega)).symm
  subst hl9
  have hn9 : n8 ≤ n9 := hov9.next
  have a09 : rowO o9 N = some w.cells := rowO_of a08 (hov9.objs N (by show N < n8; omega))
  have hrd8' : RdZ ⟨o9, f9, n9, N⟩ lv1 ss1 := rdS_over hov9 hrd8
  (repeat (first | refine AOps.v rfl rfl rfl rfl rfl (by simp only [evS, cond_tt, cond_ff, absV, depthV, Nat.reduceEqDiff, Nat.reduceLT, ↓reduceIte, Option.map_some, Option.bind_some, List.toList_toArray]; rfl) ?_ | refine AOps.s rfl rfl rfl ?_ | refine AOps.u rfl rfl rfl rfl (by simp only [evS, cond_tt, cond_ff, absV, depthV, Nat.reduceEqDiff, Nat.reduceLT, ↓reduceIte, Option.map_some, Option.bind_some, List.toList_toArray]; rfl) ?_))
  refine AOps.nil ?_
  have hc8' : ShA w p c code1 ss1 := hc8
  have hc9' : ShA w q c code2 ss2 := hc9
  obtain ⟨hcode, hge⟩ := ages_plain hc8' hc9' (by simpa using e3) (by simpa using e4) (by have := of_decide_eq_false e5; omega) (by have := of_decide_eq_false e6; omega) (by simpa using e7)
  have hlen1 := hc8'.len
  have hlen2 := hc9'.len
  obtain ⟨r1, r2⟩ := rows2_at hrd8' hrd9
  have up : ∀ {x : AV} {rows : List Sh}, RdZ ⟨o9, f9, n9, N⟩ x rows → RdZ ⟨o9, f9, n9 + 18, N⟩ x rows := fun hx => rdS_over (h := ⟨o9, f9, n9, N⟩) (h' := ⟨o9, f9, n9 + 18, N⟩) ⟨by show n9 ≤ n9 + 18; omega, fun _ _ => rfl, fun _ _ => rfl, fun _ => rfl⟩ hx
  obtain ⟨pp, hpp⟩ : ∃ pp : List AV → H → Prop, pp = fun args hh => (args = [lv1, .str w.maker] ∧ RdZ hh lv1 ss1) ∨ (args = [lv2, .str w.maker] ∧ RdZ hh lv2 ss2) := ⟨_, rfl⟩
  obtain ⟨vv, hvv⟩ : ∃ vv : List AV → AV, vv = fun args => match args with | [x, .str k] => .int .i64 (ofS (rows2 lv1 ss1 ss2 x) k) | _ => und := ⟨_, rfl⟩
  have va : vv [lv1, .str w.maker] = .int .i64 (ofS ss1 w.maker) := by rw [hvv]; simp only; rw [r1]
  have vb : vv [lv2, .str w.maker] = .int .i64 (ofS ss2 w.maker) := by rw [hvv]; simp only; rw [r2]
  have hcv : CVok Tryz.prog (cvS [servF 16 pp vv]) := cvS_ok (servF_ok (fun args h0 hp => by
    rw [hpp] at hp
    obtain ⟨rfl, hr⟩ | ⟨rfl, hr⟩ := hp
    · rw [va]; exact Tryz.ofShare ss1 w.maker (by omega) lv1 h0 hr
    · rw [vb]; exact Tryz.ofShare ss2 w.maker (by omega) lv2 h0 hr) servOk_nil)
  have qa : cvS [servF 16 pp vv] (.func 16) [lv1, .str w.maker] ⟨o9, f9, n9 + 18, N⟩ = some [(.int .i64 (ofS ss1 w.maker), ⟨o9, f9, n9 + 18, N⟩)] := by rw [cvS_servF (by rw [hpp]; exact .inl ⟨rfl, up hrd8'⟩), va]
  have qb : cvS [servF 16 pp vv] (.func 16) [lv2, .str w.maker] ⟨o9, f9, n9 + 18, N⟩ = some [(.int .i64 (ofS ss2 w.maker), ⟨o9, f9, n9 + 18, N⟩)] := by rw [cvS_servF (by rw [hpp]; exact .inr ⟨rfl, up hrd9⟩), vb]
  clear hpp hvv
  subst hcode
  have hcc : decide (code1 = code1) = true := by simp
  have hgg : decide (ofS ss2 w.maker ≤ ofS ss1 w.maker) = true := decide_eq_true hge
  (repeat refine AWp.seq ?_)
  refine AWp.draws (cv := cvS [servF 16 pp vv]) hcv rfl (L := 18) rfl (ms := [0, 1, 3, 3, 15, 31, 63, 127, 127, 383, 1023, 127, 127, 4223, 16383, 32767, 65535, 131071]) (by kernel_rfl) (by kernel_rfl) ?_
  (repeat (first | refine DRun.r rfl rfl rfl rfl rfl rfl (by simp only [evS, cond_tt, cond_ff, absV, depthV, Nat.reduceEqDiff, Nat.reduceLT, ↓reduceIte, Option.map_some, Option.bind_some, List.toList_toArray, addX_nil, updo_some, updo_none, orU_some, List.filter_nil, Tryz.tw, H.lay, Nat.zero_add, Nat.add_zero, ↓reduceIte, List.getElem?_cons_zero, List.getElem?_cons_succ, a09, w1, hcc]; rfl) ?_ | refine DRun.s rfl rfl rfl ?_))
  refine DRun.k rfl rfl rfl rfl rfl rfl (by simp only [callOf_val, callW_fn, evS, cond_tt, cond_ff, absV, depthV, Nat.reduceEqDiff, Nat.reduceLT, ↓reduceIte, Option.map_some, Option.bind_some, List.toList_toArray]; rfl) rfl qa ?_
  (repeat (first | refine DRun.r rfl rfl rfl rfl rfl rfl (by simp only [evS, cond_tt, cond_ff, absV, depthV, Nat.reduceEqDiff, Nat.reduceLT, ↓reduceIte, Option.map_some, Option.bind_some, List.toList_toArray, addX_nil, updo_some, updo_none, orU_some, List.filter_nil, Tryz.tw, H.lay, Nat.zero_add, Nat.add_zero, ↓reduceIte, List.getElem?_cons_zero, List.getElem?_cons_succ, a09, w1, hcc]; rfl) ?_ | refine DRun.s rfl rfl rfl ?_))
  refine DRun.k rfl rfl rfl rfl rfl rfl (by simp only [callOf_val, callW_fn, evS, cond_tt, cond_ff, absV, depthV, Nat.reduceEqDiff, Nat.reduceLT, ↓reduceIte, Option.map_some, Option.bind_some, List.toList_toArray]; rfl) rfl qb ?_
  (repeat (first | refine DRun.r rfl rfl rfl rfl rfl rfl (by simp only [evS, cond_tt, cond_ff, absV, depthV, Nat.reduceEqDiff, Nat.reduceLT, ↓reduceIte, Option.map_some, Option.bind_some, List.toList_toArray, addX_nil, updo_some, updo_none, orU_some, List.filter_nil, Tryz.tw, H.lay, Nat.zero_add, Nat.add_zero, ↓reduceIte, List.getElem?_cons_zero, List.getElem?_cons_succ, a09, w1, hcc, hgg]; rfl) ?_ | refine DRun.s rfl rfl rfl ?_))
  refine DRun.nil ⟨?_, ?_⟩
  · (intro y hy; simp only [List.nil_append, List.cons_append, List.mem_cons, List.not_mem_nil, or_false] at hy; (repeat' (rcases hy with hy | hy)) <;> (try subst hy) <;> refine ⟨by first | exact eqTop_str _ _ | exact eqTop_int _ _ _ | exact eqTop_bool _ _ | exact eqTop_ptr _ _ _ | exact eqTop_map _ _ | exact eqTop_slice _ _ _ _ _ _ | exact htop8 _ | exact htop9 _ | (simp only [eqTop_agg, eqTop_tup, eqTop, all2, eqL_eq, eqI_eq, kEq, decide_true, Bool.and_self, Bool.and_true]; done), ?_⟩ <;> (simp only [phOk]; refine ⟨?_, ?_, ?_, trivial⟩) <;> first | exact trivial | exact Or.inl rfl | exact Or.inr ⟨_, by simp only [evS, cond_tt, cond_ff, absV, depthV, Nat.reduceEqDiff, Nat.reduceLT, ↓reduceIte, Option.map_some, Option.bind_some, List.toList_toArray, addX_nil, updo_some, updo_none, orU_some, List.filter_nil, Tryz.tw, H.lay, Nat.zero_add, Nat.add_zero, ↓reduceIte, List.getElem?_cons_zero, List.getElem?_cons_succ, a09, w1, hcc, hgg]; rfl⟩)
  simp only [List.filter_nil, addX_nil, updo_some, updo_none, orU_some]
  show AWp _ _ _ _ _
  refine AWp.ret ?_
  (try simp only [OutOf, Then, Round, NoGoto])
  exact hgood _ _ _ _

end Go.Proofs

/- Seat r1: warranties, costs and parts as arguments. No conditions beyond those that each theorem states. -/
namespace Go.Proofs
open Go.Ev

def wyTy : List Ty := [.str, .str, .int .i64, .int .i64, .int .i64]
def coTy : List Ty := [.str, .str, .int .i64, .int .i64]
def ptTy : List Ty := [.str, .str, .str, .str, .int .i64, .int .i64, .bool, .sl (.st [.str, .str]), .st [.st [.int .i64, .int .i64], .st [.int .i64, .int .i64], .st [.int .i64, .int .i64]]]

theorem wy_of {B : Nat} (hB : B ≤ 1000000000000000) {ds : List DV} (hk : okTs B wyTy ds) {s : Bool} {h : H} {us : List AV} (hd : DpL s h ds us) :
    ∃ w : Wy, us = w.cells ∧ (w.kind.length ≤ 1000000000000000 ∧ w.maker.length ≤ 1000000000000000) ∧ ((∀ b ∈ w.kind, b < 256) ∧ ∀ b ∈ w.maker, b < 256) := by
  unfold wyTy at hk
  obtain ⟨x0, r, rfl, b0, l0, hk⟩ := okTs_str hk
  obtain ⟨x1, r, rfl, b1, l1, hk⟩ := okTs_str hk
  obtain ⟨x2, r, rfl, _, hk⟩ := okTs_int hk
  obtain ⟨x3, r, rfl, _, hk⟩ := okTs_int hk
  obtain ⟨x4, r, rfl, _, hk⟩ := okTs_int hk
  have := okTs_nil hk
  subst this
  obtain ⟨_, rfl, _, hd⟩ := DpL_fl.1 hd
  obtain ⟨_, rfl, _, hd⟩ := DpL_fl.1 hd
  obtain ⟨_, rfl, _, hd⟩ := DpL_fl.1 hd
  obtain ⟨_, rfl, _, hd⟩ := DpL_fl.1 hd
  obtain ⟨_, rfl, _, hd⟩ := DpL_fl.1 hd
  rw [DpL_nil] at hd
  subst hd
  exact ⟨⟨x0, x1, x2, x3, x4⟩, rfl, ⟨by show x0.length ≤ _; omega, by show x1.length ≤ _; omega⟩, b0, b1⟩

theorem co_of {B : Nat} (hB : B ≤ 1000000000000000) {ds : List DV} (hk : okTs B coTy ds) {s : Bool} {h : H} {us : List AV} (hd : DpL s h ds us) :
    ∃ w : Co, us = w.cells ∧ (w.part.length ≤ 1000000000000000 ∧ w.owner.length ≤ 1000000000000000) ∧ ((∀ b ∈ w.part, b < 256) ∧ ∀ b ∈ w.owner, b < 256) := by
  unfold coTy at hk
  obtain ⟨x0, r, rfl, b0, l0, hk⟩ := okTs_str hk
  obtain ⟨x1, r, rfl, b1, l1, hk⟩ := okTs_str hk
  obtain ⟨x2, r, rfl, _, hk⟩ := okTs_int hk
  obtain ⟨x3, r, rfl, _, hk⟩ := okTs_int hk
  have := okTs_nil hk
  subst this
  obtain ⟨_, rfl, _, hd⟩ := DpL_fl.1 hd
  obtain ⟨_, rfl, _, hd⟩ := DpL_fl.1 hd
  obtain ⟨_, rfl, _, hd⟩ := DpL_fl.1 hd
  obtain ⟨_, rfl, _, hd⟩ := DpL_fl.1 hd
  rw [DpL_nil] at hd
  subst hd
  exact ⟨⟨x0, x1, x2, x3⟩, rfl, ⟨by show x0.length ≤ _; omega, by show x1.length ≤ _; omega⟩, b0, b1⟩

theorem pr_of {B : Nat} (hB : B ≤ 1000000000000000) {ds : List DV} (hk : okT B (.st [.str, .str]) ds) {s : Bool} {h : H} {us : List AV} (hd : DpL s h ds us) :
    ∃ x : List Nat × List Nat, us = prCells x ∧ (x.1.length ≤ 1000000000000000 ∧ x.2.length ≤ 1000000000000000) := by
  rw [okT] at hk
  obtain ⟨x0, r, rfl, b0, l0, hk⟩ := okTs_str hk
  obtain ⟨x1, r, rfl, b1, l1, hk⟩ := okTs_str hk
  have := okTs_nil hk
  subst this
  obtain ⟨_, rfl, _, hd⟩ := DpL_fl.1 hd
  obtain ⟨_, rfl, _, hd⟩ := DpL_fl.1 hd
  rw [DpL_nil] at hd
  subst hd
  exact ⟨⟨x0, x1⟩, rfl, by show x0.length ≤ _; omega, by show x1.length ≤ _; omega⟩

theorem pt_of {B : Nat} (hB : B ≤ 1000000000000000) {ds : List DV} (hk : okTs B ptTy ds) {s : Bool} {h : H} {us : List AV} (hd : DpL s h ds us) :
    ∃ p : Pt, us = p.cells ∧ PtOk h p := by
  unfold ptTy at hk
  obtain ⟨x0, r, rfl, b0, l0, hk⟩ := okTs_str hk
  obtain ⟨x1, r, rfl, b1, l1, hk⟩ := okTs_str hk
  obtain ⟨x2, r, rfl, b2, l2, hk⟩ := okTs_str hk
  obtain ⟨x3, r, rfl, b3, l3, hk⟩ := okTs_str hk
  obtain ⟨x4, r, rfl, _, hk⟩ := okTs_int hk
  obtain ⟨x5, r, rfl, _, hk⟩ := okTs_int hk
  obtain ⟨x6, r, rfl, hk6⟩ := okTs_bool hk
  obtain ⟨nl, rows, r, rfl, hl, hrows, hk⟩ := okTs_sl hk6
  have hk := okTs_st hk
  have hk := okTs_st hk
  obtain ⟨y0, r, rfl, _, hk⟩ := okTs_int hk
  obtain ⟨y1, r, rfl, _, hk⟩ := okTs_int hk
  have hk := okTs_st hk
  obtain ⟨y2, r, rfl, _, hk⟩ := okTs_int hk
  obtain ⟨y3, r, rfl, _, hk⟩ := okTs_int hk
  have hk := okTs_st hk
  obtain ⟨y4, r, rfl, _, hk⟩ := okTs_int hk
  obtain ⟨y5, r, rfl, _, hk⟩ := okTs_int hk
  have := okTs_nil hk
  subst this
  obtain ⟨_, rfl, _, hd⟩ := DpL_fl.1 hd
  obtain ⟨_, rfl, _, hd⟩ := DpL_fl.1 hd
  obtain ⟨_, rfl, _, hd⟩ := DpL_fl.1 hd
  obtain ⟨_, rfl, _, hd⟩ := DpL_fl.1 hd
  obtain ⟨_, rfl, _, hd⟩ := DpL_fl.1 hd
  obtain ⟨_, rfl, _, hd⟩ := DpL_fl.1 hd
  obtain ⟨_, rfl, _, hd⟩ := DpL_fl.1 hd
  rw [DpL_cons] at hd
  obtain ⟨a, _, rfl, hp, hd⟩ := hd
  obtain ⟨_, rfl, _, hd⟩ := DpL_fl.1 hd
  obtain ⟨_, rfl, _, hd⟩ := DpL_fl.1 hd
  obtain ⟨_, rfl, _, hd⟩ := DpL_fl.1 hd
  obtain ⟨_, rfl, _, hd⟩ := DpL_fl.1 hd
  obtain ⟨_, rfl, _, hd⟩ := DpL_fl.1 hd
  obtain ⟨_, rfl, _, hd⟩ := DpL_fl.1 hd
  rw [DpL_nil] at hd
  subst hd
  obtain ⟨xs, hxl, hrd, hxs, _, hone, htop⟩ := Dp.slice (e := 2) prCells (fun x => x.1.length ≤ 1000000000000000 ∧ x.2.length ≤ 1000000000000000) (fun _ => rfl) (fun r hr us hd => pr_of hB (hrows r hr) hd) hp
  exact ⟨⟨x0, x1, x2, x3, x4, x5, x6, a, y0, y1, y2, y3, y4, y5⟩, rfl, ⟨hone, htop, by show x0.length ≤ _; omega, by show x1.length ≤ _; omega, by show x2.length ≤ _; omega, by show x3.length ≤ _; omega, xs, hrd, by omega, hxs⟩⟩

end Go.Proofs

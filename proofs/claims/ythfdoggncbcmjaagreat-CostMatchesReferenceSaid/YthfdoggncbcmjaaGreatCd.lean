/- Shares of a cost, in plain words; slices of one row. No conditions beyond those that each theorem states. -/
import Derived.Test.YthfdoggncbcmjaaGreatCc
import Derived.Test.YthfdoggncbcmjaaGreatGh

set_option linter.unusedSimpArgs false
set_option linter.unusedVariables false
set_option linter.unusedSectionVars false

namespace Go.Proofs
open Go.Ev
set_option maxRecDepth 100000

/-! ### The law, in plain words -/

theorem ListOk.of {ml : List (List Nat × Int)} {ss : List Sh} (h : ListOk ml ss) (k : List Nat) : ofS ss k = if 0 < getM 0 k ml then getM 0 k ml else 0 := by
  obtain ⟨ks, hp, _, rfl⟩ := h.ex
  unfold ofS
  cases hf : (shL ml ks).find? (fun s => decide (s.pt = k)) with
  | some s =>
    have h1 := List.find?_some hf
    have h2 := List.mem_of_find?_eq_some hf
    unfold shL at h2
    obtain ⟨k', hk', rfl⟩ := List.mem_map.1 h2
    obtain ⟨_, hpos⟩ := List.mem_filter.1 hk'
    have : k' = k := by simpa using h1
    subst this
    rw [if_pos (by simpa using hpos)]
  | none =>
    rw [List.find?_eq_none] at hf
    by_cases hpos : 0 < getM 0 k ml
    · have hh : hasM k ml = true := by
        cases hh : hasM k ml
        · rw [getM_not (u0 := (0 : Int)) hh] at hpos; exact absurd hpos (by decide)
        · rfl
      have hk : k ∈ ks := hp.mem_iff.2 (hasM_mem.1 hh)
      have := hf ⟨k, getM 0 k ml⟩ (List.mem_map.2 ⟨k, List.mem_filter.2 ⟨hk, by simpa using hpos⟩, rfl⟩)
      simp at this
    · rw [if_neg hpos]

theorem since_le {day a b : Int} (h : b ≤ a) : sinceN day a ≤ sinceN day b := by
  unfold sinceN
  split <;> split <;> (try split) <;> (try split) <;> omega

theorem findP_one (p : Pt) (name : List Nat) : findP [p] name = if p.name = name then some p else none := by
  unfold findP
  by_cases h : p.name = name <;> simp [h]

/-- What the maker bears. -/
def bearP (w : Wy) (c : Co) : Option Pt → Int
  | some p => if coversB p c w then pctN c.am w.pct else 0
  | none => 0

theorem bears_one {w : Wy} {c : Co} (hw : w.ok = true) (hc : c.ok = true) (hne : w.maker ≠ c.owner) {po : Option Pt} {ss : List Sh} (h : ListOk (billOf [w] po c) ss) :
    ofS ss w.maker = bearP w c po := by
  unfold bearP
  obtain ⟨_, hamr, hpr⟩ := pct_of_ok hw hc
  obtain ⟨hn0, hn1⟩ := pct_bnd hamr hpr
  have h0 : ∀ x : Int, getM 0 w.maker [(c.owner, x)] = 0 := fun x => by simp [getM, hne]
  rw [h.of]
  cases po with
  | none => simp only [billOf, h0]; rfl
  | some p =>
    simp only
    by_cases hcov : coversB p c w = true
    · have hb : billOf [w] (some p) c = putM w.maker (getM 0 w.maker (putM c.owner (c.am - pctN c.am w.pct) [(c.owner, c.am)]) + pctN c.am w.pct) (putM c.owner (c.am - pctN c.am w.pct) [(c.owner, c.am)]) := by
        simp [billOf, hcov]
      have hg : getM 0 w.maker (billOf [w] (some p) c) = pctN c.am w.pct := by
        rw [hb, getM_put, if_pos rfl, getM_put, if_neg hne, h0, Int.zero_add]
      rw [hg, if_pos hcov]
      split <;> omega
    · have hb : billOf [w] (some p) c = [(c.owner, c.am)] := by simp [billOf, hcov]
      rw [hb, h0, if_neg hcov]; rfl

theorem covers_mono {p q : Pt} {c : Co} {w : Wy} (hk : p.kind = q.kind) (hm : q.made ≤ p.made) (hkm : p.kmh ≤ q.kmh) (h : coversB q c w = true) : coversB p c w = true := by
  unfold coversB at h ⊢
  simp only [Bool.and_eq_true, decide_eq_true_eq] at h ⊢
  have := since_le (day := c.day) hm
  exact ⟨by rw [hk]; exact h.1, by omega, by omega⟩

theorem bill_len (ws : List Wy) (po : Option Pt) (c : Co) : (billOf ws po c).length ≤ 3 := by
  unfold billOf
  split
  · simp
  · split
    · simp
    · rename_i w _
      have h1 := putM_len c.owner (c.am - pctN c.am w.pct) [(c.owner, c.am)]
      have h2 := putM_len w.maker (getM 0 w.maker (putM c.owner (c.am - pctN c.am w.pct) [(c.owner, c.am)]) + pctN c.am w.pct) (putM c.owner (c.am - pctN c.am w.pct) [(c.owner, c.am)])
      simp only [List.length_singleton] at h1
      omega

theorem ListOk.len {ml : List (List Nat × Int)} {ss : List Sh} (h : ListOk ml ss) : ss.length ≤ ml.length := by
  obtain ⟨ks, hp, _, rfl⟩ := h.ex
  unfold shL
  have := hp.length_eq
  have h1 := List.length_filter_le (fun k => decide (0 < getM 0 k ml)) ks
  rw [List.length_map] at this ⊢
  omega

theorem shc_inj {a b : List Sh} (h : a.map Sh.cells = b.map Sh.cells) : a = b := by
  induction a generalizing b with
  | nil => cases b with
    | nil => rfl
    | cons t b => cases h
  | cons s a ih => cases b with
    | nil => cases h
    | cons t b =>
      simp only [List.map_cons, List.cons.injEq, Sh.cells, AV.str.injEq, AV.int.injEq] at h
      obtain ⟨⟨h1, ⟨_, h2⟩, _⟩, h3⟩ := h
      obtain ⟨x, y⟩ := s
      obtain ⟨x', y'⟩ := t
      cases h1; cases h2
      rw [ih h3]

open Classical in
noncomputable def rows2 (v : AV) (a b : List Sh) (x : AV) : List Sh := if x = v then a else b

theorem rows2_at {h : H} {v w : AV} {a b : List Sh} (hv : RdZ h v a) (hw : RdZ h w b) : rows2 v a b v = a ∧ rows2 v a b w = b := by
  unfold rows2
  refine ⟨if_pos rfl, ?_⟩
  by_cases e : w = v
  · rw [if_pos e]; subst e; exact shc_inj (rdS_inj (by decide) hv hw)
  · rw [if_neg e]

/-- What the shares of one cost are. -/
def ShA (w : Wy) (p : Pt) (c : Co) (code : Int) (ss : List Sh) : Prop :=
  (rightB [w] c = false ∧ code = 1 ∧ ss = []) ∨ (rightB [w] c = true ∧ findP [p] c.part = none ∧ code = 2 ∧ ss = []) ∨ (rightB [w] c = true ∧ (findP [p] c.part).isSome = true ∧ code = 0 ∧ ListOk (billOf [w] (findP [p] c.part) c) ss)

theorem ShA.len {w : Wy} {p : Pt} {c : Co} {code : Int} {ss : List Sh} (h : ShA w p c code ss) : ss.length ≤ 3 := by
  rcases h with ⟨_, _, rfl⟩ | ⟨_, _, _, rfl⟩ | ⟨_, _, _, h⟩
  · simp
  · simp
  · have := h.len; have := bill_len [w] (findP [p] c.part) c; omega

theorem ages_plain {w : Wy} {p q : Pt} {c : Co} {k1 k2 : Int} {s1 s2 : List Sh} (h1 : ShA w p c k1 s1) (h2 : ShA w q c k2 s2) (hn : p.name = q.name) (hk : p.kind = q.kind) (hm : q.made ≤ p.made) (hkm : p.kmh ≤ q.kmh) (hne : w.maker ≠ c.owner) :
    k1 = k2 ∧ ofS s2 w.maker ≤ ofS s1 w.maker := by
  have hf : (findP [p] c.part).isSome = (findP [q] c.part).isSome := by
    rw [findP_one, findP_one, hn]; split <;> rfl
  rcases h1 with ⟨a1, rfl, rfl⟩ | ⟨a1, a2, rfl, rfl⟩ | ⟨a1, a2, rfl, a4⟩
  · rcases h2 with ⟨_, rfl, rfl⟩ | ⟨b1, _⟩ | ⟨b1, _⟩
    · exact ⟨rfl, Int.le_refl _⟩
    · rw [a1] at b1; cases b1
    · rw [a1] at b1; cases b1
  · rcases h2 with ⟨b1, _⟩ | ⟨_, _, rfl, rfl⟩ | ⟨_, b2, _⟩
    · rw [a1] at b1; cases b1
    · exact ⟨rfl, Int.le_refl _⟩
    · rw [← hf, a2] at b2; cases b2
  · rcases h2 with ⟨b1, _⟩ | ⟨_, b2, _⟩ | ⟨_, b2, rfl, b4⟩
    · rw [a1] at b1; cases b1
    · rw [hf, b2] at a2; cases a2
    · refine ⟨rfl, ?_⟩
      unfold rightB at a1
      simp only [List.all_cons, List.all_nil, Bool.and_true, Bool.and_eq_true] at a1
      obtain ⟨hw, hc⟩ := a1
      obtain ⟨_, hamr, hpr⟩ := pct_of_ok hw hc
      obtain ⟨hn0, _⟩ := pct_bnd hamr hpr
      rw [bears_one hw hc hne a4, bears_one hw hc hne b4, findP_one, findP_one, hn]
      by_cases hq : q.name = c.part
      · rw [if_pos hq, if_pos hq]
        unfold bearP
        simp only
        by_cases hc2 : coversB q c w = true
        · rw [if_pos hc2, if_pos (covers_mono hk hm hkm hc2)]; exact Int.le_refl _
        · rw [if_neg hc2]; split <;> omega
      · rw [if_neg hq, if_neg hq]; exact Int.le_refl _

/-! ### The walk -/

theorem buildS22 (w : Wy) : buildSliceA Tryz.prog 22 1 [(0, .agg w.cells)] = some (5, w.cells) := by obtain ⟨a, b, c, d, e⟩ := w; kernel_rfl
theorem buildS23 (p : Pt) : buildSliceA Tryz.prog 23 1 [(0, .agg p.cells)] = some (14, p.cells) := by obtain ⟨a, b, c, d, e, f, g, h, i, j, k, l, m, n⟩ := p; kernel_rfl
theorem build25 (o : Option (Nat × Nat)) (n e : Nat) (c : Option Nat) : buildA Tryz.prog 25 [(0, .slice o n e c)] = some (.agg [.slice o n e c]) := by kernel_rfl
theorem Tryz.zero25 : zeroA Tryz.prog 25 = some (.agg [.slice none 0 0 (some 0)]) := by kernel_rfl
theorem hA0 : hasBit 0 1 = false ∧ hasBit 0 4 = false ∧ hasBit 0 6 = false ∧ hasBit 0 7 = false := ⟨by kernel_rfl, by kernel_rfl, by kernel_rfl, by kernel_rfl⟩
theorem hA1 : hasBit 1 1 = false ∧ hasBit 1 4 = false ∧ hasBit 1 6 = false ∧ hasBit 1 7 = false := ⟨by kernel_rfl, by kernel_rfl, by kernel_rfl, by kernel_rfl⟩
theorem hA3 : hasBit 3 1 = true ∧ hasBit 3 4 = false ∧ hasBit 3 6 = false ∧ hasBit 3 7 = false := ⟨by kernel_rfl, by kernel_rfl, by kernel_rfl, by kernel_rfl⟩
theorem hA8 : hasBit 8 1 = false ∧ hasBit 8 4 = false ∧ hasBit 8 6 = false ∧ hasBit 8 7 = false := ⟨by kernel_rfl, by kernel_rfl, by kernel_rfl, by kernel_rfl⟩
theorem hA24 : hasBit 24 1 = false ∧ hasBit 24 4 = true ∧ hasBit 24 6 = false ∧ hasBit 24 7 = false := ⟨by kernel_rfl, by kernel_rfl, by kernel_rfl, by kernel_rfl⟩
theorem hA199 : hasBit 199 1 = true ∧ hasBit 199 4 = false ∧ hasBit 199 6 = true ∧ hasBit 199 7 = true := ⟨by kernel_rfl, by kernel_rfl, by kernel_rfl, by kernel_rfl⟩
theorem hA511 : hasBit 511 1 = true ∧ hasBit 511 4 = true ∧ hasBit 511 6 = true ∧ hasBit 511 7 = true := ⟨by kernel_rfl, by kernel_rfl, by kernel_rfl, by kernel_rfl⟩
theorem hAm : hasBit (Nat.lor 0 199) 1 = true ∧ hasBit (Nat.lor 0 199) 4 = false ∧ hasBit (Nat.lor 0 199) 6 = true ∧ hasBit (Nat.lor 0 199) 7 = true := ⟨by kernel_rfl, by kernel_rfl, by kernel_rfl, by kernel_rfl⟩
theorem hAn : hasBit (Nat.lor (Nat.lor 0 199) 511) 1 = true ∧ hasBit (Nat.lor (Nat.lor 0 199) 511) 4 = true ∧ hasBit (Nat.lor (Nat.lor 0 199) 511) 6 = true ∧ hasBit (Nat.lor (Nat.lor 0 199) 511) 7 = true := ⟨by kernel_rfl, by kernel_rfl, by kernel_rfl, by kernel_rfl⟩

theorem allocS10 {P : Program} {r : Tr AV} {tt : TypeId} {m : Nat} {ps : Array (Nat × Operand)} {id : Nat} {q : List (Nat × AV)} {u : Nat × List AV} (hp : partsA r ps.toList = some q) (hb : buildSliceA P tt m q = some u) : allocA P r (.buildSlice tt m ps) id = some (.slice (some (id, 0)) m u.1 (some m), .cells u.2 id) := by
  simp only [allocA, hp, hb, Option.bind_some, Option.map_some]

theorem eqTop_pt (n : Nat) (p : Pt) (h : eqTop (n + 1) p.props p.props = true) : eqTop (n + 2) (.agg p.cells) (.agg p.cells) = true := by
  refine eqTop_agg _ _ ?_
  simp only [Pt.cells, all2_cons, all2_nil, h, eqTop_str, eqTop_int, eqTop_bool, Bool.and_self]

theorem rd_one {o : Tr AO} {f : Tr (Nat × Nat)} {n lw id s : Nat} {r : List AV} {cap : Option Nat} (ho : rowO o id = some r) (hid : id < n) (hs : r.length = s) : RdS ⟨o, f, n, lw⟩ (.slice (some (id, 0)) 1 s cap) s [r] := by
  refine ⟨fun x hx => by rw [List.mem_singleton.1 hx]; exact hs, .inr ⟨id, 0, cap, r, rfl, hid, ho, ?_, ?_⟩⟩
  · simp [hs]
  · simp only [List.length_singleton, Nat.one_mul, List.drop_zero, List.flatten_singleton]
    exact List.take_of_length_le (by omega)

end Go.Proofs

/- Seat r1: warranties, costs and parts as arguments. No conditions beyond those that each theorem states. -/
namespace Go.Proofs
open Go.Ev

def wyTy : List Ty := [.str, .str, .int .i64, .int .i64, .int .i64]
def coTy : List Ty := [.str, .str, .int .i64, .int .i64]
def ptTy : List Ty := [.str, .str, .str, .str, .int .i64, .int .i64, .bool, .sl (.st [.str, .str]), .st [.st [.int .i64, .int .i64], .st [.int .i64, .int .i64], .st [.int .i64, .int .i64]]]

theorem wy_of {B : Nat} (hB : B ≤ 1000000000000000) {ds : List DV} (hk : okTs B wyTy ds) {s : Bool} {h : H} {us : List AV} (hd : DpL s h ds us) :
    ∃ w : Wy, us = w.cells ∧ (w.kind.length ≤ 1000000000000000 ∧ w.maker.length ≤ 1000000000000000) ∧ ((∀ b ∈ w.kind, b < 256) ∧ ∀ b ∈ w.maker, b < 256) := by
  unfold wyTy at hk
  obtain ⟨x0, r, rfl, b0, l0, hk⟩ := okTs_str hk
  obtain ⟨x1, r, rfl, b1, l1, hk⟩ := okTs_str hk
  obtain ⟨x2, r, rfl, _, hk⟩ := okTs_int hk
  obtain ⟨x3, r, rfl, _, hk⟩ := okTs_int hk
  obtain ⟨x4, r, rfl, _, hk⟩ := okTs_int hk
  have := okTs_nil hk
  subst this
  obtain ⟨_, rfl, _, hd⟩ := DpL_fl.1 hd
  obtain ⟨_, rfl, _, hd⟩ := DpL_fl.1 hd
  obtain ⟨_, rfl, _, hd⟩ := DpL_fl.1 hd
  obtain ⟨_, rfl, _, hd⟩ := DpL_fl.1 hd
  obtain ⟨_, rfl, _, hd⟩ := DpL_fl.1 hd
  rw [DpL_nil] at hd
  subst hd
  exact ⟨⟨x0, x1, x2, x3, x4⟩, rfl, ⟨by show x0.length ≤ _; omega, by show x1.length ≤ _; omega⟩, b0, b1⟩

theorem co_of {B : Nat} (hB : B ≤ 1000000000000000) {ds : List DV} (hk : okTs B coTy ds) {s : Bool} {h : H} {us : List AV} (hd : DpL s h ds us) :
    ∃ w : Co, us = w.cells ∧ (w.part.length ≤ 1000000000000000 ∧ w.owner.length ≤ 1000000000000000) ∧ ((∀ b ∈ w.part, b < 256) ∧ ∀ b ∈ w.owner, b < 256) := by
  unfold coTy at hk
  obtain ⟨x0, r, rfl, b0, l0, hk⟩ := okTs_str hk
  obtain ⟨x1, r, rfl, b1, l1, hk⟩ := okTs_str hk
  obtain ⟨x2, r, rfl, _, hk⟩ := okTs_int hk
  obtain ⟨x3, r, rfl, _, hk⟩ := okTs_int hk
  have := okTs_nil hk
  subst this
  obtain ⟨_, rfl, _, hd⟩ := DpL_fl.1 hd
  obtain ⟨_, rfl, _, hd⟩ := DpL_fl.1 hd
  obtain ⟨_, rfl, _, hd⟩ := DpL_fl.1 hd
  obtain ⟨_, rfl, _, hd⟩ := DpL_fl.1 hd
  rw [DpL_nil] at hd
  subst hd
  exact ⟨⟨x0, x1, x2, x3⟩, rfl, ⟨by show x0.length ≤ _; omega, by show x1.length ≤ _; omega⟩, b0, b1⟩

theorem pr_of {B : Nat} (hB : B ≤ 1000000000000000) {ds : List DV} (hk : okT B (.st [.str, .str]) ds) {s : Bool} {h : H} {us : List AV} (hd : DpL s h ds us) :
    ∃ x : List Nat × List Nat, us = prCells x ∧ (x.1.length ≤ 1000000000000000 ∧ x.2.length ≤ 1000000000000000) := by
  rw [okT] at hk
  obtain ⟨x0, r, rfl, b0, l0, hk⟩ := okTs_str hk
  obtain ⟨x1, r, rfl, b1, l1, hk⟩ := okTs_str hk
  have := okTs_nil hk
  subst this
  obtain ⟨_, rfl, _, hd⟩ := DpL_fl.1 hd
  obtain ⟨_, rfl, _, hd⟩ := DpL_fl.1 hd
  rw [DpL_nil] at hd
  subst hd
  exact ⟨⟨x0, x1⟩, rfl, by show x0.length ≤ _; omega, by show x1.length ≤ _; omega⟩

theorem pt_of {B : Nat} (hB : B ≤ 1000000000000000) {ds : List DV} (hk : okTs B ptTy ds) {s : Bool} {h : H} {us : List AV} (hd : DpL s h ds us) :
    ∃ p : Pt, us = p.cells ∧ PtOk h p := by
  unfold ptTy at hk
  obtain ⟨x0, r, rfl, b0, l0, hk⟩ := okTs_str hk
  obtain ⟨x1, r, rfl, b1, l1, hk⟩ := okTs_str hk
  obtain ⟨x2, r, rfl, b2, l2, hk⟩ := okTs_str hk
  obtain ⟨x3, r, rfl, b3, l3, hk⟩ := okTs_str hk
  obtain ⟨x4, r, rfl, _, hk⟩ := okTs_int hk
  obtain ⟨x5, r, rfl, _, hk⟩ := okTs_int hk
  obtain ⟨x6, r, rfl, hk6⟩ := okTs_bool hk
  obtain ⟨nl, rows, r, rfl, hl, hrows, hk⟩ := okTs_sl hk6
  have hk := okTs_st hk
  have hk := okTs_st hk
  obtain ⟨y0, r, rfl, _, hk⟩ := okTs_int hk
  obtain ⟨y1, r, rfl, _, hk⟩ := okTs_int hk
  have hk := okTs_st hk
  obtain ⟨y2, r, rfl, _, hk⟩ := okTs_int hk
  obtain ⟨y3, r, rfl, _, hk⟩ := okTs_int hk
  have hk := okTs_st hk
  obtain ⟨y4, r, rfl, _, hk⟩ := okTs_int hk
  obtain ⟨y5, r, rfl, _, hk⟩ := okTs_int hk
  have := okTs_nil hk
  subst this
  obtain ⟨_, rfl, _, hd⟩ := DpL_fl.1 hd
  obtain ⟨_, rfl, _, hd⟩ := DpL_fl.1 hd
  obtain ⟨_, rfl, _, hd⟩ := DpL_fl.1 hd
  obtain ⟨_, rfl, _, hd⟩ := DpL_fl.1 hd
  obtain ⟨_, rfl, _, hd⟩ := DpL_fl.1 hd
  obtain ⟨_, rfl, _, hd⟩ := DpL_fl.1 hd
  obtain ⟨_, rfl, _, hd⟩ := DpL_fl.1 hd
  rw [DpL_cons] at hd
  obtain ⟨a, _, rfl, hp, hd⟩ := hd
  obtain ⟨_, rfl, _, hd⟩ := DpL_fl.1 hd
  obtain ⟨_, rfl, _, hd⟩ := DpL_fl.1 hd
  obtain ⟨_, rfl, _, hd⟩ := DpL_fl.1 hd
  obtain ⟨_, rfl, _, hd⟩ := DpL_fl.1 hd
  obtain ⟨_, rfl, _, hd⟩ := DpL_fl.1 hd
  obtain ⟨_, rfl, _, hd⟩ := DpL_fl.1 hd
  rw [DpL_nil] at hd
  subst hd
  obtain ⟨xs, hxl, hrd, hxs, _, hone, htop⟩ := Dp.slice (e := 2) prCells (fun x => x.1.length ≤ 1000000000000000 ∧ x.2.length ≤ 1000000000000000) (fun _ => rfl) (fun r hr us hd => pr_of hB (hrows r hr) hd) hp
  exact ⟨⟨x0, x1, x2, x3, x4, x5, x6, a, y0, y1, y2, y3, y4, y5⟩, rfl, ⟨hone, htop, by show x0.length ≤ _; omega, by show x1.length ≤ _; omega, by show x2.length ≤ _; omega, by show x3.length ≤ _; omega, xs, hrd, by omega, hxs⟩⟩

end Go.Proofs

/- Seat r1: the shares of a cost, in plain words. No conditions beyond those that each theorem states. -/
namespace Go.Proofs
open Go.Ev

theorem sortedZ_eq : ∀ {a b : List Sh}, a.Pairwise (fun x y => ltL x.pt y.pt = true) → b.Pairwise (fun x y => ltL x.pt y.pt = true) → (∀ t, t ∈ a ↔ t ∈ b) → a = b
  | [], b, _, _, h => by
    cases b with
    | nil => rfl
    | cons t b => exact absurd ((h t).2 (List.mem_cons_self ..)) (by simp)
  | s :: a, b, ha, hb, h => by
    cases b with
    | nil => exact absurd ((h s).1 (List.mem_cons_self ..)) (by simp)
    | cons t b =>
      rw [List.pairwise_cons] at ha hb
      have hst : s = t := by
        rcases List.mem_cons.1 ((h s).1 (List.mem_cons_self ..)) with e | e
        · exact e
        · rcases List.mem_cons.1 ((h t).2 (List.mem_cons_self ..)) with e2 | e2
          · exact e2.symm
          · have h1 := hb.1 s e
            have h2 := ha.1 t e2
            rw [ltL_asymm h1] at h2; cases h2
      subst hst
      have ns : ∀ {l : List Sh}, (∀ x ∈ l, ltL s.pt x.pt = true) → s ∉ l := fun hl hm => by
        have := hl s hm
        rw [ltL_irrefl] at this; cases this
      rw [sortedZ_eq ha.2 hb.2 fun x => ⟨fun hx => by
        rcases List.mem_cons.1 ((h x).1 (List.mem_cons_of_mem _ hx)) with e | e
        · subst e; exact absurd hx (ns ha.1)
        · exact e, fun hx => by
        rcases List.mem_cons.1 ((h x).2 (List.mem_cons_of_mem _ hx)) with e | e
        · subst e; exact absurd hx (ns hb.1)
        · exact e⟩]

theorem ListOk.lts {ml : List (List Nat × Int)} {ss : List Sh} (hn : (ml.map (·.1)).Nodup) (h : ListOk ml ss) : ss.Pairwise fun a b => ltL a.pt b.pt = true := by
  obtain ⟨ks, hp, hs, rfl⟩ := h.ex
  have hkn : ks.Nodup := hp.nodup_iff.2 hn
  have hst : ks.Pairwise fun a b => ltL a b = true := by
    have := List.Pairwise.and hs hkn
    refine this.imp fun {a b} ⟨h1, h2⟩ => ?_
    rcases ltL_tri a b with h | h | h
    · exact h
    · exact absurd h h2
    · rw [h1] at h; cases h
  unfold shL
  rw [List.pairwise_map]
  exact hst.sublist List.filter_sublist

theorem ListOk.mem {ml : List (List Nat × Int)} {ss : List Sh} (h : ListOk ml ss) (s : Sh) : s ∈ ss ↔ s.pt ∈ ml.map (·.1) ∧ 0 < getM 0 s.pt ml ∧ s.am = getM 0 s.pt ml := by
  obtain ⟨ks, hp, _, rfl⟩ := h.ex
  unfold shL
  rw [List.mem_map]
  constructor
  · rintro ⟨k, hk, rfl⟩
    obtain ⟨h1, h2⟩ := List.mem_filter.1 hk
    exact ⟨hp.mem_iff.1 h1, by simpa using h2, rfl⟩
  · rintro ⟨h1, h2, h3⟩
    exact ⟨s.pt, List.mem_filter.2 ⟨hp.mem_iff.2 h1, by simpa using h2⟩, by cases s; simp only at h3 ⊢; rw [h3]⟩

theorem ListOk.uniq {ml : List (List Nat × Int)} {ss st : List Sh} (hn : (ml.map (·.1)).Nodup) (h : ListOk ml ss) (h' : ListOk ml st) : ss = st :=
  sortedZ_eq (h.lts hn) (h'.lts hn) fun t => (h.mem t).trans (h'.mem t).symm

/-- One party, or two. -/
theorem ListOk.one {k : List Nat} {n : Int} {ss : List Sh} (h0 : 0 ≤ n) (h : ListOk [(k, n)] ss) : (ss.map Sh.am).sum = n ∧ ss.length ≤ 2 ∧ ofS ss k = n := by
  obtain ⟨ks, hp, _, rfl⟩ := h.ex
  have hks : ks = [k] := List.perm_singleton.1 hp
  subst hks
  have hg : getM (0 : Int) k [(k, n)] = n := by simp [getM]
  refine ⟨?_, ?_, ?_⟩
  · unfold shL
    by_cases hpos : 0 < n
    · simp [hg, hpos]
    · simp [hg, hpos]; omega
  · exact Nat.le_trans (shL_len _ _) (by simp)
  · rw [h.of, hg]; split <;> omega

theorem ListOk.two {k l : List Nat} {n m : Int} {ss : List Sh} (hne : k ≠ l) (h0 : 0 ≤ n) (h1 : 0 ≤ m) (h : ListOk [(k, n), (l, m)] ss) : (ss.map Sh.am).sum = n + m ∧ ss.length ≤ 2 ∧ ofS ss l = m := by
  have hgk : getM (0 : Int) k [(k, n), (l, m)] = n := by simp [getM]
  have hgl : getM (0 : Int) l [(k, n), (l, m)] = m := by simp [getM, Ne.symm hne]
  have hof := h.of l
  obtain ⟨ks, hp, _, rfl⟩ := h.ex
  have hp : ks.Perm [k, l] := hp
  have hlen : ks.length = 2 := hp.length_eq
  refine ⟨?_, ?_, ?_⟩
  · have hcase : ks = [k, l] ∨ ks = [l, k] := by
      match ks, hlen with
      | [a, b], _ =>
        have ha : a ∈ [k, l] := hp.mem_iff.1 (by simp)
        have hb : b ∈ [k, l] := hp.mem_iff.1 (by simp)
        have hnd : [a, b].Nodup := hp.nodup_iff.2 (by simp [hne])
        simp only [List.mem_cons, List.not_mem_nil, or_false] at ha hb
        simp only [List.nodup_cons, List.mem_singleton] at hnd
        rcases ha with rfl | rfl <;> rcases hb with rfl | rfl
        · exact absurd rfl hnd.1
        · exact .inl rfl
        · exact .inr rfl
        · exact absurd rfl hnd.1
    rcases hcase with rfl | rfl <;> unfold shL <;> by_cases p1 : 0 < n <;> by_cases p2 : 0 < m <;> simp [hgk, hgl, p1, p2] <;> omega
  · exact Nat.le_trans (shL_len _ _) (by omega)
  · rw [hof, hgl]; split <;> omega

/-- What the law asks of the shares. -/
structure Adds (ws : List Wy) (p : Pt) (c : Co) (ss : List Sh) : Prop where
  sum : (ss.map Sh.am).sum = c.am
  len : ss.length ≤ 2
  pos : ∀ s ∈ ss, 0 < s.am ∧ s.am ≤ 1000000000000
  lts : ss.Pairwise fun a b => ltL a.pt b.pt = true
  ofn : ws.find? (coversB p c) = none → ofS ss c.owner = c.am
  ofw : ∀ w, ws.find? (coversB p c) = some w → ofS ss w.maker = if w.maker = c.owner then c.am else pctN c.am w.pct

theorem right_parts {ws : List Wy} {c : Co} (h : rightB ws c = true) : (∀ w ∈ ws, w.ok = true) ∧ c.ok = true := by
  unfold rightB at h
  rw [Bool.and_eq_true, List.all_eq_true] at h
  exact h

theorem am_ok {c : Co} (h : c.ok = true) : 0 ≤ c.am ∧ c.am ≤ 1000000000000 := by
  unfold Co.ok isAm at h
  simp only [Bool.and_eq_true, decide_eq_true_eq] at h
  omega

/-- The bill of a part. -/
theorem bill_form {ws : List Wy} {p : Pt} {c : Co} (hr : rightB ws c = true) :
    (billOf ws (some p) c = [(c.owner, c.am)] ∧ (ws.find? (coversB p c) = none ∨ ∃ w, ws.find? (coversB p c) = some w ∧ w.maker = c.owner)) ∨
    ∃ w, ws.find? (coversB p c) = some w ∧ w.maker ≠ c.owner ∧ billOf ws (some p) c = [(c.owner, c.am - pctN c.am w.pct), (w.maker, pctN c.am w.pct)] ∧ 0 ≤ pctN c.am w.pct ∧ pctN c.am w.pct ≤ c.am := by
  obtain ⟨hws, hc⟩ := right_parts hr
  cases hf : ws.find? (coversB p c) with
  | none => exact .inl ⟨by simp only [billOf, hf], .inl rfl⟩
  | some w =>
    obtain ⟨_, hamr, hpr⟩ := pct_of_ok (hws w (List.mem_of_find?_eq_some hf)) hc
    obtain ⟨hn0, hn1⟩ := pct_bnd hamr hpr
    by_cases hm : w.maker = c.owner
    · refine .inl ⟨?_, .inr ⟨w, rfl, hm⟩⟩
      simp only [billOf, hf, hm, putM, getM, if_true]
      have : c.am - pctN c.am w.pct + pctN c.am w.pct = c.am := by omega
      rw [this]
    · refine .inr ⟨w, rfl, hm, ?_, hn0, hn1⟩
      simp [billOf, hf, putM, getM, hm]

theorem Adds.of {ws : List Wy} {p : Pt} {c : Co} {ss : List Sh} (hr : rightB ws c = true) (h : ListOk (billOf ws (some p) c) ss) : Adds ws p c ss := by
  obtain ⟨hws, hc⟩ := right_parts hr
  obtain ⟨a0, a1⟩ := am_ok hc
  rcases bill_form (p := p) hr with ⟨hb, hf⟩ | ⟨w, hf, hm, hb, hn0, hn1⟩
  · rw [hb] at h
    obtain ⟨h1, h2, h3⟩ := ListOk.one a0 h
    refine ⟨h1, h2, fun s hs => ?_, h.lts (by simp), fun _ => h3, fun w hw => ?_⟩
    · obtain ⟨g1, g2, g3⟩ := (h.mem s).1 hs
      simp only [List.map_cons, List.map_nil, List.mem_singleton] at g1
      rw [g1] at g2 g3
      simp only [getM, if_true] at g2 g3
      omega
    · rcases hf with hf | ⟨w', hf, hm⟩
      · rw [hf] at hw; cases hw
      · rw [hf] at hw; cases hw
        rw [if_pos hm, hm]; exact h3
  · rw [hb] at h
    obtain ⟨h1, h2, h3⟩ := ListOk.two (Ne.symm hm) (by omega) hn0 h
    refine ⟨by omega, h2, fun s hs => ?_, h.lts (by simp [Ne.symm hm]), fun hw => (by rw [hf] at hw; cases hw), fun w' hw => ?_⟩
    · obtain ⟨g1, g2, g3⟩ := (h.mem s).1 hs
      simp only [List.map_cons, List.map_nil, List.mem_cons, List.not_mem_nil, or_false] at g1
      rcases g1 with g1 | g1 <;> rw [g1] at g2 g3 <;> simp [getM, hm] at g2 g3 <;> omega
    · rw [hf] at hw; cases hw
      rw [if_neg hm]; exact h3

/-- With fewer warranties, of which the first that covers is the same. -/
theorem bill_less {ws own : List Wy} {p : Pt} {c : Co} (h : own.find? (coversB p c) = ws.find? (coversB p c)) : billOf own (some p) c = billOf ws (some p) c := by
  simp only [billOf, h]

theorem bill_nodup {ws : List Wy} {p : Pt} {c : Co} (hr : rightB ws c = true) : ((billOf ws (some p) c).map (·.1)).Nodup := by
  rcases bill_form (p := p) hr with ⟨hb, _⟩ | ⟨w, _, hm, hb, _⟩
  · rw [hb]; simp
  · rw [hb]; simp [Ne.symm hm]

theorem right_less {ws own : List Wy} {c : Co} (hr : rightB ws c = true) (h : ∀ w ∈ own, w ∈ ws) : rightB own c = true := by
  obtain ⟨h1, h2⟩ := right_parts hr
  unfold rightB
  rw [Bool.and_eq_true, List.all_eq_true]
  exact ⟨fun w hw => h1 w (h w hw), h2⟩

/-- Where the law's loop stands behind k warranties: the first that covers, and those of the part's kind up to it. -/
structure Own (ws : List Wy) (p : Pt) (c : Co) (k : Nat) (j : Int) (own : List Wy) : Prop where
  sub : ∀ w ∈ own, w ∈ ws
  len : own.length ≤ k
  at' : (j = -1 ∧ own.find? (coversB p c) = none ∧ ∀ w ∈ ws.take k, coversB p c w = false) ∨
    ∃ (i : Nat) (w : Wy), j = (i : Int) ∧ i < k ∧ ws[i]? = some w ∧ coversB p c w = true ∧ (∀ x ∈ ws.take i, coversB p c x = false) ∧ own.find? (coversB p c) = some w

theorem Own.start (ws : List Wy) (p : Pt) (c : Co) : Own ws p c 0 (-1) [] := ⟨fun w hw => (List.not_mem_nil hw).elim, by simp, .inl ⟨rfl, rfl, fun w hw => by simp at hw⟩⟩

/-- Another kind, or behind the first. -/
theorem Own.skip {ws own : List Wy} {p : Pt} {c : Co} {k : Nat} {j : Int} (h : Own ws p c k j own) {w : Wy} (hw : ws[k]? = some w) (hs : w.kind ≠ p.kind ∨ 0 ≤ j) : Own ws p c (k + 1) j own := by
  refine ⟨h.sub, by have := h.len; omega, ?_⟩
  rcases h.at' with ⟨rfl, h1, h2⟩ | ⟨i, w', rfl, h1, h2⟩
  · refine .inl ⟨rfl, h1, fun x hx => ?_⟩
    rw [take_snoc hw, List.mem_append, List.mem_singleton] at hx
    rcases hx with hx | rfl
    · exact h2 x hx
    · have hk : x.kind ≠ p.kind := hs.resolve_right (by decide)
      unfold coversB
      rw [decide_eq_false hk, Bool.false_and]
  · exact .inr ⟨i, w', rfl, by omega, h2⟩

/-- One of the part's kind. -/
theorem Own.add {ws own : List Wy} {p : Pt} {c : Co} {k : Nat} (h : Own ws p c k (-1) own) {w : Wy} (hw : ws[k]? = some w) : Own ws p c (k + 1) (if coversB p c w = true then (k : Int) else -1) (own ++ [w]) := by
  refine ⟨fun x hx => ?_, by have := h.len; rw [List.length_append]; simp only [List.length_singleton]; omega, ?_⟩
  · rw [List.mem_append, List.mem_singleton] at hx
    rcases hx with hx | rfl
    · exact h.sub x hx
    · exact List.mem_of_getElem? hw
  · rcases h.at' with ⟨_, h1, h2⟩ | ⟨i, w', hi, _⟩
    · cases hc : coversB p c w
      · refine .inl ⟨by simp, ?_, fun x hx => ?_⟩
        · rw [List.find?_append, h1]; simp [hc]
        · rw [take_snoc hw, List.mem_append, List.mem_singleton] at hx
          rcases hx with hx | rfl
          · exact h2 x hx
          · exact hc
      · refine .inr ⟨k, w, by simp, by omega, hw, hc, h2, ?_⟩
        rw [List.find?_append, h1]; simp [hc]
    · omega

/-- At the end: the first that covers is the first of all. -/
theorem Own.done {ws own : List Wy} {p : Pt} {c : Co} {j : Int} (h : Own ws p c ws.length j own) : own.find? (coversB p c) = ws.find? (coversB p c) ∧
    ((j = -1 ∧ ws.find? (coversB p c) = none) ∨ ∃ (i : Nat) (w : Wy), j = (i : Int) ∧ ws[i]? = some w ∧ ws.find? (coversB p c) = some w) := by
  rcases h.at' with ⟨rfl, h1, h2⟩ | ⟨i, w, rfl, h1, h2, h3, h4, h5⟩
  · rw [List.take_length] at h2
    have : ws.find? (coversB p c) = none := by
      rw [List.find?_eq_none]
      intro x hx; rw [h2 x hx]; decide
    exact ⟨h1.trans this.symm, .inl ⟨rfl, this⟩⟩
  · have : ws.find? (coversB p c) = some w := by
      rw [List.find?_eq_some_iff_getElem]
      refine ⟨h3, i, h1, by rw [List.getElem?_eq_getElem h1] at h2; exact Option.some.inj h2, fun q hq => ?_⟩
      have hlt : q < ws.length := by omega
      rw [h4 ws[q] (by rw [List.mem_iff_getElem?]; exact ⟨q, by rw [List.getElem?_take, if_pos hq]; exact List.getElem?_eq_getElem hlt⟩)]; rfl
    exact ⟨h5.trans this.symm, .inr ⟨i, w, rfl, h2, this⟩⟩

end Go.Proofs

/- Seat r1: bogieref43.Same. No conditions beyond those that each theorem states. -/
namespace Go.Proofs
open Go.Ev
set_option maxRecDepth 100000

set_option maxHeartbeats 1000000 in
theorem Tryz.same43 (a b : List Sh) (hlen : a.length ≤ 1000) (v w : AV) (h : H) (hv : RdZ h v a) (hw : RdZ h w b) : ACalls Tryz.prog (.func 12) [v, w] h (fun r h' => r = .bool (decide (a = b)) ∧ h' = h) := by
  refine ACalls.body (n := 26) Tryz.nogo Tryz.func12 rfl rfl ?_
  rw [argF2]
  obtain ⟨o, e, c, rfl⟩ := hv.len
  obtain ⟨o', e', c', rfl⟩ := hw.len
  rw [List.length_map] at hv hw ⊢
  rw [List.length_map]
  (repeat refine AWp.seq ?_); change AWp _ _ _ _ _; refine AWp.region ?_; (repeat (first | refine AOps.v rfl rfl rfl rfl rfl (by simp only [evS, cond_tt, cond_ff, absV, depthV, Nat.reduceEqDiff, Nat.reduceLT, ↓reduceIte, Option.map_some, Option.bind_some, List.toList_toArray]; rfl) ?_ | refine AOps.s rfl rfl rfl ?_ | refine AOps.u rfl rfl rfl rfl (by simp only [evS, cond_tt, cond_ff, absV, depthV, Nat.reduceEqDiff, Nat.reduceLT, ↓reduceIte, Option.map_some, Option.bind_some, List.toList_toArray]; rfl) ?_)); refine AOps.nil ?_
  by_cases hl : a.length = b.length
  · have c0 : decide ((a.length : Int) = (b.length : Int)) = true := by rw [decide_eq_true_eq]; omega
    (repeat refine AWp.seq ?_); change AWp _ _ _ _ _; refine AWp.region ?_; (repeat (first | refine AOps.v rfl rfl rfl rfl rfl (by simp only [evS, cond_tt, cond_ff, absV, depthV, Nat.reduceEqDiff, Nat.reduceLT, ↓reduceIte, Option.map_some, Option.bind_some, List.toList_toArray, load_agg Tryz.agg65 Tryz.size65, load_one Tryz.agg9, load_one Tryz.agg3, load_one Tryz.agg31, Tryz.fa65_0, Tryz.fa65_1, len_slice Tryz.underlying31, H.lay, rowO_put, rowA_cells, Nat.zero_add, Nat.add_zero, ↓reduceIte, c0]; rfl) ?_ | refine AOps.s rfl rfl rfl ?_ | refine AOps.u rfl rfl rfl rfl (by simp only [evS, cond_tt, cond_ff, absV, depthV, Nat.reduceEqDiff, Nat.reduceLT, ↓reduceIte, Option.map_some, Option.bind_some, List.toList_toArray, load_agg Tryz.agg65 Tryz.size65, load_one Tryz.agg9, load_one Tryz.agg3, load_one Tryz.agg31, Tryz.fa65_0, Tryz.fa65_1, len_slice Tryz.underlying31, H.lay, rowO_put, rowA_cells, Nat.zero_add, Nat.add_zero, ↓reduceIte, c0]; rfl) ?_)); refine AOps.nil ?_
    (repeat refine AWp.seq ?_); change AWp _ _ _ _ _; refine AWp.no (by rfl) (by rfl) (AWp.skip ?_)
    (repeat refine AWp.seq ?_); change AWp _ _ _ _ _; refine AWp.region ?_; (repeat (first | refine AOps.v rfl rfl rfl rfl rfl (by simp only [evS, cond_tt, cond_ff, absV, depthV, Nat.reduceEqDiff, Nat.reduceLT, ↓reduceIte, Option.map_some, Option.bind_some, List.toList_toArray]; rfl) ?_ | refine AOps.s rfl rfl rfl ?_ | refine AOps.u rfl rfl rfl rfl (by simp only [evS, cond_tt, cond_ff, absV, depthV, Nat.reduceEqDiff, Nat.reduceLT, ↓reduceIte, Option.map_some, Option.bind_some, List.toList_toArray]; rfl) ?_)); refine AOps.nil ?_
    refine AWp.block (AWp.loop (fun m st => ∃ k kn : Nat, k ≤ a.length ∧ m = a.length - k ∧ h.next ≤ kn ∧ (∀ i : Nat, i < k → a[i]? = b[i]?) ∧
      Fr st [(0, .slice o a.length e c), (1, .slice o' b.length e' c'), (4, .bool false), (5, .int .i64 (k : Int))] 26 ⟨h.objs, h.fams, kn, h.next⟩ []) a.length ?_ ?_)
    · exact ⟨0, h.next, by omega, by omega, Nat.le_refl _, fun i hi => by omega, rfl, rfl, rfl, rfl, rfl, rfl, rfl, trivial⟩
    rintro m st ⟨k, kn, hk, rfl, hkn, hall, hF⟩
    obtain ⟨f, rfl⟩ := hF.open
    simp only [updL]
    by_cases hlt : k < a.length
    · have hlt2 : k < b.length := by omega
      have c1 : decide ((k : Int) < (a.length : Int)) = true := by simp only [decide_eq_true_eq]; omega
      obtain ⟨s, hs⟩ : ∃ t, a[k]? = some t := ⟨a[k], List.getElem?_eq_getElem hlt⟩
      obtain ⟨t, ht⟩ : ∃ t, b[k]? = some t := ⟨b[k], List.getElem?_eq_getElem hlt2⟩
      obtain ⟨id, off, cap, cs, hv', hid, hrow, hcl, hch, hcell⟩ := hv.open (i := k) (by rw [List.length_map]; exact hlt)
      rw [List.length_map] at hv'
      cases hv'
      obtain ⟨id2, off2, cap2, cs2, hw', hid2, hrow2, hcl2, hch2, hcell2⟩ := hw.open (i := k) (by rw [List.length_map]; exact hlt2)
      rw [List.length_map] at hw'
      cases hw'
      have kc := hch _ _ (rowsS_get a hs)
      have kc2 := hch2 _ _ (rowsS_get b ht)
      (repeat refine AWp.seq ?_); change AWp _ _ _ _ _; refine AWp.region ?_; (repeat (first | refine AOps.v rfl rfl rfl rfl rfl (by simp only [evS, cond_tt, cond_ff, absV, depthV, Nat.reduceEqDiff, Nat.reduceLT, ↓reduceIte, Option.map_some, Option.bind_some, List.toList_toArray, load_agg Tryz.agg65 Tryz.size65, load_one Tryz.agg9, load_one Tryz.agg3, load_one Tryz.agg31, Tryz.fa65_0, Tryz.fa65_1, len_slice Tryz.underlying31, H.lay, rowO_put, rowA_cells, Nat.zero_add, Nat.add_zero, ↓reduceIte, c1]; rfl) ?_ | refine AOps.s rfl rfl rfl ?_ | refine AOps.u rfl rfl rfl rfl (by simp only [evS, cond_tt, cond_ff, absV, depthV, Nat.reduceEqDiff, Nat.reduceLT, ↓reduceIte, Option.map_some, Option.bind_some, List.toList_toArray, load_agg Tryz.agg65 Tryz.size65, load_one Tryz.agg9, load_one Tryz.agg3, load_one Tryz.agg31, Tryz.fa65_0, Tryz.fa65_1, len_slice Tryz.underlying31, H.lay, rowO_put, rowA_cells, Nat.zero_add, Nat.add_zero, ↓reduceIte, c1]; rfl) ?_)); refine AOps.nil ?_
      (repeat refine AWp.seq ?_); change AWp _ _ _ _ _; refine AWp.yes (by rfl) (by rfl) (AWp.skip ?_)
      (repeat refine AWp.seq ?_)
      refine AWp.block ?_
      cases e1 : decide (s = t)
      · (repeat refine AWp.seq ?_)
        refine AWp.draws (cv := cv0) cv0_ok rfl (L := 9) rfl (ms := [0, 0, 3, 7, 0, 0, 48, 112, 255]) (by kernel_rfl) (by kernel_rfl) ?_
        (repeat (first | refine DRun.r rfl rfl rfl rfl rfl rfl (by simp only [evS, cond_tt, cond_ff, absV, depthV, Nat.reduceEqDiff, Nat.reduceLT, ↓reduceIte, Option.map_some, Option.bind_some, List.toList_toArray, addX_nil, updo_some, updo_none, orU_some, List.filter_nil, load_agg Tryz.agg65 Tryz.size65, load_one Tryz.agg9, load_one Tryz.agg3, load_one Tryz.agg31, Tryz.fa65_0, Tryz.fa65_1, len_slice Tryz.underlying31, H.lay, rowO_put, rowA_cells, Nat.zero_add, Nat.add_zero, ↓reduceIte, iaddr_slice Tryz.underlying31 Tryz.size65 hlt, iaddr_slice Tryz.underlying31 Tryz.size65 hlt2, hrow, hrow2, kc, kc2, neq36 s t 65 rfl, e1]; rfl) ?_ | refine DRun.s rfl rfl rfl ?_))
        refine DRun.nil ⟨?_, ?_⟩
        · (intro y hy; simp only [List.nil_append, List.cons_append, List.mem_cons, List.not_mem_nil, or_false] at hy; (repeat' (rcases hy with hy | hy)) <;> (try subst hy) <;> refine ⟨by first | exact eqTop_str _ _ | exact eqTop_int _ _ _ | exact eqTop_bool _ _ | exact eqTop_ptr _ _ _ | exact eqTop_map _ _ | exact eqTop_slice _ _ _ _ _ _ | exact eqTop_sh _ _ | (simp only [eqTop_agg, eqTop_tup, eqTop, all2, eqL_eq, eqI_eq, kEq, decide_true, Bool.and_self, Bool.and_true]; done), ?_⟩ <;> (simp only [phOk]; refine ⟨?_, trivial⟩) <;> first | exact trivial | exact Or.inl rfl | exact Or.inr ⟨_, by simp only [evS, cond_tt, cond_ff, absV, depthV, Nat.reduceEqDiff, Nat.reduceLT, ↓reduceIte, Option.map_some, Option.bind_some, List.toList_toArray, addX_nil, updo_some, updo_none, orU_some, List.filter_nil, load_agg Tryz.agg65 Tryz.size65, load_one Tryz.agg9, load_one Tryz.agg3, load_one Tryz.agg31, Tryz.fa65_0, Tryz.fa65_1, len_slice Tryz.underlying31, H.lay, rowO_put, rowA_cells, Nat.zero_add, Nat.add_zero, ↓reduceIte, iaddr_slice Tryz.underlying31 Tryz.size65 hlt, iaddr_slice Tryz.underlying31 Tryz.size65 hlt2, hrow, hrow2, kc, kc2, neq36 s t 65 rfl, e1]; rfl⟩)
        simp only [List.filter_nil, addX_nil, updo_some, updo_none, orU_some]
        show AWp _ _ _ _ _
        (repeat refine AWp.seq ?_); change AWp _ _ _ _ _; refine AWp.yes (by rfl) (by rfl) ?_
        (repeat refine AWp.seq ?_); change AWp _ _ _ _ _; refine AWp.region ?_; (repeat (first | refine AOps.v rfl rfl rfl rfl rfl (by simp only [evS, cond_tt, cond_ff, absV, depthV, Nat.reduceEqDiff, Nat.reduceLT, ↓reduceIte, Option.map_some, Option.bind_some, List.toList_toArray]; rfl) ?_ | refine AOps.s rfl rfl rfl ?_ | refine AOps.u rfl rfl rfl rfl (by simp only [evS, cond_tt, cond_ff, absV, depthV, Nat.reduceEqDiff, Nat.reduceLT, ↓reduceIte, Option.map_some, Option.bind_some, List.toList_toArray]; rfl) ?_)); refine AOps.nil ?_
        refine AWp.ret ?_
        have hne : decide (a = b) = false := by
          rw [decide_eq_false_iff_not]; intro hab; subst hab
          rw [hs] at ht; cases ht; simp at e1
        (try simp only [OutOf, Then, Round, NoGoto]); refine leaves_plain (by rfl) (by rfl) (fun _ => rfl) (by rfl) ⟨?_, rfl⟩; rw [hne]; rfl
      · have est : s = t := by simpa using e1
        (repeat refine AWp.seq ?_)
        refine AWp.draws (cv := cv0) cv0_ok rfl (L := 9) rfl (ms := [0, 0, 3, 7, 0, 0, 48, 112, 255]) (by kernel_rfl) (by kernel_rfl) ?_
        (repeat (first | refine DRun.r rfl rfl rfl rfl rfl rfl (by simp only [evS, cond_tt, cond_ff, absV, depthV, Nat.reduceEqDiff, Nat.reduceLT, ↓reduceIte, Option.map_some, Option.bind_some, List.toList_toArray, addX_nil, updo_some, updo_none, orU_some, List.filter_nil, load_agg Tryz.agg65 Tryz.size65, load_one Tryz.agg9, load_one Tryz.agg3, load_one Tryz.agg31, Tryz.fa65_0, Tryz.fa65_1, len_slice Tryz.underlying31, H.lay, rowO_put, rowA_cells, Nat.zero_add, Nat.add_zero, ↓reduceIte, iaddr_slice Tryz.underlying31 Tryz.size65 hlt, iaddr_slice Tryz.underlying31 Tryz.size65 hlt2, hrow, hrow2, kc, kc2, neq36 s t 65 rfl, e1]; rfl) ?_ | refine DRun.s rfl rfl rfl ?_))
        refine DRun.nil ⟨?_, ?_⟩
        · (intro y hy; simp only [List.nil_append, List.cons_append, List.mem_cons, List.not_mem_nil, or_false] at hy; (repeat' (rcases hy with hy | hy)) <;> (try subst hy) <;> refine ⟨by first | exact eqTop_str _ _ | exact eqTop_int _ _ _ | exact eqTop_bool _ _ | exact eqTop_ptr _ _ _ | exact eqTop_map _ _ | exact eqTop_slice _ _ _ _ _ _ | exact eqTop_sh _ _ | (simp only [eqTop_agg, eqTop_tup, eqTop, all2, eqL_eq, eqI_eq, kEq, decide_true, Bool.and_self, Bool.and_true]; done), ?_⟩ <;> (simp only [phOk]; refine ⟨?_, trivial⟩) <;> first | exact trivial | exact Or.inl rfl | exact Or.inr ⟨_, by simp only [evS, cond_tt, cond_ff, absV, depthV, Nat.reduceEqDiff, Nat.reduceLT, ↓reduceIte, Option.map_some, Option.bind_some, List.toList_toArray, addX_nil, updo_some, updo_none, orU_some, List.filter_nil, load_agg Tryz.agg65 Tryz.size65, load_one Tryz.agg9, load_one Tryz.agg3, load_one Tryz.agg31, Tryz.fa65_0, Tryz.fa65_1, len_slice Tryz.underlying31, H.lay, rowO_put, rowA_cells, Nat.zero_add, Nat.add_zero, ↓reduceIte, iaddr_slice Tryz.underlying31 Tryz.size65 hlt, iaddr_slice Tryz.underlying31 Tryz.size65 hlt2, hrow, hrow2, kc, kc2, neq36 s t 65 rfl, e1]; rfl⟩)
        simp only [List.filter_nil, addX_nil, updo_some, updo_none, orU_some]
        show AWp _ _ _ _ _
        (repeat refine AWp.seq ?_); change AWp _ _ _ _ _; refine AWp.no (by rfl) (by rfl) (AWp.skip ?_)
        (repeat refine AWp.seq ?_); change AWp _ _ _ _ _; refine AWp.region ?_; (repeat (first | refine AOps.v rfl rfl rfl rfl rfl (by simp only [evS, cond_tt, cond_ff, absV, depthV, Nat.reduceEqDiff, Nat.reduceLT, ↓reduceIte, Option.map_some, Option.bind_some, List.toList_toArray, bin_add (show -9223372036854775808 ≤ (k : Int) + 1 ∧ (k : Int) + 1 ≤ 9223372036854775807 from ⟨by omega, by omega⟩)]; rfl) ?_ | refine AOps.s rfl rfl rfl ?_ | refine AOps.u rfl rfl rfl rfl (by simp only [evS, cond_tt, cond_ff, absV, depthV, Nat.reduceEqDiff, Nat.reduceLT, ↓reduceIte, Option.map_some, Option.bind_some, List.toList_toArray, bin_add (show -9223372036854775808 ≤ (k : Int) + 1 ∧ (k : Int) + 1 ≤ 9223372036854775807 from ⟨by omega, by omega⟩)]; rfl) ?_)); refine AOps.nil ?_
        refine ⟨a.length - (k + 1), by omega, k + 1, kn + 9, by omega, rfl, by omega, fun i hi => ?_, rfl, rfl, rfl, rfl, rfl, rfl, rfl, trivial⟩
        by_cases ee : i = k
        · subst ee; rw [hs, ht, est]
        · exact hall i (by omega)
    · have hkk : k = a.length := by omega
      subst hkk
      have c1 : decide ((a.length : Int) < (a.length : Int)) = false := by simp
      (repeat refine AWp.seq ?_); change AWp _ _ _ _ _; refine AWp.region ?_; (repeat (first | refine AOps.v rfl rfl rfl rfl rfl (by simp only [evS, cond_tt, cond_ff, absV, depthV, Nat.reduceEqDiff, Nat.reduceLT, ↓reduceIte, Option.map_some, Option.bind_some, List.toList_toArray, load_agg Tryz.agg65 Tryz.size65, load_one Tryz.agg9, load_one Tryz.agg3, load_one Tryz.agg31, Tryz.fa65_0, Tryz.fa65_1, len_slice Tryz.underlying31, H.lay, rowO_put, rowA_cells, Nat.zero_add, Nat.add_zero, ↓reduceIte, c1]; rfl) ?_ | refine AOps.s rfl rfl rfl ?_ | refine AOps.u rfl rfl rfl rfl (by simp only [evS, cond_tt, cond_ff, absV, depthV, Nat.reduceEqDiff, Nat.reduceLT, ↓reduceIte, Option.map_some, Option.bind_some, List.toList_toArray, load_agg Tryz.agg65 Tryz.size65, load_one Tryz.agg9, load_one Tryz.agg3, load_one Tryz.agg31, Tryz.fa65_0, Tryz.fa65_1, len_slice Tryz.underlying31, H.lay, rowO_put, rowA_cells, Nat.zero_add, Nat.add_zero, ↓reduceIte, c1]; rfl) ?_)); refine AOps.nil ?_
      (repeat refine AWp.seq ?_); change AWp _ _ _ _ _; refine AWp.no (by rfl) (by rfl) ?_
      refine AWp.exit ?_
      (repeat refine AWp.seq ?_); change AWp _ _ _ _ _; refine AWp.region ?_; (repeat (first | refine AOps.v rfl rfl rfl rfl rfl (by simp only [evS, cond_tt, cond_ff, absV, depthV, Nat.reduceEqDiff, Nat.reduceLT, ↓reduceIte, Option.map_some, Option.bind_some, List.toList_toArray]; rfl) ?_ | refine AOps.s rfl rfl rfl ?_ | refine AOps.u rfl rfl rfl rfl (by simp only [evS, cond_tt, cond_ff, absV, depthV, Nat.reduceEqDiff, Nat.reduceLT, ↓reduceIte, Option.map_some, Option.bind_some, List.toList_toArray]; rfl) ?_)); refine AOps.nil ?_
      refine AWp.ret ?_
      have heq : decide (a = b) = true := by
        rw [decide_eq_true_eq]
        apply List.ext_getElem?
        intro i
        by_cases hi : i < a.length
        · exact hall i hi
        · rw [List.getElem?_eq_none (by omega), List.getElem?_eq_none (by omega)]
      (try simp only [OutOf, Then, Round, NoGoto]); refine leaves_plain (by rfl) (by rfl) (fun _ => rfl) (by rfl) ⟨?_, rfl⟩; rw [heq]; rfl
  · have c0 : decide ((a.length : Int) = (b.length : Int)) = false := by rw [decide_eq_false_iff_not]; omega
    have hne : decide (a = b) = false := by rw [decide_eq_false_iff_not]; intro hab; subst hab; exact hl rfl
    (repeat refine AWp.seq ?_); change AWp _ _ _ _ _; refine AWp.region ?_; (repeat (first | refine AOps.v rfl rfl rfl rfl rfl (by simp only [evS, cond_tt, cond_ff, absV, depthV, Nat.reduceEqDiff, Nat.reduceLT, ↓reduceIte, Option.map_some, Option.bind_some, List.toList_toArray, load_agg Tryz.agg65 Tryz.size65, load_one Tryz.agg9, load_one Tryz.agg3, load_one Tryz.agg31, Tryz.fa65_0, Tryz.fa65_1, len_slice Tryz.underlying31, H.lay, rowO_put, rowA_cells, Nat.zero_add, Nat.add_zero, ↓reduceIte, c0]; rfl) ?_ | refine AOps.s rfl rfl rfl ?_ | refine AOps.u rfl rfl rfl rfl (by simp only [evS, cond_tt, cond_ff, absV, depthV, Nat.reduceEqDiff, Nat.reduceLT, ↓reduceIte, Option.map_some, Option.bind_some, List.toList_toArray, load_agg Tryz.agg65 Tryz.size65, load_one Tryz.agg9, load_one Tryz.agg3, load_one Tryz.agg31, Tryz.fa65_0, Tryz.fa65_1, len_slice Tryz.underlying31, H.lay, rowO_put, rowA_cells, Nat.zero_add, Nat.add_zero, ↓reduceIte, c0]; rfl) ?_)); refine AOps.nil ?_
    (repeat refine AWp.seq ?_); change AWp _ _ _ _ _; refine AWp.yes (by rfl) (by rfl) ?_
    (repeat refine AWp.seq ?_); change AWp _ _ _ _ _; refine AWp.region ?_; (repeat (first | refine AOps.v rfl rfl rfl rfl rfl (by simp only [evS, cond_tt, cond_ff, absV, depthV, Nat.reduceEqDiff, Nat.reduceLT, ↓reduceIte, Option.map_some, Option.bind_some, List.toList_toArray]; rfl) ?_ | refine AOps.s rfl rfl rfl ?_ | refine AOps.u rfl rfl rfl rfl (by simp only [evS, cond_tt, cond_ff, absV, depthV, Nat.reduceEqDiff, Nat.reduceLT, ↓reduceIte, Option.map_some, Option.bind_some, List.toList_toArray]; rfl) ?_)); refine AOps.nil ?_
    refine AWp.ret ?_
    (try simp only [OutOf, Then, Round, NoGoto]); refine leaves_plain (by rfl) (by rfl) (fun _ => rfl) (by rfl) ⟨?_, rfl⟩; rw [hne]; rfl

end Go.Proofs

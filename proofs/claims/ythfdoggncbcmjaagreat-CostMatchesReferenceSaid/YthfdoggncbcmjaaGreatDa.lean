/- The reference's shares of a cost, in plain words. No conditions beyond those that each theorem states. -/
import Derived.Test.YthfdoggncbcmjaaGreatCd

set_option linter.unusedSimpArgs false
set_option linter.unusedVariables false
set_option linter.unusedSectionVars false

namespace Go.Proofs
open Go.Ev

/-- An amount is added to a party's share, in an ordered list. -/
def addN (p : List Nat) (a : Int) : List Sh → List Sh
  | [] => [⟨p, a⟩]
  | s :: l => if ltL s.pt p = true then s :: addN p a l else if s.pt = p then ⟨p, s.am + a⟩ :: l else ⟨p, a⟩ :: s :: l
def addR (l : List Sh) (p : List Nat) (a : Int) : List Sh := if a = 0 then l else addN p a l

/-- The reference's list. -/
def refS (ws : List Wy) (p : Pt) (c : Co) : List Sh := match ws.find? (coversB p c) with
  | some w => addR (addR [] w.maker (pctN c.am w.pct)) c.owner (c.am - pctN c.am w.pct)
  | none => addR [] c.owner c.am

theorem ListOk.eq_of {ml : List (List Nat × Int)} {ss rs : List Sh} (hn : (ml.map (·.1)).Nodup) (h : ListOk ml ss) (hl : rs.Pairwise fun a b => ltL a.pt b.pt = true)
    (hm : ∀ t, t ∈ rs ↔ t.pt ∈ ml.map (·.1) ∧ 0 < getM 0 t.pt ml ∧ t.am = getM 0 t.pt ml) : ss = rs :=
  sortedZ_eq (h.lts hn) hl fun t => (h.mem t).trans (hm t).symm

theorem Sh.ext' {s : Sh} {p : List Nat} {a : Int} : s = ⟨p, a⟩ ↔ s.pt = p ∧ s.am = a := by
  cases s; simp

theorem one_eq {k : List Nat} {n : Int} {ss : List Sh} (h0 : 0 ≤ n) (h : ListOk [(k, n)] ss) : ss = if n = 0 then [] else [⟨k, n⟩] := by
  refine h.eq_of (by simp) ?_ fun t => ?_
  · split <;> simp
  · by_cases hn : n = 0
    · rw [if_pos hn]
      simp only [List.not_mem_nil, List.map_cons, List.map_nil, List.mem_singleton, getM, false_iff]
      rintro ⟨h1, h2, _⟩
      rw [if_pos h1, hn] at h2
      omega
    · rw [if_neg hn, List.mem_singleton, Sh.ext']
      simp only [List.map_cons, List.map_nil, List.mem_singleton, getM]
      constructor
      · rintro ⟨h1, h2⟩
        rw [if_pos h1]
        exact ⟨h1, by omega, h2⟩
      · rintro ⟨h1, _, h3⟩
        rw [if_pos h1] at h3
        exact ⟨h1, h3⟩

theorem two_eq {k l : List Nat} {n m : Int} {ss : List Sh} (hne : k ≠ l) (h0 : 0 ≤ n) (h1 : 0 ≤ m) (h : ListOk [(k, n), (l, m)] ss) : ss = addR (addR [] l m) k n := by
  have hgk : getM (0 : Int) k [(k, n), (l, m)] = n := by simp [getM]
  have hgl : getM (0 : Int) l [(k, n), (l, m)] = m := by simp [getM, Ne.symm hne]
  refine h.eq_of (by simp [hne]) ?_ fun t => ?_
  · unfold addR
    by_cases hm : m = 0 <;> by_cases hn : n = 0
    · rw [if_pos hm, if_pos hn]; exact .nil
    · rw [if_pos hm, if_neg hn]; simp [addN]
    · rw [if_neg hm, if_pos hn]; simp [addN]
    · rw [if_neg hm, if_neg hn]
      simp only [addN]
      by_cases hlt : ltL l k = true
      · rw [if_pos hlt]; simp [hlt]
      · rw [if_neg hlt, if_neg (Ne.symm hne)]
        have : ltL k l = true := by
          rcases ltL_tri k l with g | g | g
          · exact g
          · exact absurd g hne
          · exact absurd g hlt
        simp [this]
  · have hmem : t ∈ addR (addR [] l m) k n ↔ (t.pt = k ∧ t.am = n ∧ n ≠ 0) ∨ (t.pt = l ∧ t.am = m ∧ m ≠ 0) := by
      unfold addR
      by_cases hm : m = 0 <;> by_cases hn : n = 0
      · simp [hm, hn]
      · simp [hm, hn, addN, Sh.ext']
      · simp [hm, hn, addN, Sh.ext']
      · rw [if_neg hm, if_neg hn]
        simp only [addN]
        split
        · simp [hm, hn, Sh.ext', or_comm]
        · rw [if_neg (Ne.symm hne)]
          simp [hm, hn, Sh.ext']
    rw [hmem]
    simp only [List.map_cons, List.map_nil, List.mem_cons, List.not_mem_nil, or_false]
    constructor
    · rintro (⟨e1, e2, e3⟩ | ⟨e1, e2, e3⟩)
      · rw [e1, hgk]; exact ⟨.inl rfl, by omega, e2⟩
      · rw [e1, hgl]; exact ⟨.inr rfl, by omega, e2⟩
    · rintro ⟨e1 | e1, e2, e3⟩
      · rw [e1, hgk] at e2 e3; exact .inl ⟨e1, e3, by omega⟩
      · rw [e1, hgl] at e2 e3; exact .inr ⟨e1, e3, by omega⟩

/-- Both agree. -/
theorem ref_eq {ws : List Wy} {p : Pt} {c : Co} {ss : List Sh} (hr : rightB ws c = true) (h : ListOk (billOf ws (some p) c) ss) : ss = refS ws p c := by
  obtain ⟨hws, hc⟩ := right_parts hr
  obtain ⟨a0, a1⟩ := am_ok hc
  unfold refS
  rcases bill_form (p := p) hr with ⟨hb, hf⟩ | ⟨w, hf, hm, hb, hn0, hn1⟩
  · rw [hb] at h
    have h1 := one_eq a0 h
    rcases hf with hf | ⟨w, hf, hm⟩
    · rw [hf, h1]
      simp only [addR, addN]
    · obtain ⟨_, hamr, hpr⟩ := pct_of_ok (hws w (List.mem_of_find?_eq_some hf)) hc
      obtain ⟨hn0, hn1⟩ := pct_bnd hamr hpr
      rw [hf, h1]
      simp only
      rw [hm]
      generalize pctN c.am w.pct = n at *
      unfold addR
      by_cases hz : n = 0
      · rw [if_pos hz, hz]
        have : c.am - 0 = c.am := by omega
        rw [this]
        simp only [addN]
      · rw [if_neg hz]
        by_cases hd : c.am - n = 0
        · rw [if_pos hd, if_neg (by omega)]
          have : c.am = n := by omega
          rw [this]; rfl
        · rw [if_neg hd, if_neg (by omega)]
          simp only [addN, ltL_irrefl, if_true, Bool.false_eq_true, if_false]
          have : n + (c.am - n) = c.am := by omega
          rw [this]
  · rw [hb] at h
    rw [hf]
    exact two_eq (Ne.symm hm) (by omega) hn0 h

end Go.Proofs

/- The reference's tests of warranties and costs, and its percentages. No conditions beyond those that each theorem states. -/
namespace Go.Proofs
open Go.Ev
set_option maxRecDepth 100000

theorem Tryz.is03 (n : Int) (h : H) : ACalls Tryz.prog (.func 137) [.int .i64 n] h (fun v h' => v = .bool (isAm n) ∧ h' = h) := by
  refine ACalls.body (n := 9) Tryz.nogo Tryz.func137 rfl rfl ?_
  rw [argF1]
  unfold isAm
  cases e1 : decide (0 ≤ n) <;> cases e2 : decide (n ≤ 1000000000000)
  all_goals
    (repeat refine AWp.seq ?_); change AWp _ _ _ _ _; refine AWp.region ?_; (repeat (first | refine AOps.v rfl rfl rfl rfl rfl (by simp only [evS, cond_tt, cond_ff, absV, depthV, Nat.reduceEqDiff, Nat.reduceLT, ↓reduceIte, Option.map_some, Option.bind_some, List.toList_toArray]; rfl) ?_ | refine AOps.s rfl rfl rfl ?_ | refine AOps.u rfl rfl rfl rfl (by simp only [evS, cond_tt, cond_ff, absV, depthV, Nat.reduceEqDiff, Nat.reduceLT, ↓reduceIte, Option.map_some, Option.bind_some, List.toList_toArray]; rfl) ?_)); refine AOps.nil ?_
    (repeat refine AWp.seq ?_); change AWp _ _ _ _ _; refine AWp.region ?_; (repeat (first | refine AOps.v rfl rfl rfl rfl rfl (by simp only [evS, cond_tt, cond_ff, absV, depthV, Nat.reduceEqDiff, Nat.reduceLT, ↓reduceIte, Option.map_some, Option.bind_some, List.toList_toArray, e1, e2]; rfl) ?_ | refine AOps.s rfl rfl rfl ?_ | refine AOps.u rfl rfl rfl rfl (by simp only [evS, cond_tt, cond_ff, absV, depthV, Nat.reduceEqDiff, Nat.reduceLT, ↓reduceIte, Option.map_some, Option.bind_some, List.toList_toArray, e1, e2]; rfl) ?_)); refine AOps.nil ?_
    refine AWp.ret ?_
    (try simp only [OutOf, Then, Round, NoGoto]); refine leaves_plain (by rfl) (by rfl) (fun _ => rfl) (by rfl) ⟨?_, rfl⟩; rfl

set_option maxHeartbeats 2000000 in
theorem Tryz.percent03 (a p : Int) (hok : pctOk a p = true) (h : H) : ACalls Tryz.prog (.func 77) [.int .i64 a, .int .i64 p] h (fun v h' => v = .tup [.int .i64 (pctN a p), .int .i64 0] ∧ h' = h) := by
  refine ACalls.body (n := 41) Tryz.nogo Tryz.func77 rfl rfl ?_
  rw [argF2]
  unfold pctOk at hok
  simp only [Bool.and_eq_true] at hok
  obtain ⟨ha, hp0, hp1⟩ := hok
  have ha' : 0 ≤ a ∧ a ≤ 1000000000000 := by unfold isAm at ha; simpa using ha
  have hp' : 0 ≤ p ∧ p ≤ 100 := ⟨by simpa using hp0, by simpa using hp1⟩
  have d1 : decide (p < 0) = false := decide_eq_false (by omega)
  have d2 : decide (100 < p) = false := decide_eq_false (by omega)
  (repeat refine AWp.seq ?_); change AWp _ _ _ _ _; refine AWp.region ?_; (repeat (first | refine AOps.v rfl rfl rfl rfl rfl (by simp only [evS, cond_tt, cond_ff, absV, depthV, Nat.reduceEqDiff, Nat.reduceLT, ↓reduceIte, Option.map_some, Option.bind_some, List.toList_toArray]; rfl) ?_ | refine AOps.s rfl rfl rfl ?_ | refine AOps.u rfl rfl rfl rfl (by simp only [evS, cond_tt, cond_ff, absV, depthV, Nat.reduceEqDiff, Nat.reduceLT, ↓reduceIte, Option.map_some, Option.bind_some, List.toList_toArray]; rfl) ?_)); refine AOps.nil ?_
  (repeat refine AWp.seq ?_); change AWp _ _ _ _ _; refine AWp.region ?_; (repeat (first | refine AOps.v rfl rfl rfl rfl rfl (by simp only [evS, cond_tt, cond_ff, absV, depthV, Nat.reduceEqDiff, Nat.reduceLT, ↓reduceIte, Option.map_some, Option.bind_some, List.toList_toArray]; rfl) ?_ | refine AOps.s rfl rfl rfl ?_ | refine AOps.u rfl rfl rfl rfl (by simp only [evS, cond_tt, cond_ff, absV, depthV, Nat.reduceEqDiff, Nat.reduceLT, ↓reduceIte, Option.map_some, Option.bind_some, List.toList_toArray]; rfl) ?_))
  refine AOps.c rfl rfl rfl rfl rfl (by simp only [callOf_val, callW_fn, evS, cond_tt, cond_ff, absV, depthV, Nat.reduceEqDiff, Nat.reduceLT, ↓reduceIte, Option.map_some, Option.bind_some, List.toList_toArray]; rfl) rfl (Tryz.is03 a _) ?_; rintro _ _ ⟨rfl, rfl⟩
  rw [ha]
  (repeat (first | refine AOps.v rfl rfl rfl rfl rfl (by simp only [evS, cond_tt, cond_ff, absV, depthV, Nat.reduceEqDiff, Nat.reduceLT, ↓reduceIte, Option.map_some, Option.bind_some, List.toList_toArray, d1, d2]; rfl) ?_ | refine AOps.s rfl rfl rfl ?_ | refine AOps.u rfl rfl rfl rfl (by simp only [evS, cond_tt, cond_ff, absV, depthV, Nat.reduceEqDiff, Nat.reduceLT, ↓reduceIte, Option.map_some, Option.bind_some, List.toList_toArray, d1, d2]; rfl) ?_))
  refine AOps.nil ?_
  (repeat refine AWp.seq ?_); change AWp _ _ _ _ _; refine AWp.no (by rfl) (by rfl) (AWp.skip ?_)
  obtain ⟨m1, m2⟩ := mul_bnd ha' hp'
  have hm := bin_mul (P := Tryz.prog) (t := 3) (a := a) (b := p) ⟨by omega, by omega⟩
  have hpn : pctN a p = if 100 < 2 * (a * p % 100) ∨ (2 * (a * p % 100) = 100 ∧ a * p / 100 % 2 ≠ 0) then a * p / 100 + 1 else a * p / 100 := rfl
  rw [hpn]
  clear hpn
  generalize a * p = m at *
  have t1 : m.tdiv 100 = m / 100 := Int.tdiv_eq_ediv_of_nonneg m1
  have t2 : m.tmod 100 = m % 100 := Int.tmod_eq_emod_of_nonneg m1
  have hq := bin_quo (P := Tryz.prog) (t := 3) (a := m) (b := 100) (by decide) (by rw [t1]; omega)
  have hr := bin_rem (P := Tryz.prog) (t := 3) (a := m) (b := 100) (by decide)
  rw [t1] at hq; rw [t2] at hr
  (repeat refine AWp.seq ?_); change AWp _ _ _ _ _; refine AWp.region ?_; (repeat (first | refine AOps.v rfl rfl rfl rfl rfl (by simp only [evS, cond_tt, cond_ff, absV, depthV, Nat.reduceEqDiff, Nat.reduceLT, ↓reduceIte, Option.map_some, Option.bind_some, List.toList_toArray, hm]; rfl) ?_ | refine AOps.s rfl rfl rfl ?_ | refine AOps.u rfl rfl rfl rfl (by simp only [evS, cond_tt, cond_ff, absV, depthV, Nat.reduceEqDiff, Nat.reduceLT, ↓reduceIte, Option.map_some, Option.bind_some, List.toList_toArray, hm]; rfl) ?_)); refine AOps.nil ?_
  (repeat refine AWp.seq ?_); change AWp _ _ _ _ _; refine AWp.region ?_; (repeat (first | refine AOps.v rfl rfl rfl rfl rfl (by simp only [evS, cond_tt, cond_ff, absV, depthV, Nat.reduceEqDiff, Nat.reduceLT, ↓reduceIte, Option.map_some, Option.bind_some, List.toList_toArray, hq]; rfl) ?_ | refine AOps.s rfl rfl rfl ?_ | refine AOps.u rfl rfl rfl rfl (by simp only [evS, cond_tt, cond_ff, absV, depthV, Nat.reduceEqDiff, Nat.reduceLT, ↓reduceIte, Option.map_some, Option.bind_some, List.toList_toArray, hq]; rfl) ?_)); refine AOps.nil ?_
  (repeat refine AWp.seq ?_); change AWp _ _ _ _ _; refine AWp.region ?_; (repeat (first | refine AOps.v rfl rfl rfl rfl rfl (by simp only [evS, cond_tt, cond_ff, absV, depthV, Nat.reduceEqDiff, Nat.reduceLT, ↓reduceIte, Option.map_some, Option.bind_some, List.toList_toArray, hr]; rfl) ?_ | refine AOps.s rfl rfl rfl ?_ | refine AOps.u rfl rfl rfl rfl (by simp only [evS, cond_tt, cond_ff, absV, depthV, Nat.reduceEqDiff, Nat.reduceLT, ↓reduceIte, Option.map_some, Option.bind_some, List.toList_toArray, hr]; rfl) ?_)); refine AOps.nil ?_
  have t3 : (m / 100).tmod 2 = m / 100 % 2 := Int.tmod_eq_emod_of_nonneg (by omega)
  have hr2 := bin_rem (P := Tryz.prog) (t := 3) (a := m / 100) (b := 2) (by decide)
  rw [t3] at hr2
  have hadd := bin_add (P := Tryz.prog) (t := 3) (a := m / 100) (b := 1) ⟨by omega, by omega⟩
  cases c1 : decide (50 < m % 100)
  case true =>
    have hi : (100 < 2 * (m % 100) ∨ (2 * (m % 100) = 100 ∧ m / 100 % 2 ≠ 0)) := by
      have := of_decide_eq_true c1; omega
    rw [if_pos hi]
    (repeat refine AWp.seq ?_); change AWp _ _ _ _ _; refine AWp.region ?_; (repeat (first | refine AOps.v rfl rfl rfl rfl rfl (by simp only [evS, cond_tt, cond_ff, absV, depthV, Nat.reduceEqDiff, Nat.reduceLT, ↓reduceIte, Option.map_some, Option.bind_some, List.toList_toArray, hr2, c1]; rfl) ?_ | refine AOps.s rfl rfl rfl ?_ | refine AOps.u rfl rfl rfl rfl (by simp only [evS, cond_tt, cond_ff, absV, depthV, Nat.reduceEqDiff, Nat.reduceLT, ↓reduceIte, Option.map_some, Option.bind_some, List.toList_toArray, hr2, c1]; rfl) ?_)); refine AOps.nil ?_
    (repeat refine AWp.seq ?_); change AWp _ _ _ _ _; refine AWp.yes (by rfl) (by rfl) ?_
    (repeat refine AWp.seq ?_); change AWp _ _ _ _ _; refine AWp.region ?_; (repeat (first | refine AOps.v rfl rfl rfl rfl rfl (by simp only [evS, cond_tt, cond_ff, absV, depthV, Nat.reduceEqDiff, Nat.reduceLT, ↓reduceIte, Option.map_some, Option.bind_some, List.toList_toArray, hadd]; rfl) ?_ | refine AOps.s rfl rfl rfl ?_ | refine AOps.u rfl rfl rfl rfl (by simp only [evS, cond_tt, cond_ff, absV, depthV, Nat.reduceEqDiff, Nat.reduceLT, ↓reduceIte, Option.map_some, Option.bind_some, List.toList_toArray, hadd]; rfl) ?_)); refine AOps.nil ?_
    (repeat refine AWp.seq ?_); change AWp _ _ _ _ _; refine AWp.region ?_; (repeat (first | refine AOps.v rfl rfl rfl rfl rfl (by simp only [evS, cond_tt, cond_ff, absV, depthV, Nat.reduceEqDiff, Nat.reduceLT, ↓reduceIte, Option.map_some, Option.bind_some, List.toList_toArray]; rfl) ?_ | refine AOps.s rfl rfl rfl ?_ | refine AOps.u rfl rfl rfl rfl (by simp only [evS, cond_tt, cond_ff, absV, depthV, Nat.reduceEqDiff, Nat.reduceLT, ↓reduceIte, Option.map_some, Option.bind_some, List.toList_toArray]; rfl) ?_)); refine AOps.nil ?_
    refine AWp.ret ?_
    (try simp only [OutOf, Then, Round, NoGoto]); refine leaves_plain (by rfl) (by rfl) (fun _ => rfl) (by rfl) ⟨?_, rfl⟩; rfl
  have c1' := of_decide_eq_false c1
  cases c2 : decide (m % 100 = 50)
  case false =>
    have c2' := of_decide_eq_false c2
    rw [if_neg (by omega)]
    (repeat refine AWp.seq ?_); change AWp _ _ _ _ _; refine AWp.region ?_; (repeat (first | refine AOps.v rfl rfl rfl rfl rfl (by simp only [evS, cond_tt, cond_ff, absV, depthV, Nat.reduceEqDiff, Nat.reduceLT, ↓reduceIte, Option.map_some, Option.bind_some, List.toList_toArray, hr2, c1, c2]; rfl) ?_ | refine AOps.s rfl rfl rfl ?_ | refine AOps.u rfl rfl rfl rfl (by simp only [evS, cond_tt, cond_ff, absV, depthV, Nat.reduceEqDiff, Nat.reduceLT, ↓reduceIte, Option.map_some, Option.bind_some, List.toList_toArray, hr2, c1, c2]; rfl) ?_)); refine AOps.nil ?_
    (repeat refine AWp.seq ?_); change AWp _ _ _ _ _; refine AWp.no (by rfl) (by rfl) (AWp.skip ?_)
    (repeat refine AWp.seq ?_); change AWp _ _ _ _ _; refine AWp.region ?_; (repeat (first | refine AOps.v rfl rfl rfl rfl rfl (by simp only [evS, cond_tt, cond_ff, absV, depthV, Nat.reduceEqDiff, Nat.reduceLT, ↓reduceIte, Option.map_some, Option.bind_some, List.toList_toArray]; rfl) ?_ | refine AOps.s rfl rfl rfl ?_ | refine AOps.u rfl rfl rfl rfl (by simp only [evS, cond_tt, cond_ff, absV, depthV, Nat.reduceEqDiff, Nat.reduceLT, ↓reduceIte, Option.map_some, Option.bind_some, List.toList_toArray]; rfl) ?_)); refine AOps.nil ?_
    refine AWp.ret ?_
    (try simp only [OutOf, Then, Round, NoGoto]); refine leaves_plain (by rfl) (by rfl) (fun _ => rfl) (by rfl) ⟨?_, rfl⟩; rfl
  have c2' := of_decide_eq_true c2
  cases c3 : decide (m / 100 % 2 = 1)
  · have c3' := of_decide_eq_false c3
    rw [if_neg (by omega)]
    (repeat refine AWp.seq ?_); change AWp _ _ _ _ _; refine AWp.region ?_; (repeat (first | refine AOps.v rfl rfl rfl rfl rfl (by simp only [evS, cond_tt, cond_ff, absV, depthV, Nat.reduceEqDiff, Nat.reduceLT, ↓reduceIte, Option.map_some, Option.bind_some, List.toList_toArray, hr2, c1, c2, c3]; rfl) ?_ | refine AOps.s rfl rfl rfl ?_ | refine AOps.u rfl rfl rfl rfl (by simp only [evS, cond_tt, cond_ff, absV, depthV, Nat.reduceEqDiff, Nat.reduceLT, ↓reduceIte, Option.map_some, Option.bind_some, List.toList_toArray, hr2, c1, c2, c3]; rfl) ?_)); refine AOps.nil ?_
    (repeat refine AWp.seq ?_); change AWp _ _ _ _ _; refine AWp.no (by rfl) (by rfl) (AWp.skip ?_)
    (repeat refine AWp.seq ?_); change AWp _ _ _ _ _; refine AWp.region ?_; (repeat (first | refine AOps.v rfl rfl rfl rfl rfl (by simp only [evS, cond_tt, cond_ff, absV, depthV, Nat.reduceEqDiff, Nat.reduceLT, ↓reduceIte, Option.map_some, Option.bind_some, List.toList_toArray]; rfl) ?_ | refine AOps.s rfl rfl rfl ?_ | refine AOps.u rfl rfl rfl rfl (by simp only [evS, cond_tt, cond_ff, absV, depthV, Nat.reduceEqDiff, Nat.reduceLT, ↓reduceIte, Option.map_some, Option.bind_some, List.toList_toArray]; rfl) ?_)); refine AOps.nil ?_
    refine AWp.ret ?_
    (try simp only [OutOf, Then, Round, NoGoto]); refine leaves_plain (by rfl) (by rfl) (fun _ => rfl) (by rfl) ⟨?_, rfl⟩; rfl
  · have c3' := of_decide_eq_true c3
    rw [if_pos (by omega)]
    (repeat refine AWp.seq ?_); change AWp _ _ _ _ _; refine AWp.region ?_; (repeat (first | refine AOps.v rfl rfl rfl rfl rfl (by simp only [evS, cond_tt, cond_ff, absV, depthV, Nat.reduceEqDiff, Nat.reduceLT, ↓reduceIte, Option.map_some, Option.bind_some, List.toList_toArray, hr2, c1, c2, c3]; rfl) ?_ | refine AOps.s rfl rfl rfl ?_ | refine AOps.u rfl rfl rfl rfl (by simp only [evS, cond_tt, cond_ff, absV, depthV, Nat.reduceEqDiff, Nat.reduceLT, ↓reduceIte, Option.map_some, Option.bind_some, List.toList_toArray, hr2, c1, c2, c3]; rfl) ?_)); refine AOps.nil ?_
    (repeat refine AWp.seq ?_); change AWp _ _ _ _ _; refine AWp.yes (by rfl) (by rfl) ?_
    (repeat refine AWp.seq ?_); change AWp _ _ _ _ _; refine AWp.region ?_; (repeat (first | refine AOps.v rfl rfl rfl rfl rfl (by simp only [evS, cond_tt, cond_ff, absV, depthV, Nat.reduceEqDiff, Nat.reduceLT, ↓reduceIte, Option.map_some, Option.bind_some, List.toList_toArray, hadd]; rfl) ?_ | refine AOps.s rfl rfl rfl ?_ | refine AOps.u rfl rfl rfl rfl (by simp only [evS, cond_tt, cond_ff, absV, depthV, Nat.reduceEqDiff, Nat.reduceLT, ↓reduceIte, Option.map_some, Option.bind_some, List.toList_toArray, hadd]; rfl) ?_)); refine AOps.nil ?_
    (repeat refine AWp.seq ?_); change AWp _ _ _ _ _; refine AWp.region ?_; (repeat (first | refine AOps.v rfl rfl rfl rfl rfl (by simp only [evS, cond_tt, cond_ff, absV, depthV, Nat.reduceEqDiff, Nat.reduceLT, ↓reduceIte, Option.map_some, Option.bind_some, List.toList_toArray]; rfl) ?_ | refine AOps.s rfl rfl rfl ?_ | refine AOps.u rfl rfl rfl rfl (by simp only [evS, cond_tt, cond_ff, absV, depthV, Nat.reduceEqDiff, Nat.reduceLT, ↓reduceIte, Option.map_some, Option.bind_some, List.toList_toArray]; rfl) ?_)); refine AOps.nil ?_
    refine AWp.ret ?_
    (try simp only [OutOf, Then, Round, NoGoto]); refine leaves_plain (by rfl) (by rfl) (fun _ => rfl) (by rfl) ⟨?_, rfl⟩; rfl

set_option maxHeartbeats 2000000 in
theorem Tryz.warranty (w : Wy) (hk : w.kind.length ≤ 1000000) (hm : w.maker.length ≤ 1000000) (h : H) : ACalls Tryz.prog (.func 73) [.agg w.cells] h (fun v h' => v = .bool w.ok ∧ h' = h) := by
  refine ACalls.body (n := 41) Tryz.nogo Tryz.func73 rfl rfl ?_
  rw [argF1]
  have w0 : w.cells[0]? = some (.str w.kind) := rfl
  have w1 : w.cells[1]? = some (.str w.maker) := rfl
  have w2 : w.cells[2]? = some (.int .i64 w.days) := rfl
  have w3 : w.cells[3]? = some (.int .i64 w.km) := rfl
  have w4 : w.cells[4]? = some (.int .i64 w.pct) := rfl
  (repeat refine AWp.seq ?_); change AWp _ _ _ _ _; refine AWp.region ?_; (repeat (first | refine AOps.v rfl rfl rfl rfl rfl (by simp only [evS, cond_tt, cond_ff, absV, depthV, Nat.reduceEqDiff, Nat.reduceLT, ↓reduceIte, Option.map_some, Option.bind_some, List.toList_toArray, op_box, H.lay]; rfl) ?_ | refine AOps.s rfl rfl rfl ?_ | refine AOps.u rfl rfl rfl rfl (by simp only [evS, cond_tt, cond_ff, absV, depthV, Nat.reduceEqDiff, Nat.reduceLT, ↓reduceIte, Option.map_some, Option.bind_some, List.toList_toArray, op_box, H.lay]; rfl) ?_)); refine AOps.nil ?_
  obtain ⟨O2, hO2⟩ : ∃ X, X = Tr.put h.objs h.next (some (.cells w.cells h.next)) := ⟨_, rfl⟩
  obtain ⟨F2, hF2⟩ : ∃ X, X = Tr.put h.fams h.next (some (h.next, h.next)) := ⟨_, rfl⟩
  rw [← hO2, ← hF2]
  have g0 : rowO O2 h.next = some w.cells := by unfold rowO; rw [hO2, put_same]; rfl
  clear hO2 hF2
  unfold Wy.ok isDy isAm
  (repeat refine AWp.seq ?_); change AWp _ _ _ _ _; refine AWp.region ?_; (repeat (first | refine AOps.v rfl rfl rfl rfl rfl (by simp only [evS, cond_tt, cond_ff, absV, depthV, Nat.reduceEqDiff, Nat.reduceLT, ↓reduceIte, Option.map_some, Option.bind_some, List.toList_toArray, Tryz.tw, H.lay, Nat.zero_add, Nat.add_zero, ↓reduceIte, List.getElem?_cons_zero, List.getElem?_cons_succ, g0, w0, w1, w2, w3, w4]; rfl) ?_ | refine AOps.s rfl rfl rfl ?_ | refine AOps.u rfl rfl rfl rfl (by simp only [evS, cond_tt, cond_ff, absV, depthV, Nat.reduceEqDiff, Nat.reduceLT, ↓reduceIte, Option.map_some, Option.bind_some, List.toList_toArray, Tryz.tw, H.lay, Nat.zero_add, Nat.add_zero, ↓reduceIte, List.getElem?_cons_zero, List.getElem?_cons_succ, g0, w0, w1, w2, w3, w4]; rfl) ?_))
  refine AOps.c rfl rfl rfl rfl rfl (by simp only [callOf_val, callW_fn, evS, cond_tt, cond_ff, absV, depthV, Nat.reduceEqDiff, Nat.reduceLT, ↓reduceIte, Option.map_some, Option.bind_some, List.toList_toArray]; rfl) rfl (Tryz.name05 _ hk _) ?_; rintro _ _ ⟨rfl, rfl⟩
  cases e1 : nameN w.kind
  case false =>
    (repeat (first | refine AOps.v rfl rfl rfl rfl rfl (by simp only [evS, cond_tt, cond_ff, absV, depthV, Nat.reduceEqDiff, Nat.reduceLT, ↓reduceIte, Option.map_some, Option.bind_some, List.toList_toArray]; rfl) ?_ | refine AOps.s rfl rfl rfl ?_ | refine AOps.u rfl rfl rfl rfl (by simp only [evS, cond_tt, cond_ff, absV, depthV, Nat.reduceEqDiff, Nat.reduceLT, ↓reduceIte, Option.map_some, Option.bind_some, List.toList_toArray]; rfl) ?_))
    refine AOps.nil ?_
    refine AWp.ret ?_
    (try simp only [OutOf, Then, Round, NoGoto]); refine leaves_plain (by rfl) (by rfl) (fun _ => rfl) (by rfl) ⟨?_, rfl⟩; rfl
  (repeat (first | refine AOps.v rfl rfl rfl rfl rfl (by simp only [evS, cond_tt, cond_ff, absV, depthV, Nat.reduceEqDiff, Nat.reduceLT, ↓reduceIte, Option.map_some, Option.bind_some, List.toList_toArray, Tryz.tw, H.lay, Nat.zero_add, Nat.add_zero, ↓reduceIte, List.getElem?_cons_zero, List.getElem?_cons_succ, g0, w0, w1, w2, w3, w4]; rfl) ?_ | refine AOps.s rfl rfl rfl ?_ | refine AOps.u rfl rfl rfl rfl (by simp only [evS, cond_tt, cond_ff, absV, depthV, Nat.reduceEqDiff, Nat.reduceLT, ↓reduceIte, Option.map_some, Option.bind_some, List.toList_toArray, Tryz.tw, H.lay, Nat.zero_add, Nat.add_zero, ↓reduceIte, List.getElem?_cons_zero, List.getElem?_cons_succ, g0, w0, w1, w2, w3, w4]; rfl) ?_))
  refine AOps.c rfl rfl rfl rfl rfl (by simp only [callOf_val, callW_fn, evS, cond_tt, cond_ff, absV, depthV, Nat.reduceEqDiff, Nat.reduceLT, ↓reduceIte, Option.map_some, Option.bind_some, List.toList_toArray]; rfl) rfl (Tryz.name05 _ hm _) ?_; rintro _ _ ⟨rfl, rfl⟩
  cases e2 : nameN w.maker
  case false =>
    (repeat (first | refine AOps.v rfl rfl rfl rfl rfl (by simp only [evS, cond_tt, cond_ff, absV, depthV, Nat.reduceEqDiff, Nat.reduceLT, ↓reduceIte, Option.map_some, Option.bind_some, List.toList_toArray]; rfl) ?_ | refine AOps.s rfl rfl rfl ?_ | refine AOps.u rfl rfl rfl rfl (by simp only [evS, cond_tt, cond_ff, absV, depthV, Nat.reduceEqDiff, Nat.reduceLT, ↓reduceIte, Option.map_some, Option.bind_some, List.toList_toArray]; rfl) ?_))
    refine AOps.nil ?_
    refine AWp.ret ?_
    (try simp only [OutOf, Then, Round, NoGoto]); refine leaves_plain (by rfl) (by rfl) (fun _ => rfl) (by rfl) ⟨?_, rfl⟩; rfl
  cases e3 : decide (0 ≤ w.days)
  case false =>
    (repeat (first | refine AOps.v rfl rfl rfl rfl rfl (by simp only [evS, cond_tt, cond_ff, absV, depthV, Nat.reduceEqDiff, Nat.reduceLT, ↓reduceIte, Option.map_some, Option.bind_some, List.toList_toArray, Tryz.tw, H.lay, Nat.zero_add, Nat.add_zero, ↓reduceIte, List.getElem?_cons_zero, List.getElem?_cons_succ, g0, w0, w1, w2, w3, w4, e3]; rfl) ?_ | refine AOps.s rfl rfl rfl ?_ | refine AOps.u rfl rfl rfl rfl (by simp only [evS, cond_tt, cond_ff, absV, depthV, Nat.reduceEqDiff, Nat.reduceLT, ↓reduceIte, Option.map_some, Option.bind_some, List.toList_toArray, Tryz.tw, H.lay, Nat.zero_add, Nat.add_zero, ↓reduceIte, List.getElem?_cons_zero, List.getElem?_cons_succ, g0, w0, w1, w2, w3, w4, e3]; rfl) ?_))
    refine AOps.nil ?_
    refine AWp.ret ?_
    (try simp only [OutOf, Then, Round, NoGoto]); refine leaves_plain (by rfl) (by rfl) (fun _ => rfl) (by rfl) ⟨?_, rfl⟩; rfl
  cases e4 : decide (w.days ≤ 40000)
  case false =>
    (repeat (first | refine AOps.v rfl rfl rfl rfl rfl (by simp only [evS, cond_tt, cond_ff, absV, depthV, Nat.reduceEqDiff, Nat.reduceLT, ↓reduceIte, Option.map_some, Option.bind_some, List.toList_toArray, Tryz.tw, H.lay, Nat.zero_add, Nat.add_zero, ↓reduceIte, List.getElem?_cons_zero, List.getElem?_cons_succ, g0, w0, w1, w2, w3, w4, e3, e4]; rfl) ?_ | refine AOps.s rfl rfl rfl ?_ | refine AOps.u rfl rfl rfl rfl (by simp only [evS, cond_tt, cond_ff, absV, depthV, Nat.reduceEqDiff, Nat.reduceLT, ↓reduceIte, Option.map_some, Option.bind_some, List.toList_toArray, Tryz.tw, H.lay, Nat.zero_add, Nat.add_zero, ↓reduceIte, List.getElem?_cons_zero, List.getElem?_cons_succ, g0, w0, w1, w2, w3, w4, e3, e4]; rfl) ?_))
    refine AOps.nil ?_
    refine AWp.ret ?_
    (try simp only [OutOf, Then, Round, NoGoto]); refine leaves_plain (by rfl) (by rfl) (fun _ => rfl) (by rfl) ⟨?_, rfl⟩; rfl
  cases e5 : decide (0 ≤ w.km)
  case false =>
    (repeat (first | refine AOps.v rfl rfl rfl rfl rfl (by simp only [evS, cond_tt, cond_ff, absV, depthV, Nat.reduceEqDiff, Nat.reduceLT, ↓reduceIte, Option.map_some, Option.bind_some, List.toList_toArray, Tryz.tw, H.lay, Nat.zero_add, Nat.add_zero, ↓reduceIte, List.getElem?_cons_zero, List.getElem?_cons_succ, g0, w0, w1, w2, w3, w4, e3, e4, e5]; rfl) ?_ | refine AOps.s rfl rfl rfl ?_ | refine AOps.u rfl rfl rfl rfl (by simp only [evS, cond_tt, cond_ff, absV, depthV, Nat.reduceEqDiff, Nat.reduceLT, ↓reduceIte, Option.map_some, Option.bind_some, List.toList_toArray, Tryz.tw, H.lay, Nat.zero_add, Nat.add_zero, ↓reduceIte, List.getElem?_cons_zero, List.getElem?_cons_succ, g0, w0, w1, w2, w3, w4, e3, e4, e5]; rfl) ?_))
    refine AOps.nil ?_
    refine AWp.ret ?_
    (try simp only [OutOf, Then, Round, NoGoto]); refine leaves_plain (by rfl) (by rfl) (fun _ => rfl) (by rfl) ⟨?_, rfl⟩; rfl
  cases e6 : decide (w.km ≤ 1000000000000)
  case false =>
    (repeat (first | refine AOps.v rfl rfl rfl rfl rfl (by simp only [evS, cond_tt, cond_ff, absV, depthV, Nat.reduceEqDiff, Nat.reduceLT, ↓reduceIte, Option.map_some, Option.bind_some, List.toList_toArray, Tryz.tw, H.lay, Nat.zero_add, Nat.add_zero, ↓reduceIte, List.getElem?_cons_zero, List.getElem?_cons_succ, g0, w0, w1, w2, w3, w4, e3, e4, e5, e6]; rfl) ?_ | refine AOps.s rfl rfl rfl ?_ | refine AOps.u rfl rfl rfl rfl (by simp only [evS, cond_tt, cond_ff, absV, depthV, Nat.reduceEqDiff, Nat.reduceLT, ↓reduceIte, Option.map_some, Option.bind_some, List.toList_toArray, Tryz.tw, H.lay, Nat.zero_add, Nat.add_zero, ↓reduceIte, List.getElem?_cons_zero, List.getElem?_cons_succ, g0, w0, w1, w2, w3, w4, e3, e4, e5, e6]; rfl) ?_))
    refine AOps.nil ?_
    refine AWp.ret ?_
    (try simp only [OutOf, Then, Round, NoGoto]); refine leaves_plain (by rfl) (by rfl) (fun _ => rfl) (by rfl) ⟨?_, rfl⟩; rfl
  cases e7 : decide (0 ≤ w.pct)
  case false =>
    (repeat (first | refine AOps.v rfl rfl rfl rfl rfl (by simp only [evS, cond_tt, cond_ff, absV, depthV, Nat.reduceEqDiff, Nat.reduceLT, ↓reduceIte, Option.map_some, Option.bind_some, List.toList_toArray, Tryz.tw, H.lay, Nat.zero_add, Nat.add_zero, ↓reduceIte, List.getElem?_cons_zero, List.getElem?_cons_succ, g0, w0, w1, w2, w3, w4, e3, e4, e5, e6, e7]; rfl) ?_ | refine AOps.s rfl rfl rfl ?_ | refine AOps.u rfl rfl rfl rfl (by simp only [evS, cond_tt, cond_ff, absV, depthV, Nat.reduceEqDiff, Nat.reduceLT, ↓reduceIte, Option.map_some, Option.bind_some, List.toList_toArray, Tryz.tw, H.lay, Nat.zero_add, Nat.add_zero, ↓reduceIte, List.getElem?_cons_zero, List.getElem?_cons_succ, g0, w0, w1, w2, w3, w4, e3, e4, e5, e6, e7]; rfl) ?_))
    refine AOps.nil ?_
    refine AWp.ret ?_
    (try simp only [OutOf, Then, Round, NoGoto]); refine leaves_plain (by rfl) (by rfl) (fun _ => rfl) (by rfl) ⟨?_, rfl⟩; rfl
  cases e8 : decide (w.pct ≤ 100)
  case false =>
    (repeat (first | refine AOps.v rfl rfl rfl rfl rfl (by simp only [evS, cond_tt, cond_ff, absV, depthV, Nat.reduceEqDiff, Nat.reduceLT, ↓reduceIte, Option.map_some, Option.bind_some, List.toList_toArray, Tryz.tw, H.lay, Nat.zero_add, Nat.add_zero, ↓reduceIte, List.getElem?_cons_zero, List.getElem?_cons_succ, g0, w0, w1, w2, w3, w4, e3, e4, e5, e6, e7, e8]; rfl) ?_ | refine AOps.s rfl rfl rfl ?_ | refine AOps.u rfl rfl rfl rfl (by simp only [evS, cond_tt, cond_ff, absV, depthV, Nat.reduceEqDiff, Nat.reduceLT, ↓reduceIte, Option.map_some, Option.bind_some, List.toList_toArray, Tryz.tw, H.lay, Nat.zero_add, Nat.add_zero, ↓reduceIte, List.getElem?_cons_zero, List.getElem?_cons_succ, g0, w0, w1, w2, w3, w4, e3, e4, e5, e6, e7, e8]; rfl) ?_))
    refine AOps.nil ?_
    refine AWp.ret ?_
    (try simp only [OutOf, Then, Round, NoGoto]); refine leaves_plain (by rfl) (by rfl) (fun _ => rfl) (by rfl) ⟨?_, rfl⟩; rfl
  (repeat (first | refine AOps.v rfl rfl rfl rfl rfl (by simp only [evS, cond_tt, cond_ff, absV, depthV, Nat.reduceEqDiff, Nat.reduceLT, ↓reduceIte, Option.map_some, Option.bind_some, List.toList_toArray, Tryz.tw, H.lay, Nat.zero_add, Nat.add_zero, ↓reduceIte, List.getElem?_cons_zero, List.getElem?_cons_succ, g0, w0, w1, w2, w3, w4, e3, e4, e5, e6, e7, e8]; rfl) ?_ | refine AOps.s rfl rfl rfl ?_ | refine AOps.u rfl rfl rfl rfl (by simp only [evS, cond_tt, cond_ff, absV, depthV, Nat.reduceEqDiff, Nat.reduceLT, ↓reduceIte, Option.map_some, Option.bind_some, List.toList_toArray, Tryz.tw, H.lay, Nat.zero_add, Nat.add_zero, ↓reduceIte, List.getElem?_cons_zero, List.getElem?_cons_succ, g0, w0, w1, w2, w3, w4, e3, e4, e5, e6, e7, e8]; rfl) ?_))
  refine AOps.nil ?_
  refine AWp.ret ?_
  (try simp only [OutOf, Then, Round, NoGoto]); refine leaves_plain (by rfl) (by rfl) (fun _ => rfl) (by rfl) ⟨?_, rfl⟩; rfl

set_option maxHeartbeats 2000000 in
theorem Tryz.cost43 (c : Co) (hp : c.part.length ≤ 1000000) (ho : c.owner.length ≤ 1000000) (h : H) : ACalls Tryz.prog (.func 74) [.agg c.cells] h (fun v h' => v = .bool c.ok ∧ h' = h) := by
  refine ACalls.body (n := 26) Tryz.nogo Tryz.func74 rfl rfl ?_
  rw [argF1]
  have q0 : c.cells[0]? = some (.str c.part) := rfl
  have q1 : c.cells[1]? = some (.str c.owner) := rfl
  have q2 : c.cells[2]? = some (.int .i64 c.day) := rfl
  have q3 : c.cells[3]? = some (.int .i64 c.am) := rfl
  (repeat refine AWp.seq ?_); change AWp _ _ _ _ _; refine AWp.region ?_; (repeat (first | refine AOps.v rfl rfl rfl rfl rfl (by simp only [evS, cond_tt, cond_ff, absV, depthV, Nat.reduceEqDiff, Nat.reduceLT, ↓reduceIte, Option.map_some, Option.bind_some, List.toList_toArray, op_box, H.lay]; rfl) ?_ | refine AOps.s rfl rfl rfl ?_ | refine AOps.u rfl rfl rfl rfl (by simp only [evS, cond_tt, cond_ff, absV, depthV, Nat.reduceEqDiff, Nat.reduceLT, ↓reduceIte, Option.map_some, Option.bind_some, List.toList_toArray, op_box, H.lay]; rfl) ?_)); refine AOps.nil ?_
  obtain ⟨O2, hO2⟩ : ∃ X, X = Tr.put h.objs h.next (some (.cells c.cells h.next)) := ⟨_, rfl⟩
  obtain ⟨F2, hF2⟩ : ∃ X, X = Tr.put h.fams h.next (some (h.next, h.next)) := ⟨_, rfl⟩
  rw [← hO2, ← hF2]
  have g0 : rowO O2 h.next = some c.cells := by unfold rowO; rw [hO2, put_same]; rfl
  clear hO2 hF2
  unfold Co.ok isDy
  (repeat refine AWp.seq ?_); change AWp _ _ _ _ _; refine AWp.region ?_; (repeat (first | refine AOps.v rfl rfl rfl rfl rfl (by simp only [evS, cond_tt, cond_ff, absV, depthV, Nat.reduceEqDiff, Nat.reduceLT, ↓reduceIte, Option.map_some, Option.bind_some, List.toList_toArray, Tryz.tw, H.lay, Nat.zero_add, Nat.add_zero, ↓reduceIte, List.getElem?_cons_zero, List.getElem?_cons_succ, g0, q0, q1, q2, q3]; rfl) ?_ | refine AOps.s rfl rfl rfl ?_ | refine AOps.u rfl rfl rfl rfl (by simp only [evS, cond_tt, cond_ff, absV, depthV, Nat.reduceEqDiff, Nat.reduceLT, ↓reduceIte, Option.map_some, Option.bind_some, List.toList_toArray, Tryz.tw, H.lay, Nat.zero_add, Nat.add_zero, ↓reduceIte, List.getElem?_cons_zero, List.getElem?_cons_succ, g0, q0, q1, q2, q3]; rfl) ?_))
  refine AOps.c rfl rfl rfl rfl rfl (by simp only [callOf_val, callW_fn, evS, cond_tt, cond_ff, absV, depthV, Nat.reduceEqDiff, Nat.reduceLT, ↓reduceIte, Option.map_some, Option.bind_some, List.toList_toArray]; rfl) rfl (Tryz.name05 _ hp _) ?_; rintro _ _ ⟨rfl, rfl⟩
  cases e1 : nameN c.part
  case false =>
    (repeat (first | refine AOps.v rfl rfl rfl rfl rfl (by simp only [evS, cond_tt, cond_ff, absV, depthV, Nat.reduceEqDiff, Nat.reduceLT, ↓reduceIte, Option.map_some, Option.bind_some, List.toList_toArray]; rfl) ?_ | refine AOps.s rfl rfl rfl ?_ | refine AOps.u rfl rfl rfl rfl (by simp only [evS, cond_tt, cond_ff, absV, depthV, Nat.reduceEqDiff, Nat.reduceLT, ↓reduceIte, Option.map_some, Option.bind_some, List.toList_toArray]; rfl) ?_))
    refine AOps.nil ?_
    refine AWp.ret ?_
    (try simp only [OutOf, Then, Round, NoGoto]); refine leaves_plain (by rfl) (by rfl) (fun _ => rfl) (by rfl) ⟨?_, rfl⟩; rfl
  (repeat (first | refine AOps.v rfl rfl rfl rfl rfl (by simp only [evS, cond_tt, cond_ff, absV, depthV, Nat.reduceEqDiff, Nat.reduceLT, ↓reduceIte, Option.map_some, Option.bind_some, List.toList_toArray, Tryz.tw, H.lay, Nat.zero_add, Nat.add_zero, ↓reduceIte, List.getElem?_cons_zero, List.getElem?_cons_succ, g0, q0, q1, q2, q3]; rfl) ?_ | refine AOps.s rfl rfl rfl ?_ | refine AOps.u rfl rfl rfl rfl (by simp only [evS, cond_tt, cond_ff, absV, depthV, Nat.reduceEqDiff, Nat.reduceLT, ↓reduceIte, Option.map_some, Option.bind_some, List.toList_toArray, Tryz.tw, H.lay, Nat.zero_add, Nat.add_zero, ↓reduceIte, List.getElem?_cons_zero, List.getElem?_cons_succ, g0, q0, q1, q2, q3]; rfl) ?_))
  refine AOps.c rfl rfl rfl rfl rfl (by simp only [callOf_val, callW_fn, evS, cond_tt, cond_ff, absV, depthV, Nat.reduceEqDiff, Nat.reduceLT, ↓reduceIte, Option.map_some, Option.bind_some, List.toList_toArray]; rfl) rfl (Tryz.name05 _ ho _) ?_; rintro _ _ ⟨rfl, rfl⟩
  cases e2 : nameN c.owner
  case false =>
    (repeat (first | refine AOps.v rfl rfl rfl rfl rfl (by simp only [evS, cond_tt, cond_ff, absV, depthV, Nat.reduceEqDiff, Nat.reduceLT, ↓reduceIte, Option.map_some, Option.bind_some, List.toList_toArray]; rfl) ?_ | refine AOps.s rfl rfl rfl ?_ | refine AOps.u rfl rfl rfl rfl (by simp only [evS, cond_tt, cond_ff, absV, depthV, Nat.reduceEqDiff, Nat.reduceLT, ↓reduceIte, Option.map_some, Option.bind_some, List.toList_toArray]; rfl) ?_))
    refine AOps.nil ?_
    refine AWp.ret ?_
    (try simp only [OutOf, Then, Round, NoGoto]); refine leaves_plain (by rfl) (by rfl) (fun _ => rfl) (by rfl) ⟨?_, rfl⟩; rfl
  cases e3 : decide (0 ≤ c.day)
  case false =>
    (repeat (first | refine AOps.v rfl rfl rfl rfl rfl (by simp only [evS, cond_tt, cond_ff, absV, depthV, Nat.reduceEqDiff, Nat.reduceLT, ↓reduceIte, Option.map_some, Option.bind_some, List.toList_toArray, Tryz.tw, H.lay, Nat.zero_add, Nat.add_zero, ↓reduceIte, List.getElem?_cons_zero, List.getElem?_cons_succ, g0, q0, q1, q2, q3, e3]; rfl) ?_ | refine AOps.s rfl rfl rfl ?_ | refine AOps.u rfl rfl rfl rfl (by simp only [evS, cond_tt, cond_ff, absV, depthV, Nat.reduceEqDiff, Nat.reduceLT, ↓reduceIte, Option.map_some, Option.bind_some, List.toList_toArray, Tryz.tw, H.lay, Nat.zero_add, Nat.add_zero, ↓reduceIte, List.getElem?_cons_zero, List.getElem?_cons_succ, g0, q0, q1, q2, q3, e3]; rfl) ?_))
    refine AOps.nil ?_
    refine AWp.ret ?_
    (try simp only [OutOf, Then, Round, NoGoto]); refine leaves_plain (by rfl) (by rfl) (fun _ => rfl) (by rfl) ⟨?_, rfl⟩; rfl
  cases e4 : decide (c.day ≤ 40000)
  case false =>
    (repeat (first | refine AOps.v rfl rfl rfl rfl rfl (by simp only [evS, cond_tt, cond_ff, absV, depthV, Nat.reduceEqDiff, Nat.reduceLT, ↓reduceIte, Option.map_some, Option.bind_some, List.toList_toArray, Tryz.tw, H.lay, Nat.zero_add, Nat.add_zero, ↓reduceIte, List.getElem?_cons_zero, List.getElem?_cons_succ, g0, q0, q1, q2, q3, e3, e4]; rfl) ?_ | refine AOps.s rfl rfl rfl ?_ | refine AOps.u rfl rfl rfl rfl (by simp only [evS, cond_tt, cond_ff, absV, depthV, Nat.reduceEqDiff, Nat.reduceLT, ↓reduceIte, Option.map_some, Option.bind_some, List.toList_toArray, Tryz.tw, H.lay, Nat.zero_add, Nat.add_zero, ↓reduceIte, List.getElem?_cons_zero, List.getElem?_cons_succ, g0, q0, q1, q2, q3, e3, e4]; rfl) ?_))
    refine AOps.nil ?_
    refine AWp.ret ?_
    (try simp only [OutOf, Then, Round, NoGoto]); refine leaves_plain (by rfl) (by rfl) (fun _ => rfl) (by rfl) ⟨?_, rfl⟩; rfl
  (repeat (first | refine AOps.v rfl rfl rfl rfl rfl (by simp only [evS, cond_tt, cond_ff, absV, depthV, Nat.reduceEqDiff, Nat.reduceLT, ↓reduceIte, Option.map_some, Option.bind_some, List.toList_toArray, Tryz.tw, H.lay, Nat.zero_add, Nat.add_zero, ↓reduceIte, List.getElem?_cons_zero, List.getElem?_cons_succ, g0, q0, q1, q2, q3, e3, e4]; rfl) ?_ | refine AOps.s rfl rfl rfl ?_ | refine AOps.u rfl rfl rfl rfl (by simp only [evS, cond_tt, cond_ff, absV, depthV, Nat.reduceEqDiff, Nat.reduceLT, ↓reduceIte, Option.map_some, Option.bind_some, List.toList_toArray, Tryz.tw, H.lay, Nat.zero_add, Nat.add_zero, ↓reduceIte, List.getElem?_cons_zero, List.getElem?_cons_succ, g0, q0, q1, q2, q3, e3, e4]; rfl) ?_))
  refine AOps.c rfl rfl rfl rfl rfl (by simp only [callOf_val, callW_fn, evS, cond_tt, cond_ff, absV, depthV, Nat.reduceEqDiff, Nat.reduceLT, ↓reduceIte, Option.map_some, Option.bind_some, List.toList_toArray]; rfl) rfl (Tryz.is03 c.am _) ?_; rintro _ _ ⟨rfl, rfl⟩
  (repeat (first | refine AOps.v rfl rfl rfl rfl rfl (by simp only [evS, cond_tt, cond_ff, absV, depthV, Nat.reduceEqDiff, Nat.reduceLT, ↓reduceIte, Option.map_some, Option.bind_some, List.toList_toArray]; rfl) ?_ | refine AOps.s rfl rfl rfl ?_ | refine AOps.u rfl rfl rfl rfl (by simp only [evS, cond_tt, cond_ff, absV, depthV, Nat.reduceEqDiff, Nat.reduceLT, ↓reduceIte, Option.map_some, Option.bind_some, List.toList_toArray]; rfl) ?_))
  refine AOps.nil ?_
  refine AWp.ret ?_
  (try simp only [OutOf, Then, Round, NoGoto]); refine leaves_plain (by rfl) (by rfl) (fun _ => rfl) (by rfl) ⟨?_, rfl⟩; rfl

set_option maxHeartbeats 2000000 in
theorem Tryz.given (ws : List Wy) (c : Co) (hw : ∀ w ∈ ws, w.fits) (hc : c.fits) (hlen : ws.length ≤ 1000) (v : AV) (h : H) (hv : RdS h v 5 (ws.map Wy.cells)) :
    ACalls Tryz.prog (.func 29) [v, .agg c.cells] h (fun r h' => r = .bool (rightB ws c) ∧ h' = h) := by
  refine ACalls.body (n := 20) Tryz.nogo Tryz.func29 rfl rfl ?_
  rw [argF2]
  obtain ⟨lo, le, lc, rfl⟩ := hv.len
  rw [List.length_map] at hv ⊢
  have hv0 : RdS ⟨h.objs, h.fams, h.next, h.next⟩ (.slice lo ws.length le lc) 5 (ws.map Wy.cells) := ⟨hv.wide, hv.at'⟩
  have hch4 : chunkL c.cells 0 4 = some c.cells := rfl
  (repeat refine AWp.seq ?_); change AWp _ _ _ _ _; refine AWp.region ?_; (repeat (first | refine AOps.v rfl rfl rfl rfl rfl (by simp only [evS, cond_tt, cond_ff, absV, depthV, Nat.reduceEqDiff, Nat.reduceLT, ↓reduceIte, Option.map_some, Option.bind_some, List.toList_toArray, op_box, H.lay]; rfl) ?_ | refine AOps.s rfl rfl rfl ?_ | refine AOps.u rfl rfl rfl rfl (by simp only [evS, cond_tt, cond_ff, absV, depthV, Nat.reduceEqDiff, Nat.reduceLT, ↓reduceIte, Option.map_some, Option.bind_some, List.toList_toArray, op_box, H.lay]; rfl) ?_)); refine AOps.nil ?_
  obtain ⟨O2, hO2⟩ : ∃ X, X = Tr.put h.objs h.next (some (.cells c.cells h.next)) := ⟨_, rfl⟩
  obtain ⟨F2, hF2⟩ : ∃ X, X = Tr.put h.fams h.next (some (h.next, h.next)) := ⟨_, rfl⟩
  rw [← hO2, ← hF2]
  have g0 : rowO O2 h.next = some c.cells := by unfold rowO; rw [hO2, put_same]; rfl
  have hold : ∀ j, j < h.next → O2.get j = h.objs.get j := fun j hj => by rw [hO2, put_other _ _ (by omega)]
  clear hO2 hF2
  (repeat refine AWp.seq ?_); change AWp _ _ _ _ _; refine AWp.region ?_; (repeat (first | refine AOps.v rfl rfl rfl rfl rfl (by simp only [evS, cond_tt, cond_ff, absV, depthV, Nat.reduceEqDiff, Nat.reduceLT, ↓reduceIte, Option.map_some, Option.bind_some, List.toList_toArray]; rfl) ?_ | refine AOps.s rfl rfl rfl ?_ | refine AOps.u rfl rfl rfl rfl (by simp only [evS, cond_tt, cond_ff, absV, depthV, Nat.reduceEqDiff, Nat.reduceLT, ↓reduceIte, Option.map_some, Option.bind_some, List.toList_toArray]; rfl) ?_)); refine AOps.nil ?_
  refine AWp.block (AWp.loop (fun m st => ∃ k : Nat, k ≤ ws.length ∧ m = ws.length - k ∧ (∀ i w, i < k → ws[i]? = some w → w.ok = true) ∧
    Fr st [(0, .slice lo ws.length le lc), (3, .ptr (some (h.next, 0))), (4, .bool false), (5, .int .i64 (k : Int))] 20 ⟨O2, F2, h.next + 1, h.next⟩ []) ws.length ?_ ?_)
  · exact ⟨0, by omega, by omega, fun i w hi => by omega, rfl, rfl, rfl, rfl, rfl, rfl, rfl, trivial⟩
  rintro m st ⟨k, hk, rfl, hall, hF⟩
  obtain ⟨f, rfl⟩ := hF.open
  clear hF
  simp only [updL]
  by_cases hlt : k < ws.length
  · have c1 : decide ((k : Int) < (ws.length : Int)) = true := by simp only [decide_eq_true_eq]; omega
    obtain ⟨w, hwk⟩ : ∃ w, ws[k]? = some w := ⟨ws[k], List.getElem?_eq_getElem hlt⟩
    have hwf := hw w (List.mem_of_getElem? hwk)
    obtain ⟨id, off, cap, cs, hv', hid, hrow0, hcl, hch, hcell⟩ := hv0.open (i := k) (by rw [List.length_map]; exact hlt)
    rw [List.length_map] at hv'
    cases hv'
    simp only at hrow0 hid
    have kc := hch _ _ (rowsW_get ws hwk)
    have hrow : rowO O2 id = some cs := rowO_of hrow0 (hold id hid)
    (repeat refine AWp.seq ?_); change AWp _ _ _ _ _; refine AWp.region ?_; (repeat (first | refine AOps.v rfl rfl rfl rfl rfl (by simp only [evS, cond_tt, cond_ff, absV, depthV, Nat.reduceEqDiff, Nat.reduceLT, ↓reduceIte, Option.map_some, Option.bind_some, List.toList_toArray, Tryz.tw, H.lay, Nat.zero_add, Nat.add_zero, ↓reduceIte, List.getElem?_cons_zero, List.getElem?_cons_succ, c1]; rfl) ?_ | refine AOps.s rfl rfl rfl ?_ | refine AOps.u rfl rfl rfl rfl (by simp only [evS, cond_tt, cond_ff, absV, depthV, Nat.reduceEqDiff, Nat.reduceLT, ↓reduceIte, Option.map_some, Option.bind_some, List.toList_toArray, Tryz.tw, H.lay, Nat.zero_add, Nat.add_zero, ↓reduceIte, List.getElem?_cons_zero, List.getElem?_cons_succ, c1]; rfl) ?_)); refine AOps.nil ?_
    (repeat refine AWp.seq ?_); change AWp _ _ _ _ _; refine AWp.yes (by rfl) (by rfl) (AWp.skip ?_)
    (repeat refine AWp.seq ?_)
    refine AWp.block ?_
    (repeat refine AWp.seq ?_); change AWp _ _ _ _ _; refine AWp.region ?_; (repeat (first | refine AOps.v rfl rfl rfl rfl rfl (by simp only [evS, cond_tt, cond_ff, absV, depthV, Nat.reduceEqDiff, Nat.reduceLT, ↓reduceIte, Option.map_some, Option.bind_some, List.toList_toArray, Tryz.tw, H.lay, Nat.zero_add, Nat.add_zero, ↓reduceIte, List.getElem?_cons_zero, List.getElem?_cons_succ, iaddr_slice Tryz.underlying22 Tryz.size59 hlt, hrow, kc]; rfl) ?_ | refine AOps.s rfl rfl rfl ?_ | refine AOps.u rfl rfl rfl rfl (by simp only [evS, cond_tt, cond_ff, absV, depthV, Nat.reduceEqDiff, Nat.reduceLT, ↓reduceIte, Option.map_some, Option.bind_some, List.toList_toArray, Tryz.tw, H.lay, Nat.zero_add, Nat.add_zero, ↓reduceIte, List.getElem?_cons_zero, List.getElem?_cons_succ, iaddr_slice Tryz.underlying22 Tryz.size59 hlt, hrow, kc]; rfl) ?_))
    refine AOps.c rfl rfl rfl rfl rfl (by simp only [callOf_val, callW_fn, evS, cond_tt, cond_ff, absV, depthV, Nat.reduceEqDiff, Nat.reduceLT, ↓reduceIte, Option.map_some, Option.bind_some, List.toList_toArray]; rfl) rfl (Tryz.warranty w hwf.k hwf.m _) ?_; rintro _ _ ⟨rfl, rfl⟩
    cases e1 : w.ok
    · (repeat (first | refine AOps.v rfl rfl rfl rfl rfl (by simp only [evS, cond_tt, cond_ff, absV, depthV, Nat.reduceEqDiff, Nat.reduceLT, ↓reduceIte, Option.map_some, Option.bind_some, List.toList_toArray]; rfl) ?_ | refine AOps.s rfl rfl rfl ?_ | refine AOps.u rfl rfl rfl rfl (by simp only [evS, cond_tt, cond_ff, absV, depthV, Nat.reduceEqDiff, Nat.reduceLT, ↓reduceIte, Option.map_some, Option.bind_some, List.toList_toArray]; rfl) ?_))
      refine AOps.nil ?_
      (repeat refine AWp.seq ?_); change AWp _ _ _ _ _; refine AWp.yes (by rfl) (by rfl) ?_
      (repeat refine AWp.seq ?_); change AWp _ _ _ _ _; refine AWp.region ?_; (repeat (first | refine AOps.v rfl rfl rfl rfl rfl (by simp only [evS, cond_tt, cond_ff, absV, depthV, Nat.reduceEqDiff, Nat.reduceLT, ↓reduceIte, Option.map_some, Option.bind_some, List.toList_toArray]; rfl) ?_ | refine AOps.s rfl rfl rfl ?_ | refine AOps.u rfl rfl rfl rfl (by simp only [evS, cond_tt, cond_ff, absV, depthV, Nat.reduceEqDiff, Nat.reduceLT, ↓reduceIte, Option.map_some, Option.bind_some, List.toList_toArray]; rfl) ?_)); refine AOps.nil ?_
      refine AWp.ret ?_
      (try simp only [OutOf, Then, Round, NoGoto]); refine leaves_plain (by rfl) (by rfl) (fun _ => rfl) (by rfl) ⟨?_, rfl⟩; rw [all_ok_false hwk e1]; rfl
    · (repeat (first | refine AOps.v rfl rfl rfl rfl rfl (by simp only [evS, cond_tt, cond_ff, absV, depthV, Nat.reduceEqDiff, Nat.reduceLT, ↓reduceIte, Option.map_some, Option.bind_some, List.toList_toArray]; rfl) ?_ | refine AOps.s rfl rfl rfl ?_ | refine AOps.u rfl rfl rfl rfl (by simp only [evS, cond_tt, cond_ff, absV, depthV, Nat.reduceEqDiff, Nat.reduceLT, ↓reduceIte, Option.map_some, Option.bind_some, List.toList_toArray]; rfl) ?_))
      refine AOps.nil ?_
      (repeat refine AWp.seq ?_); change AWp _ _ _ _ _; refine AWp.no (by rfl) (by rfl) (AWp.skip ?_)
      (repeat refine AWp.seq ?_); change AWp _ _ _ _ _; refine AWp.region ?_; (repeat (first | refine AOps.v rfl rfl rfl rfl rfl (by simp only [evS, cond_tt, cond_ff, absV, depthV, Nat.reduceEqDiff, Nat.reduceLT, ↓reduceIte, Option.map_some, Option.bind_some, List.toList_toArray, bin_add (show -9223372036854775808 ≤ (k : Int) + 1 ∧ (k : Int) + 1 ≤ 9223372036854775807 from ⟨by omega, by omega⟩)]; rfl) ?_ | refine AOps.s rfl rfl rfl ?_ | refine AOps.u rfl rfl rfl rfl (by simp only [evS, cond_tt, cond_ff, absV, depthV, Nat.reduceEqDiff, Nat.reduceLT, ↓reduceIte, Option.map_some, Option.bind_some, List.toList_toArray, bin_add (show -9223372036854775808 ≤ (k : Int) + 1 ∧ (k : Int) + 1 ≤ 9223372036854775807 from ⟨by omega, by omega⟩)]; rfl) ?_)); refine AOps.nil ?_
      refine ⟨ws.length - (k + 1), by omega, k + 1, by omega, rfl, fun i u hi hu => ?_, rfl, rfl, rfl, ?_⟩
      · by_cases hik : i = k
        · subst hik; rw [hwk] at hu; cases hu; exact e1
        · exact hall i u (by omega) hu
      · simp only [Has, upd_eq]
        exact ⟨rfl, rfl, rfl, rfl, trivial⟩
  · have hkk : k = ws.length := by omega
    subst hkk
    have c1 : decide ((ws.length : Int) < (ws.length : Int)) = false := by simp
    have hallt : ws.all Wy.ok = true := by
      rw [List.all_eq_true]
      intro w hwm
      obtain ⟨i, hi⟩ := List.mem_iff_getElem?.1 hwm
      exact hall i w (idx_lt hi) hi
    have hr : rightB ws c = c.ok := by unfold rightB; rw [hallt]; rfl
    rw [hr]
    (repeat refine AWp.seq ?_); change AWp _ _ _ _ _; refine AWp.region ?_; (repeat (first | refine AOps.v rfl rfl rfl rfl rfl (by simp only [evS, cond_tt, cond_ff, absV, depthV, Nat.reduceEqDiff, Nat.reduceLT, ↓reduceIte, Option.map_some, Option.bind_some, List.toList_toArray, Tryz.tw, H.lay, Nat.zero_add, Nat.add_zero, ↓reduceIte, List.getElem?_cons_zero, List.getElem?_cons_succ, c1]; rfl) ?_ | refine AOps.s rfl rfl rfl ?_ | refine AOps.u rfl rfl rfl rfl (by simp only [evS, cond_tt, cond_ff, absV, depthV, Nat.reduceEqDiff, Nat.reduceLT, ↓reduceIte, Option.map_some, Option.bind_some, List.toList_toArray, Tryz.tw, H.lay, Nat.zero_add, Nat.add_zero, ↓reduceIte, List.getElem?_cons_zero, List.getElem?_cons_succ, c1]; rfl) ?_)); refine AOps.nil ?_
    (repeat refine AWp.seq ?_); change AWp _ _ _ _ _; refine AWp.no (by rfl) (by rfl) ?_
    refine AWp.exit ?_
    (try simp only [OutOf, Then, Round, NoGoto, if_true])
    (repeat refine AWp.seq ?_); change AWp _ _ _ _ _; refine AWp.region ?_; (repeat (first | refine AOps.v rfl rfl rfl rfl rfl (by simp only [evS, cond_tt, cond_ff, absV, depthV, Nat.reduceEqDiff, Nat.reduceLT, ↓reduceIte, Option.map_some, Option.bind_some, List.toList_toArray, Tryz.tw, H.lay, Nat.zero_add, Nat.add_zero, ↓reduceIte, List.getElem?_cons_zero, List.getElem?_cons_succ, g0, hch4]; rfl) ?_ | refine AOps.s rfl rfl rfl ?_ | refine AOps.u rfl rfl rfl rfl (by simp only [evS, cond_tt, cond_ff, absV, depthV, Nat.reduceEqDiff, Nat.reduceLT, ↓reduceIte, Option.map_some, Option.bind_some, List.toList_toArray, Tryz.tw, H.lay, Nat.zero_add, Nat.add_zero, ↓reduceIte, List.getElem?_cons_zero, List.getElem?_cons_succ, g0, hch4]; rfl) ?_))
    refine AOps.c rfl rfl rfl rfl rfl (by simp only [callOf_val, callW_fn, evS, cond_tt, cond_ff, absV, depthV, Nat.reduceEqDiff, Nat.reduceLT, ↓reduceIte, Option.map_some, Option.bind_some, List.toList_toArray]; rfl) rfl (Tryz.cost43 c hc.p hc.o _) ?_; rintro _ _ ⟨rfl, rfl⟩
    (repeat (first | refine AOps.v rfl rfl rfl rfl rfl (by simp only [evS, cond_tt, cond_ff, absV, depthV, Nat.reduceEqDiff, Nat.reduceLT, ↓reduceIte, Option.map_some, Option.bind_some, List.toList_toArray]; rfl) ?_ | refine AOps.s rfl rfl rfl ?_ | refine AOps.u rfl rfl rfl rfl (by simp only [evS, cond_tt, cond_ff, absV, depthV, Nat.reduceEqDiff, Nat.reduceLT, ↓reduceIte, Option.map_some, Option.bind_some, List.toList_toArray]; rfl) ?_))
    refine AOps.nil ?_
    refine AWp.ret ?_
    (try simp only [OutOf, Then, Round, NoGoto]); refine leaves_plain (by rfl) (by rfl) (fun _ => rfl) (by rfl) ⟨?_, rfl⟩; rfl

end Go.Proofs

/- The reference's parts and what it covers. No conditions beyond those that each theorem states. -/
namespace Go.Proofs
open Go.Ev
set_option maxRecDepth 100000

def atN (ps : List Pt) (name : List Nat) : Int := match ps.findIdx? fun p => decide (p.name = name) with
  | some k => (k : Int)
  | none => -1

set_option maxHeartbeats 1000000 in
theorem Tryz.at10 (ps : List Pt) (name : List Nat) (hlen : ps.length ≤ 100000) (v : AV) (h : H) (hv : RdS h v 14 (ps.map Pt.cells)) :
    ACalls Tryz.prog (.func 75) [.agg [v], .str name] h (fun r h' => r = .int .i64 (atN ps name) ∧ h' = h) := by
  refine ACalls.body (n := 22) Tryz.nogo Tryz.func75 rfl rfl ?_
  rw [argF2]
  obtain ⟨lo, le, lc, rfl⟩ := hv.len
  rw [List.length_map] at hv ⊢
  have hv0 : RdS ⟨h.objs, h.fams, h.next, h.next⟩ (.slice lo ps.length le lc) 14 (ps.map Pt.cells) := ⟨hv.wide, hv.at'⟩
  (repeat refine AWp.seq ?_); change AWp _ _ _ _ _; refine AWp.region ?_; (repeat (first | refine AOps.v rfl rfl rfl rfl rfl (by simp only [evS, cond_tt, cond_ff, absV, depthV, Nat.reduceEqDiff, Nat.reduceLT, ↓reduceIte, Option.map_some, Option.bind_some, List.toList_toArray, op_box, H.lay]; rfl) ?_ | refine AOps.s rfl rfl rfl ?_ | refine AOps.u rfl rfl rfl rfl (by simp only [evS, cond_tt, cond_ff, absV, depthV, Nat.reduceEqDiff, Nat.reduceLT, ↓reduceIte, Option.map_some, Option.bind_some, List.toList_toArray, op_box, H.lay]; rfl) ?_)); refine AOps.nil ?_
  obtain ⟨O2, hO2⟩ : ∃ X, X = Tr.put h.objs h.next (some (.cells [.slice lo ps.length le lc] h.next)) := ⟨_, rfl⟩
  obtain ⟨F2, hF2⟩ : ∃ X, X = Tr.put h.fams h.next (some (h.next, h.next)) := ⟨_, rfl⟩
  rw [← hO2, ← hF2]
  have g0 : rowO O2 h.next = some [.slice lo ps.length le lc] := by unfold rowO; rw [hO2, put_same]; rfl
  have hold : ∀ j, j < h.next → O2.get j = h.objs.get j := fun j hj => by rw [hO2, put_other _ _ (by omega)]
  clear hO2 hF2
  (repeat refine AWp.seq ?_); change AWp _ _ _ _ _; refine AWp.region ?_; (repeat (first | refine AOps.v rfl rfl rfl rfl rfl (by simp only [evS, cond_tt, cond_ff, absV, depthV, Nat.reduceEqDiff, Nat.reduceLT, ↓reduceIte, Option.map_some, Option.bind_some, List.toList_toArray]; rfl) ?_ | refine AOps.s rfl rfl rfl ?_ | refine AOps.u rfl rfl rfl rfl (by simp only [evS, cond_tt, cond_ff, absV, depthV, Nat.reduceEqDiff, Nat.reduceLT, ↓reduceIte, Option.map_some, Option.bind_some, List.toList_toArray]; rfl) ?_)); refine AOps.nil ?_
  refine AWp.block (AWp.loop (fun m st => ∃ k : Nat, k ≤ ps.length ∧ m = ps.length - k ∧ (∀ i p, i < k → ps[i]? = some p → p.name ≠ name) ∧
    Fr st [(1, .str name), (2, .ptr (some (h.next, 0))), (5, .int .i64 (k : Int))] 22 ⟨O2, F2, h.next + 1, h.next⟩ []) ps.length ?_ ?_)
  · exact ⟨0, by omega, by omega, fun i w hi => by omega, rfl, rfl, rfl, rfl, rfl, rfl, trivial⟩
  rintro m st ⟨k, hk, rfl, hall, hF⟩
  obtain ⟨f, rfl⟩ := hF.open
  clear hF
  simp only [updL]
  by_cases hlt : k < ps.length
  · have c1 : decide ((k : Int) < (ps.length : Int)) = true := by simp only [decide_eq_true_eq]; omega
    obtain ⟨p, hpk⟩ : ∃ p, ps[k]? = some p := ⟨ps[k], List.getElem?_eq_getElem hlt⟩
    obtain ⟨id, off, cap, cs, hv', hid, hrow0, hcl, hch, hcell⟩ := hv0.open (i := k) (by rw [List.length_map]; exact hlt)
    rw [List.length_map] at hv'
    cases hv'
    simp only at hrow0 hid
    have k0 := hcell _ _ (rowsP_get ps hpk) 0 (by omega)
    rw [pt_c0, Nat.add_zero] at k0
    have hrow : rowO O2 id = some cs := rowO_of hrow0 (hold id hid)
    (repeat refine AWp.seq ?_); change AWp _ _ _ _ _; refine AWp.region ?_; (repeat (first | refine AOps.v rfl rfl rfl rfl rfl (by simp only [evS, cond_tt, cond_ff, absV, depthV, Nat.reduceEqDiff, Nat.reduceLT, ↓reduceIte, Option.map_some, Option.bind_some, List.toList_toArray, Tryz.tw, H.lay, Nat.zero_add, Nat.add_zero, ↓reduceIte, List.getElem?_cons_zero, List.getElem?_cons_succ, g0, c1]; rfl) ?_ | refine AOps.s rfl rfl rfl ?_ | refine AOps.u rfl rfl rfl rfl (by simp only [evS, cond_tt, cond_ff, absV, depthV, Nat.reduceEqDiff, Nat.reduceLT, ↓reduceIte, Option.map_some, Option.bind_some, List.toList_toArray, Tryz.tw, H.lay, Nat.zero_add, Nat.add_zero, ↓reduceIte, List.getElem?_cons_zero, List.getElem?_cons_succ, g0, c1]; rfl) ?_)); refine AOps.nil ?_
    (repeat refine AWp.seq ?_); change AWp _ _ _ _ _; refine AWp.yes (by rfl) (by rfl) (AWp.skip ?_)
    (repeat refine AWp.seq ?_)
    refine AWp.block ?_
    cases e1 : decide (p.name = name)
    · (repeat refine AWp.seq ?_); change AWp _ _ _ _ _; refine AWp.region ?_; (repeat (first | refine AOps.v rfl rfl rfl rfl rfl (by simp only [evS, cond_tt, cond_ff, absV, depthV, Nat.reduceEqDiff, Nat.reduceLT, ↓reduceIte, Option.map_some, Option.bind_some, List.toList_toArray, Tryz.tw, H.lay, Nat.zero_add, Nat.add_zero, ↓reduceIte, List.getElem?_cons_zero, List.getElem?_cons_succ, g0, iaddr_slice Tryz.underlying23 Tryz.size90 hlt, hrow, k0, e1]; rfl) ?_ | refine AOps.s rfl rfl rfl ?_ | refine AOps.u rfl rfl rfl rfl (by simp only [evS, cond_tt, cond_ff, absV, depthV, Nat.reduceEqDiff, Nat.reduceLT, ↓reduceIte, Option.map_some, Option.bind_some, List.toList_toArray, Tryz.tw, H.lay, Nat.zero_add, Nat.add_zero, ↓reduceIte, List.getElem?_cons_zero, List.getElem?_cons_succ, g0, iaddr_slice Tryz.underlying23 Tryz.size90 hlt, hrow, k0, e1]; rfl) ?_)); refine AOps.nil ?_
      (repeat refine AWp.seq ?_); change AWp _ _ _ _ _; refine AWp.no (by rfl) (by rfl) (AWp.skip ?_)
      (repeat refine AWp.seq ?_); change AWp _ _ _ _ _; refine AWp.region ?_; (repeat (first | refine AOps.v rfl rfl rfl rfl rfl (by simp only [evS, cond_tt, cond_ff, absV, depthV, Nat.reduceEqDiff, Nat.reduceLT, ↓reduceIte, Option.map_some, Option.bind_some, List.toList_toArray, bin_add (show -9223372036854775808 ≤ (k : Int) + 1 ∧ (k : Int) + 1 ≤ 9223372036854775807 from ⟨by omega, by omega⟩)]; rfl) ?_ | refine AOps.s rfl rfl rfl ?_ | refine AOps.u rfl rfl rfl rfl (by simp only [evS, cond_tt, cond_ff, absV, depthV, Nat.reduceEqDiff, Nat.reduceLT, ↓reduceIte, Option.map_some, Option.bind_some, List.toList_toArray, bin_add (show -9223372036854775808 ≤ (k : Int) + 1 ∧ (k : Int) + 1 ≤ 9223372036854775807 from ⟨by omega, by omega⟩)]; rfl) ?_)); refine AOps.nil ?_
      refine ⟨ps.length - (k + 1), by omega, k + 1, by omega, rfl, fun i u hi hu => ?_, rfl, rfl, rfl, ?_⟩
      · by_cases hik : i = k
        · subst hik; rw [hpk] at hu; cases hu; simpa using e1
        · exact hall i u (by omega) hu
      · simp only [Has, upd_eq]
        exact ⟨rfl, rfl, rfl, trivial⟩
    · have hat : atN ps name = (k : Int) := by
        have : ps.findIdx? (fun p => decide (p.name = name)) = some k := by
          rw [List.findIdx?_eq_some_iff_getElem]
          refine ⟨hlt, ?_, fun j hj => ?_⟩
          · rw [List.getElem?_eq_getElem hlt] at hpk; cases hpk; exact e1
          · have := hall j ps[j] hj (List.getElem?_eq_getElem (by omega))
            simp [this]
        unfold atN; rw [this]
      (repeat refine AWp.seq ?_); change AWp _ _ _ _ _; refine AWp.region ?_; (repeat (first | refine AOps.v rfl rfl rfl rfl rfl (by simp only [evS, cond_tt, cond_ff, absV, depthV, Nat.reduceEqDiff, Nat.reduceLT, ↓reduceIte, Option.map_some, Option.bind_some, List.toList_toArray, Tryz.tw, H.lay, Nat.zero_add, Nat.add_zero, ↓reduceIte, List.getElem?_cons_zero, List.getElem?_cons_succ, g0, iaddr_slice Tryz.underlying23 Tryz.size90 hlt, hrow, k0, e1]; rfl) ?_ | refine AOps.s rfl rfl rfl ?_ | refine AOps.u rfl rfl rfl rfl (by simp only [evS, cond_tt, cond_ff, absV, depthV, Nat.reduceEqDiff, Nat.reduceLT, ↓reduceIte, Option.map_some, Option.bind_some, List.toList_toArray, Tryz.tw, H.lay, Nat.zero_add, Nat.add_zero, ↓reduceIte, List.getElem?_cons_zero, List.getElem?_cons_succ, g0, iaddr_slice Tryz.underlying23 Tryz.size90 hlt, hrow, k0, e1]; rfl) ?_)); refine AOps.nil ?_
      (repeat refine AWp.seq ?_); change AWp _ _ _ _ _; refine AWp.yes (by rfl) (by rfl) ?_
      (repeat refine AWp.seq ?_); change AWp _ _ _ _ _; refine AWp.region ?_; (repeat (first | refine AOps.v rfl rfl rfl rfl rfl (by simp only [evS, cond_tt, cond_ff, absV, depthV, Nat.reduceEqDiff, Nat.reduceLT, ↓reduceIte, Option.map_some, Option.bind_some, List.toList_toArray]; rfl) ?_ | refine AOps.s rfl rfl rfl ?_ | refine AOps.u rfl rfl rfl rfl (by simp only [evS, cond_tt, cond_ff, absV, depthV, Nat.reduceEqDiff, Nat.reduceLT, ↓reduceIte, Option.map_some, Option.bind_some, List.toList_toArray]; rfl) ?_)); refine AOps.nil ?_
      refine AWp.ret ?_
      (try simp only [OutOf, Then, Round, NoGoto]); refine leaves_plain (by rfl) (by rfl) (fun _ => rfl) (by rfl) ⟨?_, rfl⟩; rw [hat]; rfl
  · have hkk : k = ps.length := by omega
    subst hkk
    have c1 : decide ((ps.length : Int) < (ps.length : Int)) = false := by simp
    have hat : atN ps name = -1 := by
      have : ps.findIdx? (fun p => decide (p.name = name)) = none := by
        rw [List.findIdx?_eq_none_iff]
        intro p hp
        obtain ⟨i, hi⟩ := List.mem_iff_getElem?.1 hp
        simp [hall i p (idx_lt hi) hi]
      unfold atN; rw [this]
    (repeat refine AWp.seq ?_); change AWp _ _ _ _ _; refine AWp.region ?_; (repeat (first | refine AOps.v rfl rfl rfl rfl rfl (by simp only [evS, cond_tt, cond_ff, absV, depthV, Nat.reduceEqDiff, Nat.reduceLT, ↓reduceIte, Option.map_some, Option.bind_some, List.toList_toArray, Tryz.tw, H.lay, Nat.zero_add, Nat.add_zero, ↓reduceIte, List.getElem?_cons_zero, List.getElem?_cons_succ, g0, c1]; rfl) ?_ | refine AOps.s rfl rfl rfl ?_ | refine AOps.u rfl rfl rfl rfl (by simp only [evS, cond_tt, cond_ff, absV, depthV, Nat.reduceEqDiff, Nat.reduceLT, ↓reduceIte, Option.map_some, Option.bind_some, List.toList_toArray, Tryz.tw, H.lay, Nat.zero_add, Nat.add_zero, ↓reduceIte, List.getElem?_cons_zero, List.getElem?_cons_succ, g0, c1]; rfl) ?_)); refine AOps.nil ?_
    (repeat refine AWp.seq ?_); change AWp _ _ _ _ _; refine AWp.no (by rfl) (by rfl) ?_
    refine AWp.exit ?_
    (repeat refine AWp.seq ?_); change AWp _ _ _ _ _; refine AWp.region ?_; (repeat (first | refine AOps.v rfl rfl rfl rfl rfl (by simp only [evS, cond_tt, cond_ff, absV, depthV, Nat.reduceEqDiff, Nat.reduceLT, ↓reduceIte, Option.map_some, Option.bind_some, List.toList_toArray]; rfl) ?_ | refine AOps.s rfl rfl rfl ?_ | refine AOps.u rfl rfl rfl rfl (by simp only [evS, cond_tt, cond_ff, absV, depthV, Nat.reduceEqDiff, Nat.reduceLT, ↓reduceIte, Option.map_some, Option.bind_some, List.toList_toArray]; rfl) ?_)); refine AOps.nil ?_
    refine AWp.ret ?_
    (try simp only [OutOf, Then, Round, NoGoto]); refine leaves_plain (by rfl) (by rfl) (fun _ => rfl) (by rfl) ⟨?_, rfl⟩; rw [hat]; rfl

theorem atN_find {ps : List Pt} {name : List Nat} : (atN ps name = -1 ∧ findP ps name = none) ∨ ∃ (k : Nat) (p : Pt), atN ps name = (k : Int) ∧ ps[k]? = some p ∧ findP ps name = some p := by
  unfold atN findP
  cases hf : ps.findIdx? (fun p => decide (p.name = name)) with
  | none =>
    rw [List.findIdx?_eq_none_iff] at hf
    exact .inl ⟨rfl, by rw [List.find?_eq_none]; intro p hp; rw [hf p hp]; decide⟩
  | some k =>
    obtain ⟨hlt, h1, h2⟩ := List.findIdx?_eq_some_iff_getElem.1 hf
    refine .inr ⟨k, ps[k], rfl, List.getElem?_eq_getElem hlt, ?_⟩
    rw [List.find?_eq_some_iff_getElem]
    exact ⟨h1, k, hlt, rfl, fun j hj => by simpa using h2 j hj⟩

set_option maxHeartbeats 1000000 in
theorem Tryz.find10 (ps : List Pt) (name : List Nat) (hlen : ps.length ≤ 100000) (v : AV) (h : H) (hv : RdS h v 14 (ps.map Pt.cells)) (hv1 : v.cells = [v]) (hone : ∀ p ∈ ps, oneC p.props = true) :
    ACalls Tryz.prog (.func 30) [.agg [v], .str name] h (FindQ ps name h) := by
  refine ACalls.body (n := 18) Tryz.nogo Tryz.func30 rfl rfl ?_
  rw [argF2]
  obtain ⟨lo, le, lc, rfl⟩ := hv.len
  rw [List.length_map] at hv ⊢
  have hv0 : RdS ⟨h.objs, h.fams, h.next, h.next⟩ (.slice lo ps.length le lc) 14 (ps.map Pt.cells) := ⟨hv.wide, hv.at'⟩
  have hch1 : chunkL [AV.slice lo ps.length le lc] 0 1 = some [.slice lo ps.length le lc] := rfl
  have hzc : chunkL Pt.zero.cells 0 14 = some Pt.zero.cells := rfl
  (repeat refine AWp.seq ?_); change AWp _ _ _ _ _; refine AWp.region ?_; (repeat (first | refine AOps.v rfl rfl rfl rfl rfl (by simp only [evS, cond_tt, cond_ff, absV, depthV, Nat.reduceEqDiff, Nat.reduceLT, ↓reduceIte, Option.map_some, Option.bind_some, List.toList_toArray, op_box, H.lay, Tryz.zero90]; rfl) ?_ | refine AOps.s rfl rfl rfl ?_ | refine AOps.u rfl rfl rfl rfl (by simp only [evS, cond_tt, cond_ff, absV, depthV, Nat.reduceEqDiff, Nat.reduceLT, ↓reduceIte, Option.map_some, Option.bind_some, List.toList_toArray, op_box, H.lay, Tryz.zero90]; rfl) ?_)); refine AOps.nil ?_
  obtain ⟨O2, hO2⟩ : ∃ X, X = Tr.put (Tr.put h.objs h.next (some (.cells [.slice lo ps.length le lc] h.next))) (h.next + 1) (some (.cells Pt.zero.cells (h.next + 1))) := ⟨_, rfl⟩
  obtain ⟨F2, hF2⟩ : ∃ X, X = Tr.put (Tr.put h.fams h.next (some (h.next, h.next))) (h.next + 1) (some (h.next + 1, h.next + 1)) := ⟨_, rfl⟩
  rw [← hO2, ← hF2]
  have g0 : rowO O2 h.next = some [.slice lo ps.length le lc] := by unfold rowO; rw [hO2, put_other _ _ (by omega), put_same]; rfl
  have g1 : O2.get (h.next + 1) = some (.cells Pt.zero.cells (h.next + 1)) := by rw [hO2]; exact put_same _ _ _
  have g2 : F2.get (h.next + 1) = some (h.next + 1, h.next + 1) := by rw [hF2]; exact put_same _ _ _
  have hold : ∀ j, j < h.next → O2.get j = h.objs.get j := fun j hj => by rw [hO2, put_other _ _ (by omega), put_other _ _ (by omega)]
  have hfold : ∀ j, j < h.next → F2.get j = h.fams.get j := fun j hj => by rw [hF2, put_other _ _ (by omega), put_other _ _ (by omega)]
  have hov2 : Over h.next ⟨h.objs, h.fams, h.next, h.next⟩ ⟨O2, F2, h.next + 1 + 1, h.next⟩ := Over.mk' (by omega) hold hfold
  clear hO2 hF2
  have hv2 := rdS_over hov2 hv0
  (repeat refine AWp.seq ?_); change AWp _ _ _ _ _; refine AWp.region ?_; (repeat (first | refine AOps.v rfl rfl rfl rfl rfl (by simp only [evS, cond_tt, cond_ff, absV, depthV, Nat.reduceEqDiff, Nat.reduceLT, ↓reduceIte, Option.map_some, Option.bind_some, List.toList_toArray, Tryz.tw, H.lay, Nat.zero_add, Nat.add_zero, ↓reduceIte, List.getElem?_cons_zero, List.getElem?_cons_succ, g0, hch1]; rfl) ?_ | refine AOps.s rfl rfl rfl ?_ | refine AOps.u rfl rfl rfl rfl (by simp only [evS, cond_tt, cond_ff, absV, depthV, Nat.reduceEqDiff, Nat.reduceLT, ↓reduceIte, Option.map_some, Option.bind_some, List.toList_toArray, Tryz.tw, H.lay, Nat.zero_add, Nat.add_zero, ↓reduceIte, List.getElem?_cons_zero, List.getElem?_cons_succ, g0, hch1]; rfl) ?_))
  refine AOps.c rfl rfl rfl rfl rfl (by simp only [callOf_val, callW_fn, evS, cond_tt, cond_ff, absV, depthV, Nat.reduceEqDiff, Nat.reduceLT, ↓reduceIte, Option.map_some, Option.bind_some, List.toList_toArray]; rfl) rfl (Tryz.at10 ps name hlen _ _ hv2) ?_; rintro _ _ ⟨rfl, rfl⟩
  (repeat (first | refine AOps.v rfl rfl rfl rfl rfl (by simp only [evS, cond_tt, cond_ff, absV, depthV, Nat.reduceEqDiff, Nat.reduceLT, ↓reduceIte, Option.map_some, Option.bind_some, List.toList_toArray]; rfl) ?_ | refine AOps.s rfl rfl rfl ?_ | refine AOps.u rfl rfl rfl rfl (by simp only [evS, cond_tt, cond_ff, absV, depthV, Nat.reduceEqDiff, Nat.reduceLT, ↓reduceIte, Option.map_some, Option.bind_some, List.toList_toArray]; rfl) ?_))
  refine AOps.nil ?_
  rcases atN_find (ps := ps) (name := name) with ⟨hat, hfind⟩ | ⟨k, p, hat, hpk, hfind⟩
  · rw [hat]
    (repeat refine AWp.seq ?_); change AWp _ _ _ _ _; refine AWp.region ?_; (repeat (first | refine AOps.v rfl rfl rfl rfl rfl (by simp only [evS, cond_tt, cond_ff, absV, depthV, Nat.reduceEqDiff, Nat.reduceLT, ↓reduceIte, Option.map_some, Option.bind_some, List.toList_toArray]; rfl) ?_ | refine AOps.s rfl rfl rfl ?_ | refine AOps.u rfl rfl rfl rfl (by simp only [evS, cond_tt, cond_ff, absV, depthV, Nat.reduceEqDiff, Nat.reduceLT, ↓reduceIte, Option.map_some, Option.bind_some, List.toList_toArray]; rfl) ?_)); refine AOps.nil ?_
    (repeat refine AWp.seq ?_); change AWp _ _ _ _ _; refine AWp.yes (by rfl) (by rfl) ?_
    (repeat refine AWp.seq ?_)
    refine AWp.region ?_
    (repeat (first | refine AOps.v rfl rfl rfl rfl rfl (by simp only [evS, cond_tt, cond_ff, absV, depthV, Nat.reduceEqDiff, Nat.reduceLT, ↓reduceIte, Option.map_some, Option.bind_some, List.toList_toArray, op_build, partsA_nil, build43e]; rfl) ?_ | refine AOps.s rfl rfl rfl ?_ | refine AOps.u rfl rfl rfl rfl (by simp only [evS, cond_tt, cond_ff, absV, depthV, Nat.reduceEqDiff, Nat.reduceLT, ↓reduceIte, Option.map_some, Option.bind_some, List.toList_toArray, op_build, partsA_nil, build43e]; rfl) ?_))
    refine AOps.st rfl rfl rfl (by simp only [evS, cond_tt, cond_ff, absV, depthV, Nat.reduceEqDiff, Nat.reduceLT, ↓reduceIte, Option.map_some, Option.bind_some, List.toList_toArray]; rfl) (by simp only [evS, cond_tt, cond_ff, absV, depthV, Nat.reduceEqDiff, Nat.reduceLT, ↓reduceIte, Option.map_some, Option.bind_some, List.toList_toArray]; rfl) (by exact Tryz.size90) g1 g2 (by rfl) (by rfl) (cs' := Pt.zero.cells) (by rfl) (minN_left (show h.next ≤ h.next + 1 by omega)) ?_
    (repeat (first | refine AOps.v rfl rfl rfl rfl rfl (by simp only [evS, cond_tt, cond_ff, absV, depthV, Nat.reduceEqDiff, Nat.reduceLT, ↓reduceIte, Option.map_some, Option.bind_some, List.toList_toArray]; rfl) ?_ | refine AOps.s rfl rfl rfl ?_ | refine AOps.u rfl rfl rfl rfl (by simp only [evS, cond_tt, cond_ff, absV, depthV, Nat.reduceEqDiff, Nat.reduceLT, ↓reduceIte, Option.map_some, Option.bind_some, List.toList_toArray]; rfl) ?_))
    refine AOps.nil ?_
    refine AWp.ret ?_
    (try simp only [OutOf, Then, Round, NoGoto])
    have hR6 : rowO (Tr.put O2 (h.next + 1) (some (.cells Pt.zero.cells (h.next + 1)))) (h.next + 1) = some Pt.zero.cells := by rw [rowO_put, if_pos rfl]; rfl
    refine ⟨rfl, _, rfl, .tup [.agg Pt.zero.cells, .bool false], ?_, .inl ⟨⟨by show h.next ≤ h.next + 1 + 1; omega, fun j hj => ?_, fun j hj => ?_, fun hl => minN_left hl⟩, ?_⟩⟩
    · show resultsA _ _ _ [ResultVar.cell 4 90, ResultVar.tmp 5] = _
      simp only [resultsA, List.mapM_cons, List.mapM_nil, evS, cond_tt, cond_ff, absV, depthV, Nat.reduceEqDiff, Nat.reduceLT, ↓reduceIte, Option.map_some, Option.bind_some, List.toList_toArray, Tryz.tw, H.lay, Nat.zero_add, Nat.add_zero, ↓reduceIte, List.getElem?_cons_zero, List.getElem?_cons_succ, hR6, hzc]
      rfl
    · show (Tr.put O2 (h.next + 1) _).get j = _
      rw [put_other _ _ (by omega)]; exact hold j hj
    · exact hfold j hj
    · rw [hfind]
  · have hlt : k < ps.length := (List.getElem?_eq_some_iff.1 hpk).1
    have hpo := hone p (List.mem_of_getElem? hpk)
    have hpone : p.cells.all oneC = true := by simp only [Pt.cells, List.all_cons, List.all_nil, hpo]; rfl
    obtain ⟨id, off, cap, cs, hv', hid, hrow, hcl, hch, hcell⟩ := hv2.open (i := k) (by rw [List.length_map]; exact hlt)
    rw [List.length_map] at hv'
    cases hv'
    simp only at hrow hid
    have kc := hch _ _ (rowsP_get ps hpk)
    have q14 := pt_chunk p
    have d1 : decide ((k : Int) < 0) = false := decide_eq_false (by omega)
    rw [hat]
    (repeat refine AWp.seq ?_); change AWp _ _ _ _ _; refine AWp.region ?_; (repeat (first | refine AOps.v rfl rfl rfl rfl rfl (by simp only [evS, cond_tt, cond_ff, absV, depthV, Nat.reduceEqDiff, Nat.reduceLT, ↓reduceIte, Option.map_some, Option.bind_some, List.toList_toArray, d1]; rfl) ?_ | refine AOps.s rfl rfl rfl ?_ | refine AOps.u rfl rfl rfl rfl (by simp only [evS, cond_tt, cond_ff, absV, depthV, Nat.reduceEqDiff, Nat.reduceLT, ↓reduceIte, Option.map_some, Option.bind_some, List.toList_toArray, d1]; rfl) ?_)); refine AOps.nil ?_
    (repeat refine AWp.seq ?_); change AWp _ _ _ _ _; refine AWp.no (by rfl) (by rfl) (AWp.skip ?_)
    (repeat refine AWp.seq ?_)
    refine AWp.region ?_
    (repeat (first | refine AOps.v rfl rfl rfl rfl rfl (by simp only [evS, cond_tt, cond_ff, absV, depthV, Nat.reduceEqDiff, Nat.reduceLT, ↓reduceIte, Option.map_some, Option.bind_some, List.toList_toArray, Tryz.tw, H.lay, Nat.zero_add, Nat.add_zero, ↓reduceIte, List.getElem?_cons_zero, List.getElem?_cons_succ, g0, iaddr_slice Tryz.underlying23 Tryz.size90 hlt, hrow, kc]; rfl) ?_ | refine AOps.s rfl rfl rfl ?_ | refine AOps.u rfl rfl rfl rfl (by simp only [evS, cond_tt, cond_ff, absV, depthV, Nat.reduceEqDiff, Nat.reduceLT, ↓reduceIte, Option.map_some, Option.bind_some, List.toList_toArray, Tryz.tw, H.lay, Nat.zero_add, Nat.add_zero, ↓reduceIte, List.getElem?_cons_zero, List.getElem?_cons_succ, g0, iaddr_slice Tryz.underlying23 Tryz.size90 hlt, hrow, kc]; rfl) ?_))
    refine AOps.st rfl rfl rfl (by simp only [evS, cond_tt, cond_ff, absV, depthV, Nat.reduceEqDiff, Nat.reduceLT, ↓reduceIte, Option.map_some, Option.bind_some, List.toList_toArray]; rfl) (by simp only [evS, cond_tt, cond_ff, absV, depthV, Nat.reduceEqDiff, Nat.reduceLT, ↓reduceIte, Option.map_some, Option.bind_some, List.toList_toArray]; rfl) (by exact Tryz.size90) g1 g2 (by rfl) (by exact hpone) (cs' := p.cells) (by rfl) (minN_left (show h.next ≤ h.next + 1 by omega)) ?_
    (repeat (first | refine AOps.v rfl rfl rfl rfl rfl (by simp only [evS, cond_tt, cond_ff, absV, depthV, Nat.reduceEqDiff, Nat.reduceLT, ↓reduceIte, Option.map_some, Option.bind_some, List.toList_toArray]; rfl) ?_ | refine AOps.s rfl rfl rfl ?_ | refine AOps.u rfl rfl rfl rfl (by simp only [evS, cond_tt, cond_ff, absV, depthV, Nat.reduceEqDiff, Nat.reduceLT, ↓reduceIte, Option.map_some, Option.bind_some, List.toList_toArray]; rfl) ?_))
    refine AOps.nil ?_
    refine AWp.ret ?_
    (try simp only [OutOf, Then, Round, NoGoto])
    have hR6 : rowO (Tr.put O2 (h.next + 1) (some (.cells p.cells (h.next + 1)))) (h.next + 1) = some p.cells := by rw [rowO_put, if_pos rfl]; rfl
    refine ⟨rfl, _, rfl, .tup [.agg p.cells, .bool true], ?_, .inl ⟨⟨by show h.next ≤ h.next + 1 + 1; omega, fun j hj => ?_, fun j hj => ?_, fun hl => minN_left hl⟩, ?_⟩⟩
    · show resultsA _ _ _ [ResultVar.cell 4 90, ResultVar.tmp 5] = _
      simp only [resultsA, List.mapM_cons, List.mapM_nil, evS, cond_tt, cond_ff, absV, depthV, Nat.reduceEqDiff, Nat.reduceLT, ↓reduceIte, Option.map_some, Option.bind_some, List.toList_toArray, Tryz.tw, H.lay, Nat.zero_add, Nat.add_zero, ↓reduceIte, List.getElem?_cons_zero, List.getElem?_cons_succ, hR6, q14]
      rfl
    · show (Tr.put O2 (h.next + 1) _).get j = _
      rw [put_other _ _ (by omega)]; exact hold j hj
    · exact hfold j hj
    · rw [hfind]

theorem Tryz.is12 (h : H) : ACalls Tryz.prog (.func 199) [.str sAge] h (fun r h' => r = .bool true ∧ h' = h) := by
  refine ACalls.body (n := 21) Tryz.nogo Tryz.func199 rfl rfl ?_
  rw [argF1]
  (repeat refine AWp.seq ?_); change AWp _ _ _ _ _; refine AWp.region ?_; (repeat (first | refine AOps.v rfl rfl rfl rfl rfl (by simp only [evS, cond_tt, cond_ff, absV, depthV, Nat.reduceEqDiff, Nat.reduceLT, ↓reduceIte, Option.map_some, Option.bind_some, List.toList_toArray]; rfl) ?_ | refine AOps.s rfl rfl rfl ?_ | refine AOps.u rfl rfl rfl rfl (by simp only [evS, cond_tt, cond_ff, absV, depthV, Nat.reduceEqDiff, Nat.reduceLT, ↓reduceIte, Option.map_some, Option.bind_some, List.toList_toArray]; rfl) ?_)); refine AOps.nil ?_
  (repeat refine AWp.seq ?_); change AWp _ _ _ _ _; refine AWp.region ?_; (repeat (first | refine AOps.v rfl rfl rfl rfl rfl (by simp only [evS, cond_tt, cond_ff, absV, depthV, Nat.reduceEqDiff, Nat.reduceLT, ↓reduceIte, Option.map_some, Option.bind_some, List.toList_toArray]; rfl) ?_ | refine AOps.s rfl rfl rfl ?_ | refine AOps.u rfl rfl rfl rfl (by simp only [evS, cond_tt, cond_ff, absV, depthV, Nat.reduceEqDiff, Nat.reduceLT, ↓reduceIte, Option.map_some, Option.bind_some, List.toList_toArray]; rfl) ?_)); refine AOps.nil ?_
  refine AWp.ret ?_
  (try simp only [OutOf, Then, Round, NoGoto]); refine leaves_plain (by rfl) (by rfl) (fun _ => rfl) (by rfl) ⟨?_, rfl⟩; rfl

theorem Tryz.build39z (a b : Int) : buildA Tryz.prog 79 [(0, .int .i64 a), (1, .int .i64 b)] = some (.agg [.int .i64 a, .int .i64 b]) := by kernel_rfl

set_option maxHeartbeats 2000000 in
theorem Tryz.value12 (p : Pt) (day : Int) (hd : 0 ≤ day ∧ day ≤ 40000) (h : H) :
    ACalls Tryz.prog (.func 138) [.agg p.cells, .str sAge, .int .i64 day] h (fun v h' => v = .tup [.agg [.int .i64 (sinceN day p.made), .int .i64 (sinceN day p.made)], .int .i64 0] ∧ h' = h) := by
  refine ACalls.body (n := 56) Tryz.nogo Tryz.func138 rfl rfl ?_
  rw [argF3]
  have hch : ∀ a b : Int, chunkL [.int .i64 a, .int .i64 b] 0 2 = some [.int .i64 a, .int .i64 b] := fun _ _ => rfl
  have d1 : decide (day < 0) = false := decide_eq_false (by omega)
  have d2 : decide (40000 < day) = false := decide_eq_false (by omega)
  have p4 := pt_made p
  (repeat refine AWp.seq ?_); change AWp _ _ _ _ _; refine AWp.region ?_; (repeat (first | refine AOps.v rfl rfl rfl rfl rfl (by simp only [evS, cond_tt, cond_ff, absV, depthV, Nat.reduceEqDiff, Nat.reduceLT, ↓reduceIte, Option.map_some, Option.bind_some, List.toList_toArray, op_box, Tryz.zero79, H.lay]; rfl) ?_ | refine AOps.s rfl rfl rfl ?_ | refine AOps.u rfl rfl rfl rfl (by simp only [evS, cond_tt, cond_ff, absV, depthV, Nat.reduceEqDiff, Nat.reduceLT, ↓reduceIte, Option.map_some, Option.bind_some, List.toList_toArray, op_box, Tryz.zero79, H.lay]; rfl) ?_)); refine AOps.nil ?_
  obtain ⟨O2, hO2⟩ : ∃ X, X = Tr.put (Tr.put h.objs h.next (some (.cells p.cells h.next))) (h.next + 1) (some (.cells [.int .i64 0, .int .i64 0] (h.next + 1))) := ⟨_, rfl⟩
  obtain ⟨F2, hF2⟩ : ∃ X, X = Tr.put (Tr.put h.fams h.next (some (h.next, h.next))) (h.next + 1) (some (h.next + 1, h.next + 1)) := ⟨_, rfl⟩
  rw [← hO2, ← hF2]
  have g0 : rowO O2 h.next = some p.cells := by unfold rowO; rw [hO2, put_other _ _ (by omega), put_same]; rfl
  have g1 : O2.get (h.next + 1) = some (.cells [.int .i64 0, .int .i64 0] (h.next + 1)) := by rw [hO2]; exact put_same _ _ _
  have g2 : F2.get (h.next + 1) = some (h.next + 1, h.next + 1) := by rw [hF2]; exact put_same _ _ _
  clear hO2 hF2
  (repeat refine AWp.seq ?_); change AWp _ _ _ _ _; refine AWp.region ?_; (repeat (first | refine AOps.v rfl rfl rfl rfl rfl (by simp only [evS, cond_tt, cond_ff, absV, depthV, Nat.reduceEqDiff, Nat.reduceLT, ↓reduceIte, Option.map_some, Option.bind_some, List.toList_toArray]; rfl) ?_ | refine AOps.s rfl rfl rfl ?_ | refine AOps.u rfl rfl rfl rfl (by simp only [evS, cond_tt, cond_ff, absV, depthV, Nat.reduceEqDiff, Nat.reduceLT, ↓reduceIte, Option.map_some, Option.bind_some, List.toList_toArray]; rfl) ?_))
  refine AOps.c rfl rfl rfl rfl rfl (by simp only [callOf_val, callW_fn, evS, cond_tt, cond_ff, absV, depthV, Nat.reduceEqDiff, Nat.reduceLT, ↓reduceIte, Option.map_some, Option.bind_some, List.toList_toArray]; rfl) rfl (Tryz.is12 _) ?_; rintro _ _ ⟨rfl, rfl⟩
  (repeat (first | refine AOps.v rfl rfl rfl rfl rfl (by simp only [evS, cond_tt, cond_ff, absV, depthV, Nat.reduceEqDiff, Nat.reduceLT, ↓reduceIte, Option.map_some, Option.bind_some, List.toList_toArray]; rfl) ?_ | refine AOps.s rfl rfl rfl ?_ | refine AOps.u rfl rfl rfl rfl (by simp only [evS, cond_tt, cond_ff, absV, depthV, Nat.reduceEqDiff, Nat.reduceLT, ↓reduceIte, Option.map_some, Option.bind_some, List.toList_toArray]; rfl) ?_))
  refine AOps.nil ?_
  (repeat refine AWp.seq ?_); change AWp _ _ _ _ _; refine AWp.no (by rfl) (by rfl) (AWp.skip ?_)
  (repeat refine AWp.seq ?_); change AWp _ _ _ _ _; refine AWp.region ?_; (repeat (first | refine AOps.v rfl rfl rfl rfl rfl (by simp only [evS, cond_tt, cond_ff, absV, depthV, Nat.reduceEqDiff, Nat.reduceLT, ↓reduceIte, Option.map_some, Option.bind_some, List.toList_toArray, d1, d2]; rfl) ?_ | refine AOps.s rfl rfl rfl ?_ | refine AOps.u rfl rfl rfl rfl (by simp only [evS, cond_tt, cond_ff, absV, depthV, Nat.reduceEqDiff, Nat.reduceLT, ↓reduceIte, Option.map_some, Option.bind_some, List.toList_toArray, d1, d2]; rfl) ?_)); refine AOps.nil ?_
  (repeat refine AWp.seq ?_); change AWp _ _ _ _ _; refine AWp.no (by rfl) (by rfl) (AWp.skip ?_)
  (repeat refine AWp.seq ?_); change AWp _ _ _ _ _; refine AWp.region ?_; (repeat (first | refine AOps.v rfl rfl rfl rfl rfl (by simp only [evS, cond_tt, cond_ff, absV, depthV, Nat.reduceEqDiff, Nat.reduceLT, ↓reduceIte, Option.map_some, Option.bind_some, List.toList_toArray]; rfl) ?_ | refine AOps.s rfl rfl rfl ?_ | refine AOps.u rfl rfl rfl rfl (by simp only [evS, cond_tt, cond_ff, absV, depthV, Nat.reduceEqDiff, Nat.reduceLT, ↓reduceIte, Option.map_some, Option.bind_some, List.toList_toArray]; rfl) ?_)); refine AOps.nil ?_
  (repeat refine AWp.seq ?_)
  refine AWp.block ?_
  (repeat refine AWp.seq ?_); change AWp _ _ _ _ _; refine AWp.region ?_; (repeat (first | refine AOps.v rfl rfl rfl rfl rfl (by simp only [evS, cond_tt, cond_ff, absV, depthV, Nat.reduceEqDiff, Nat.reduceLT, ↓reduceIte, Option.map_some, Option.bind_some, List.toList_toArray]; rfl) ?_ | refine AOps.s rfl rfl rfl ?_ | refine AOps.u rfl rfl rfl rfl (by simp only [evS, cond_tt, cond_ff, absV, depthV, Nat.reduceEqDiff, Nat.reduceLT, ↓reduceIte, Option.map_some, Option.bind_some, List.toList_toArray]; rfl) ?_)); refine AOps.nil ?_
  (repeat refine AWp.seq ?_); change AWp _ _ _ _ _; refine AWp.no (by rfl) (by rfl) ?_
  (repeat refine AWp.seq ?_); change AWp _ _ _ _ _; refine AWp.region ?_; (repeat (first | refine AOps.v rfl rfl rfl rfl rfl (by simp only [evS, cond_tt, cond_ff, absV, depthV, Nat.reduceEqDiff, Nat.reduceLT, ↓reduceIte, Option.map_some, Option.bind_some, List.toList_toArray]; rfl) ?_ | refine AOps.s rfl rfl rfl ?_ | refine AOps.u rfl rfl rfl rfl (by simp only [evS, cond_tt, cond_ff, absV, depthV, Nat.reduceEqDiff, Nat.reduceLT, ↓reduceIte, Option.map_some, Option.bind_some, List.toList_toArray]; rfl) ?_)); refine AOps.nil ?_
  (repeat refine AWp.seq ?_); change AWp _ _ _ _ _; refine AWp.no (by rfl) (by rfl) ?_
  (repeat refine AWp.seq ?_); change AWp _ _ _ _ _; refine AWp.region ?_; (repeat (first | refine AOps.v rfl rfl rfl rfl rfl (by simp only [evS, cond_tt, cond_ff, absV, depthV, Nat.reduceEqDiff, Nat.reduceLT, ↓reduceIte, Option.map_some, Option.bind_some, List.toList_toArray]; rfl) ?_ | refine AOps.s rfl rfl rfl ?_ | refine AOps.u rfl rfl rfl rfl (by simp only [evS, cond_tt, cond_ff, absV, depthV, Nat.reduceEqDiff, Nat.reduceLT, ↓reduceIte, Option.map_some, Option.bind_some, List.toList_toArray]; rfl) ?_)); refine AOps.nil ?_
  (repeat refine AWp.seq ?_); change AWp _ _ _ _ _; refine AWp.no (by rfl) (by rfl) (AWp.skip ?_)
  (try simp only [OutOf, Then, Round, NoGoto, if_true])
  (repeat refine AWp.seq ?_); change AWp _ _ _ _ _; refine AWp.region ?_; (repeat (first | refine AOps.v rfl rfl rfl rfl rfl (by simp only [evS, cond_tt, cond_ff, absV, depthV, Nat.reduceEqDiff, Nat.reduceLT, ↓reduceIte, Option.map_some, Option.bind_some, List.toList_toArray, Tryz.tw, H.lay, Nat.zero_add, Nat.add_zero, ↓reduceIte, List.getElem?_cons_zero, List.getElem?_cons_succ, g0, p4]; rfl) ?_ | refine AOps.s rfl rfl rfl ?_ | refine AOps.u rfl rfl rfl rfl (by simp only [evS, cond_tt, cond_ff, absV, depthV, Nat.reduceEqDiff, Nat.reduceLT, ↓reduceIte, Option.map_some, Option.bind_some, List.toList_toArray, Tryz.tw, H.lay, Nat.zero_add, Nat.add_zero, ↓reduceIte, List.getElem?_cons_zero, List.getElem?_cons_succ, g0, p4]; rfl) ?_)); refine AOps.nil ?_
  (repeat refine AWp.seq ?_); change AWp _ _ _ _ _; refine AWp.region ?_; (repeat (first | refine AOps.v rfl rfl rfl rfl rfl (by simp only [evS, cond_tt, cond_ff, absV, depthV, Nat.reduceEqDiff, Nat.reduceLT, ↓reduceIte, Option.map_some, Option.bind_some, List.toList_toArray]; rfl) ?_ | refine AOps.s rfl rfl rfl ?_ | refine AOps.u rfl rfl rfl rfl (by simp only [evS, cond_tt, cond_ff, absV, depthV, Nat.reduceEqDiff, Nat.reduceLT, ↓reduceIte, Option.map_some, Option.bind_some, List.toList_toArray]; rfl) ?_)); refine AOps.nil ?_
  (repeat refine AWp.seq ?_); change AWp _ _ _ _ _; refine AWp.no (by rfl) (by rfl) (AWp.skip ?_)
  (repeat refine AWp.seq ?_); change AWp _ _ _ _ _; refine AWp.region ?_; (repeat (first | refine AOps.v rfl rfl rfl rfl rfl (by simp only [evS, cond_tt, cond_ff, absV, depthV, Nat.reduceEqDiff, Nat.reduceLT, ↓reduceIte, Option.map_some, Option.bind_some, List.toList_toArray]; rfl) ?_ | refine AOps.s rfl rfl rfl ?_ | refine AOps.u rfl rfl rfl rfl (by simp only [evS, cond_tt, cond_ff, absV, depthV, Nat.reduceEqDiff, Nat.reduceLT, ↓reduceIte, Option.map_some, Option.bind_some, List.toList_toArray]; rfl) ?_)); refine AOps.nil ?_
  have hsub := bin_sub (P := Tryz.prog) (t := 3) (a := day) (b := 1000000000000) ⟨by omega, by omega⟩
  cases c1 : decide (p.made < day - 1000000000000)
  case true =>
    have c1' := of_decide_eq_true c1
    have hn : sinceN day p.made = 1000000000000 := by unfold sinceN; split <;> (try split) <;> omega
    rw [hn]
    (repeat refine AWp.seq ?_); change AWp _ _ _ _ _; refine AWp.region ?_; (repeat (first | refine AOps.v rfl rfl rfl rfl rfl (by simp only [evS, cond_tt, cond_ff, absV, depthV, Nat.reduceEqDiff, Nat.reduceLT, ↓reduceIte, Option.map_some, Option.bind_some, List.toList_toArray, hsub, c1]; rfl) ?_ | refine AOps.s rfl rfl rfl ?_ | refine AOps.u rfl rfl rfl rfl (by simp only [evS, cond_tt, cond_ff, absV, depthV, Nat.reduceEqDiff, Nat.reduceLT, ↓reduceIte, Option.map_some, Option.bind_some, List.toList_toArray, hsub, c1]; rfl) ?_)); refine AOps.nil ?_
    (repeat refine AWp.seq ?_); change AWp _ _ _ _ _; refine AWp.yes (by rfl) (by rfl) ?_
    (repeat refine AWp.seq ?_); change AWp _ _ _ _ _; refine AWp.region ?_; (repeat (first | refine AOps.v rfl rfl rfl rfl rfl (by simp only [evS, cond_tt, cond_ff, absV, depthV, Nat.reduceEqDiff, Nat.reduceLT, ↓reduceIte, Option.map_some, Option.bind_some, List.toList_toArray]; rfl) ?_ | refine AOps.s rfl rfl rfl ?_ | refine AOps.u rfl rfl rfl rfl (by simp only [evS, cond_tt, cond_ff, absV, depthV, Nat.reduceEqDiff, Nat.reduceLT, ↓reduceIte, Option.map_some, Option.bind_some, List.toList_toArray]; rfl) ?_)); refine AOps.nil ?_
    (repeat refine AWp.seq ?_)
    refine AWp.region ?_
    (repeat (first | refine AOps.v rfl rfl rfl rfl rfl (by simp only [evS, cond_tt, cond_ff, absV, depthV, Nat.reduceEqDiff, Nat.reduceLT, ↓reduceIte, Option.map_some, Option.bind_some, List.toList_toArray, op_build, partsA_cons, partsA_nil, Tryz.build39z]; rfl) ?_ | refine AOps.s rfl rfl rfl ?_ | refine AOps.u rfl rfl rfl rfl (by simp only [evS, cond_tt, cond_ff, absV, depthV, Nat.reduceEqDiff, Nat.reduceLT, ↓reduceIte, Option.map_some, Option.bind_some, List.toList_toArray, op_build, partsA_cons, partsA_nil, Tryz.build39z]; rfl) ?_))
    refine AOps.st rfl rfl rfl (by simp only [evS, cond_tt, cond_ff, absV, depthV, Nat.reduceEqDiff, Nat.reduceLT, ↓reduceIte, Option.map_some, Option.bind_some, List.toList_toArray]; rfl) (by simp only [evS, cond_tt, cond_ff, absV, depthV, Nat.reduceEqDiff, Nat.reduceLT, ↓reduceIte, Option.map_some, Option.bind_some, List.toList_toArray]; rfl) (by exact Tryz.size79) g1 g2 (by rfl) (by rfl) (cs' := [.int .i64 (1000000000000), .int .i64 (1000000000000)]) (by rfl) (minN_left (show h.next ≤ h.next + 1 by omega)) ?_
    (repeat (first | refine AOps.v rfl rfl rfl rfl rfl (by simp only [evS, cond_tt, cond_ff, absV, depthV, Nat.reduceEqDiff, Nat.reduceLT, ↓reduceIte, Option.map_some, Option.bind_some, List.toList_toArray]; rfl) ?_ | refine AOps.s rfl rfl rfl ?_ | refine AOps.u rfl rfl rfl rfl (by simp only [evS, cond_tt, cond_ff, absV, depthV, Nat.reduceEqDiff, Nat.reduceLT, ↓reduceIte, Option.map_some, Option.bind_some, List.toList_toArray]; rfl) ?_))
    refine AOps.nil ?_
    refine AWp.ret ?_
    (try simp only [OutOf, Then, Round, NoGoto])
    have hR : rowO (Tr.put O2 (h.next + 1) (some (.cells [.int .i64 (1000000000000), .int .i64 (1000000000000)] (h.next + 1)))) (h.next + 1) = some [.int .i64 (1000000000000), .int .i64 (1000000000000)] := by rw [rowO_put, if_pos rfl]; rfl
    refine leaves_plain (v := .tup [.agg [.int .i64 (1000000000000), .int .i64 (1000000000000)], .int .i64 0]) (by rfl) ?_ (fun _ => rfl) (by rfl) ⟨rfl, rfl⟩
    show resultsA _ _ _ [ResultVar.cell 6 79, ResultVar.tmp 7] = _
    simp only [resultsA, List.mapM_cons, List.mapM_nil, evS, cond_tt, cond_ff, absV, depthV, Nat.reduceEqDiff, Nat.reduceLT, ↓reduceIte, Option.map_some, Option.bind_some, List.toList_toArray, Tryz.tw, H.lay, Nat.zero_add, Nat.add_zero, ↓reduceIte, List.getElem?_cons_zero, List.getElem?_cons_succ, hR, hch]
    rfl
  have c1' := of_decide_eq_false c1
  cases c2 : decide (p.made < day)
  case false =>
    have c2' := of_decide_eq_false c2
    have hn : sinceN day p.made = 0 := by unfold sinceN; split <;> (try split) <;> omega
    rw [hn]
    (repeat refine AWp.seq ?_); change AWp _ _ _ _ _; refine AWp.region ?_; (repeat (first | refine AOps.v rfl rfl rfl rfl rfl (by simp only [evS, cond_tt, cond_ff, absV, depthV, Nat.reduceEqDiff, Nat.reduceLT, ↓reduceIte, Option.map_some, Option.bind_some, List.toList_toArray, hsub, c1]; rfl) ?_ | refine AOps.s rfl rfl rfl ?_ | refine AOps.u rfl rfl rfl rfl (by simp only [evS, cond_tt, cond_ff, absV, depthV, Nat.reduceEqDiff, Nat.reduceLT, ↓reduceIte, Option.map_some, Option.bind_some, List.toList_toArray, hsub, c1]; rfl) ?_)); refine AOps.nil ?_
    (repeat refine AWp.seq ?_); change AWp _ _ _ _ _; refine AWp.no (by rfl) (by rfl) ?_
    (repeat refine AWp.seq ?_); change AWp _ _ _ _ _; refine AWp.region ?_; (repeat (first | refine AOps.v rfl rfl rfl rfl rfl (by simp only [evS, cond_tt, cond_ff, absV, depthV, Nat.reduceEqDiff, Nat.reduceLT, ↓reduceIte, Option.map_some, Option.bind_some, List.toList_toArray, c2]; rfl) ?_ | refine AOps.s rfl rfl rfl ?_ | refine AOps.u rfl rfl rfl rfl (by simp only [evS, cond_tt, cond_ff, absV, depthV, Nat.reduceEqDiff, Nat.reduceLT, ↓reduceIte, Option.map_some, Option.bind_some, List.toList_toArray, c2]; rfl) ?_)); refine AOps.nil ?_
    (repeat refine AWp.seq ?_); change AWp _ _ _ _ _; refine AWp.no (by rfl) (by rfl) (AWp.skip ?_)
    (repeat refine AWp.seq ?_)
    refine AWp.region ?_
    (repeat (first | refine AOps.v rfl rfl rfl rfl rfl (by simp only [evS, cond_tt, cond_ff, absV, depthV, Nat.reduceEqDiff, Nat.reduceLT, ↓reduceIte, Option.map_some, Option.bind_some, List.toList_toArray, op_build, partsA_cons, partsA_nil, Tryz.build39z]; rfl) ?_ | refine AOps.s rfl rfl rfl ?_ | refine AOps.u rfl rfl rfl rfl (by simp only [evS, cond_tt, cond_ff, absV, depthV, Nat.reduceEqDiff, Nat.reduceLT, ↓reduceIte, Option.map_some, Option.bind_some, List.toList_toArray, op_build, partsA_cons, partsA_nil, Tryz.build39z]; rfl) ?_))
    refine AOps.st rfl rfl rfl (by simp only [evS, cond_tt, cond_ff, absV, depthV, Nat.reduceEqDiff, Nat.reduceLT, ↓reduceIte, Option.map_some, Option.bind_some, List.toList_toArray]; rfl) (by simp only [evS, cond_tt, cond_ff, absV, depthV, Nat.reduceEqDiff, Nat.reduceLT, ↓reduceIte, Option.map_some, Option.bind_some, List.toList_toArray]; rfl) (by exact Tryz.size79) g1 g2 (by rfl) (by rfl) (cs' := [.int .i64 (0), .int .i64 (0)]) (by rfl) (minN_left (show h.next ≤ h.next + 1 by omega)) ?_
    (repeat (first | refine AOps.v rfl rfl rfl rfl rfl (by simp only [evS, cond_tt, cond_ff, absV, depthV, Nat.reduceEqDiff, Nat.reduceLT, ↓reduceIte, Option.map_some, Option.bind_some, List.toList_toArray]; rfl) ?_ | refine AOps.s rfl rfl rfl ?_ | refine AOps.u rfl rfl rfl rfl (by simp only [evS, cond_tt, cond_ff, absV, depthV, Nat.reduceEqDiff, Nat.reduceLT, ↓reduceIte, Option.map_some, Option.bind_some, List.toList_toArray]; rfl) ?_))
    refine AOps.nil ?_
    refine AWp.ret ?_
    (try simp only [OutOf, Then, Round, NoGoto])
    have hR : rowO (Tr.put O2 (h.next + 1) (some (.cells [.int .i64 (0), .int .i64 (0)] (h.next + 1)))) (h.next + 1) = some [.int .i64 (0), .int .i64 (0)] := by rw [rowO_put, if_pos rfl]; rfl
    refine leaves_plain (v := .tup [.agg [.int .i64 (0), .int .i64 (0)], .int .i64 0]) (by rfl) ?_ (fun _ => rfl) (by rfl) ⟨rfl, rfl⟩
    show resultsA _ _ _ [ResultVar.cell 6 79, ResultVar.tmp 7] = _
    simp only [resultsA, List.mapM_cons, List.mapM_nil, evS, cond_tt, cond_ff, absV, depthV, Nat.reduceEqDiff, Nat.reduceLT, ↓reduceIte, Option.map_some, Option.bind_some, List.toList_toArray, Tryz.tw, H.lay, Nat.zero_add, Nat.add_zero, ↓reduceIte, List.getElem?_cons_zero, List.getElem?_cons_succ, hR, hch]
    rfl
  have c2' := of_decide_eq_true c2
  have hn : sinceN day p.made = day - p.made := by unfold sinceN; split <;> (try split) <;> omega
  rw [hn]
  have hsub2 := bin_sub (P := Tryz.prog) (t := 3) (a := day) (b := p.made) ⟨by omega, by omega⟩
  (repeat refine AWp.seq ?_); change AWp _ _ _ _ _; refine AWp.region ?_; (repeat (first | refine AOps.v rfl rfl rfl rfl rfl (by simp only [evS, cond_tt, cond_ff, absV, depthV, Nat.reduceEqDiff, Nat.reduceLT, ↓reduceIte, Option.map_some, Option.bind_some, List.toList_toArray, hsub, c1]; rfl) ?_ | refine AOps.s rfl rfl rfl ?_ | refine AOps.u rfl rfl rfl rfl (by simp only [evS, cond_tt, cond_ff, absV, depthV, Nat.reduceEqDiff, Nat.reduceLT, ↓reduceIte, Option.map_some, Option.bind_some, List.toList_toArray, hsub, c1]; rfl) ?_)); refine AOps.nil ?_
  (repeat refine AWp.seq ?_); change AWp _ _ _ _ _; refine AWp.no (by rfl) (by rfl) ?_
  (repeat refine AWp.seq ?_); change AWp _ _ _ _ _; refine AWp.region ?_; (repeat (first | refine AOps.v rfl rfl rfl rfl rfl (by simp only [evS, cond_tt, cond_ff, absV, depthV, Nat.reduceEqDiff, Nat.reduceLT, ↓reduceIte, Option.map_some, Option.bind_some, List.toList_toArray, c2]; rfl) ?_ | refine AOps.s rfl rfl rfl ?_ | refine AOps.u rfl rfl rfl rfl (by simp only [evS, cond_tt, cond_ff, absV, depthV, Nat.reduceEqDiff, Nat.reduceLT, ↓reduceIte, Option.map_some, Option.bind_some, List.toList_toArray, c2]; rfl) ?_)); refine AOps.nil ?_
  (repeat refine AWp.seq ?_); change AWp _ _ _ _ _; refine AWp.yes (by rfl) (by rfl) ?_
  (repeat refine AWp.seq ?_); change AWp _ _ _ _ _; refine AWp.region ?_; (repeat (first | refine AOps.v rfl rfl rfl rfl rfl (by simp only [evS, cond_tt, cond_ff, absV, depthV, Nat.reduceEqDiff, Nat.reduceLT, ↓reduceIte, Option.map_some, Option.bind_some, List.toList_toArray, hsub2]; rfl) ?_ | refine AOps.s rfl rfl rfl ?_ | refine AOps.u rfl rfl rfl rfl (by simp only [evS, cond_tt, cond_ff, absV, depthV, Nat.reduceEqDiff, Nat.reduceLT, ↓reduceIte, Option.map_some, Option.bind_some, List.toList_toArray, hsub2]; rfl) ?_)); refine AOps.nil ?_
  (repeat refine AWp.seq ?_)
  refine AWp.region ?_
  (repeat (first | refine AOps.v rfl rfl rfl rfl rfl (by simp only [evS, cond_tt, cond_ff, absV, depthV, Nat.reduceEqDiff, Nat.reduceLT, ↓reduceIte, Option.map_some, Option.bind_some, List.toList_toArray, op_build, partsA_cons, partsA_nil, Tryz.build39z]; rfl) ?_ | refine AOps.s rfl rfl rfl ?_ | refine AOps.u rfl rfl rfl rfl (by simp only [evS, cond_tt, cond_ff, absV, depthV, Nat.reduceEqDiff, Nat.reduceLT, ↓reduceIte, Option.map_some, Option.bind_some, List.toList_toArray, op_build, partsA_cons, partsA_nil, Tryz.build39z]; rfl) ?_))
  refine AOps.st rfl rfl rfl (by simp only [evS, cond_tt, cond_ff, absV, depthV, Nat.reduceEqDiff, Nat.reduceLT, ↓reduceIte, Option.map_some, Option.bind_some, List.toList_toArray]; rfl) (by simp only [evS, cond_tt, cond_ff, absV, depthV, Nat.reduceEqDiff, Nat.reduceLT, ↓reduceIte, Option.map_some, Option.bind_some, List.toList_toArray]; rfl) (by exact Tryz.size79) g1 g2 (by rfl) (by rfl) (cs' := [.int .i64 (day - p.made), .int .i64 (day - p.made)]) (by rfl) (minN_left (show h.next ≤ h.next + 1 by omega)) ?_
  (repeat (first | refine AOps.v rfl rfl rfl rfl rfl (by simp only [evS, cond_tt, cond_ff, absV, depthV, Nat.reduceEqDiff, Nat.reduceLT, ↓reduceIte, Option.map_some, Option.bind_some, List.toList_toArray]; rfl) ?_ | refine AOps.s rfl rfl rfl ?_ | refine AOps.u rfl rfl rfl rfl (by simp only [evS, cond_tt, cond_ff, absV, depthV, Nat.reduceEqDiff, Nat.reduceLT, ↓reduceIte, Option.map_some, Option.bind_some, List.toList_toArray]; rfl) ?_))
  refine AOps.nil ?_
  refine AWp.ret ?_
  (try simp only [OutOf, Then, Round, NoGoto])
  have hR : rowO (Tr.put O2 (h.next + 1) (some (.cells [.int .i64 (day - p.made), .int .i64 (day - p.made)] (h.next + 1)))) (h.next + 1) = some [.int .i64 (day - p.made), .int .i64 (day - p.made)] := by rw [rowO_put, if_pos rfl]; rfl
  refine leaves_plain (v := .tup [.agg [.int .i64 (day - p.made), .int .i64 (day - p.made)], .int .i64 0]) (by rfl) ?_ (fun _ => rfl) (by rfl) ⟨rfl, rfl⟩
  show resultsA _ _ _ [ResultVar.cell 6 79, ResultVar.tmp 7] = _
  simp only [resultsA, List.mapM_cons, List.mapM_nil, evS, cond_tt, cond_ff, absV, depthV, Nat.reduceEqDiff, Nat.reduceLT, ↓reduceIte, Option.map_some, Option.bind_some, List.toList_toArray, Tryz.tw, H.lay, Nat.zero_add, Nat.add_zero, ↓reduceIte, List.getElem?_cons_zero, List.getElem?_cons_succ, hR, hch]
  rfl

set_option maxHeartbeats 2000000 in
theorem Tryz.covers43 (w : Wy) (p : Pt) (c : Co) (hd : 0 ≤ c.day ∧ c.day ≤ 40000) (h : H) :
    ACalls Tryz.prog (.func 76) [.agg w.cells, .agg p.cells, .agg c.cells] h (fun v h' => v = .bool (coversB p c w) ∧ h' = h) := by
  refine ACalls.body (n := 37) Tryz.nogo Tryz.func76 rfl rfl ?_
  rw [argF3]
  have hp14 := pt_chunk p
  have q2 : c.cells[2]? = some (.int .i64 c.day) := rfl
  have w0 : w.cells[0]? = some (.str w.kind) := rfl
  have w2 : w.cells[2]? = some (.int .i64 w.days) := rfl
  have w3 : w.cells[3]? = some (.int .i64 w.km) := rfl
  have p1 := pt_kind p
  have p9 := pt_kmh p
  (repeat refine AWp.seq ?_); change AWp _ _ _ _ _; refine AWp.region ?_; (repeat (first | refine AOps.v rfl rfl rfl rfl rfl (by simp only [evS, cond_tt, cond_ff, absV, depthV, Nat.reduceEqDiff, Nat.reduceLT, ↓reduceIte, Option.map_some, Option.bind_some, List.toList_toArray, op_box, H.lay]; rfl) ?_ | refine AOps.s rfl rfl rfl ?_ | refine AOps.u rfl rfl rfl rfl (by simp only [evS, cond_tt, cond_ff, absV, depthV, Nat.reduceEqDiff, Nat.reduceLT, ↓reduceIte, Option.map_some, Option.bind_some, List.toList_toArray, op_box, H.lay]; rfl) ?_)); refine AOps.nil ?_
  obtain ⟨O2, hO2⟩ : ∃ X, X = Tr.put (Tr.put (Tr.put h.objs h.next (some (.cells w.cells h.next))) (h.next + 1) (some (.cells p.cells (h.next + 1)))) (h.next + 1 + 1) (some (.cells c.cells (h.next + 1 + 1))) := ⟨_, rfl⟩
  obtain ⟨F2, hF2⟩ : ∃ X, X = Tr.put (Tr.put (Tr.put h.fams h.next (some (h.next, h.next))) (h.next + 1) (some (h.next + 1, h.next + 1))) (h.next + 1 + 1) (some (h.next + 1 + 1, h.next + 1 + 1)) := ⟨_, rfl⟩
  rw [← hO2, ← hF2]
  have g0 : rowO O2 h.next = some w.cells := by unfold rowO; rw [hO2, put_other _ _ (by omega), put_other _ _ (by omega), put_same]; rfl
  have g1 : rowO O2 (h.next + 1) = some p.cells := by unfold rowO; rw [hO2, put_other _ _ (by omega), put_same]; rfl
  have g2 : rowO O2 (h.next + 1 + 1) = some c.cells := by unfold rowO; rw [hO2, put_same]; rfl
  clear hO2 hF2
  (repeat refine AWp.seq ?_); change AWp _ _ _ _ _; refine AWp.region ?_; (repeat (first | refine AOps.v rfl rfl rfl rfl rfl (by simp only [evS, cond_tt, cond_ff, absV, depthV, Nat.reduceEqDiff, Nat.reduceLT, ↓reduceIte, Option.map_some, Option.bind_some, List.toList_toArray, Tryz.tw, H.lay, Nat.zero_add, Nat.add_zero, ↓reduceIte, List.getElem?_cons_zero, List.getElem?_cons_succ, g1, g2, hp14, q2]; rfl) ?_ | refine AOps.s rfl rfl rfl ?_ | refine AOps.u rfl rfl rfl rfl (by simp only [evS, cond_tt, cond_ff, absV, depthV, Nat.reduceEqDiff, Nat.reduceLT, ↓reduceIte, Option.map_some, Option.bind_some, List.toList_toArray, Tryz.tw, H.lay, Nat.zero_add, Nat.add_zero, ↓reduceIte, List.getElem?_cons_zero, List.getElem?_cons_succ, g1, g2, hp14, q2]; rfl) ?_))
  refine AOps.c rfl rfl rfl rfl rfl (by simp only [callOf_val, callW_fn, evS, cond_tt, cond_ff, absV, depthV, Nat.reduceEqDiff, Nat.reduceLT, ↓reduceIte, Option.map_some, Option.bind_some, List.toList_toArray]; rfl) rfl (Tryz.value12 p c.day hd _) ?_; rintro _ _ ⟨rfl, rfl⟩
  (repeat (first | refine AOps.v rfl rfl rfl rfl rfl (by simp only [evS, cond_tt, cond_ff, absV, depthV, Nat.reduceEqDiff, Nat.reduceLT, ↓reduceIte, Option.map_some, Option.bind_some, List.toList_toArray, Tryz.zero79, H.lay]; rfl) ?_ | refine AOps.s rfl rfl rfl ?_ | refine AOps.u rfl rfl rfl rfl (by simp only [evS, cond_tt, cond_ff, absV, depthV, Nat.reduceEqDiff, Nat.reduceLT, ↓reduceIte, Option.map_some, Option.bind_some, List.toList_toArray, Tryz.zero79, H.lay]; rfl) ?_))
  refine AOps.st rfl rfl rfl (by simp only [evS, cond_tt, cond_ff, absV, depthV, Nat.reduceEqDiff, Nat.reduceLT, ↓reduceIte, Option.map_some, Option.bind_some, List.toList_toArray]; rfl) (by simp only [evS, cond_tt, cond_ff, absV, depthV, Nat.reduceEqDiff, Nat.reduceLT, ↓reduceIte, Option.map_some, Option.bind_some, List.toList_toArray]; rfl) (by exact Tryz.size79) (by simp only [put_get]; rfl) (by simp only [put_get]; rfl) (by rfl) (by rfl) (cs' := [.int .i64 (sinceN c.day p.made), .int .i64 (sinceN c.day p.made)]) (by rfl) (minN_left (show h.next ≤ h.next + 1 + 1 + 1 by omega)) ?_
  (repeat (first | refine AOps.v rfl rfl rfl rfl rfl (by simp only [evS, cond_tt, cond_ff, absV, depthV, Nat.reduceEqDiff, Nat.reduceLT, ↓reduceIte, Option.map_some, Option.bind_some, List.toList_toArray]; rfl) ?_ | refine AOps.s rfl rfl rfl ?_ | refine AOps.u rfl rfl rfl rfl (by simp only [evS, cond_tt, cond_ff, absV, depthV, Nat.reduceEqDiff, Nat.reduceLT, ↓reduceIte, Option.map_some, Option.bind_some, List.toList_toArray]; rfl) ?_))
  refine AOps.nil ?_
  obtain ⟨O3, hO3⟩ : ∃ X, X = Tr.put (Tr.put O2 (h.next + 1 + 1 + 1) (some (.cells [.int .i64 0, .int .i64 0] (h.next + 1 + 1 + 1)))) (h.next + 1 + 1 + 1) (some (.cells [.int .i64 (sinceN c.day p.made), .int .i64 (sinceN c.day p.made)] (h.next + 1 + 1 + 1))) := ⟨_, rfl⟩
  rw [← hO3]
  have k3 : rowO O3 (h.next + 1 + 1 + 1) = some [.int .i64 (sinceN c.day p.made), .int .i64 (sinceN c.day p.made)] := by unfold rowO; rw [hO3, put_same]; rfl
  have k0 : rowO O3 h.next = some w.cells := rowO_of g0 (by rw [hO3, put_other _ _ (by omega), put_other _ _ (by omega)])
  have k1 : rowO O3 (h.next + 1) = some p.cells := rowO_of g1 (by rw [hO3, put_other _ _ (by omega), put_other _ _ (by omega)])
  unfold coversB
  cases e1 : decide (w.kind = p.kind)
  · (repeat refine AWp.seq ?_); change AWp _ _ _ _ _; refine AWp.region ?_; (repeat (first | refine AOps.v rfl rfl rfl rfl rfl (by simp only [evS, cond_tt, cond_ff, absV, depthV, Nat.reduceEqDiff, Nat.reduceLT, ↓reduceIte, Option.map_some, Option.bind_some, List.toList_toArray, Tryz.tw, H.lay, Nat.zero_add, Nat.add_zero, ↓reduceIte, List.getElem?_cons_zero, List.getElem?_cons_succ, k0, k1, k3, w0, w2, w3, p1, p9, e1]; rfl) ?_ | refine AOps.s rfl rfl rfl ?_ | refine AOps.u rfl rfl rfl rfl (by simp only [evS, cond_tt, cond_ff, absV, depthV, Nat.reduceEqDiff, Nat.reduceLT, ↓reduceIte, Option.map_some, Option.bind_some, List.toList_toArray, Tryz.tw, H.lay, Nat.zero_add, Nat.add_zero, ↓reduceIte, List.getElem?_cons_zero, List.getElem?_cons_succ, k0, k1, k3, w0, w2, w3, p1, p9, e1]; rfl) ?_)); refine AOps.nil ?_
    refine AWp.ret ?_
    (try simp only [OutOf, Then, Round, NoGoto]); refine leaves_plain (by rfl) (by rfl) (fun _ => rfl) (by rfl) ⟨?_, rfl⟩; rfl
  cases e2 : decide (sinceN c.day p.made ≤ w.days)
  · (repeat refine AWp.seq ?_); change AWp _ _ _ _ _; refine AWp.region ?_; (repeat (first | refine AOps.v rfl rfl rfl rfl rfl (by simp only [evS, cond_tt, cond_ff, absV, depthV, Nat.reduceEqDiff, Nat.reduceLT, ↓reduceIte, Option.map_some, Option.bind_some, List.toList_toArray, Tryz.tw, H.lay, Nat.zero_add, Nat.add_zero, ↓reduceIte, List.getElem?_cons_zero, List.getElem?_cons_succ, k0, k1, k3, w0, w2, w3, p1, p9, e1, e2]; rfl) ?_ | refine AOps.s rfl rfl rfl ?_ | refine AOps.u rfl rfl rfl rfl (by simp only [evS, cond_tt, cond_ff, absV, depthV, Nat.reduceEqDiff, Nat.reduceLT, ↓reduceIte, Option.map_some, Option.bind_some, List.toList_toArray, Tryz.tw, H.lay, Nat.zero_add, Nat.add_zero, ↓reduceIte, List.getElem?_cons_zero, List.getElem?_cons_succ, k0, k1, k3, w0, w2, w3, p1, p9, e1, e2]; rfl) ?_)); refine AOps.nil ?_
    refine AWp.ret ?_
    (try simp only [OutOf, Then, Round, NoGoto]); refine leaves_plain (by rfl) (by rfl) (fun _ => rfl) (by rfl) ⟨?_, rfl⟩; rfl
  cases e3 : decide (p.kmh ≤ w.km)
  all_goals
    (repeat refine AWp.seq ?_); change AWp _ _ _ _ _; refine AWp.region ?_; (repeat (first | refine AOps.v rfl rfl rfl rfl rfl (by simp only [evS, cond_tt, cond_ff, absV, depthV, Nat.reduceEqDiff, Nat.reduceLT, ↓reduceIte, Option.map_some, Option.bind_some, List.toList_toArray, Tryz.tw, H.lay, Nat.zero_add, Nat.add_zero, ↓reduceIte, List.getElem?_cons_zero, List.getElem?_cons_succ, k0, k1, k3, w0, w2, w3, p1, p9, e1, e2, e3]; rfl) ?_ | refine AOps.s rfl rfl rfl ?_ | refine AOps.u rfl rfl rfl rfl (by simp only [evS, cond_tt, cond_ff, absV, depthV, Nat.reduceEqDiff, Nat.reduceLT, ↓reduceIte, Option.map_some, Option.bind_some, List.toList_toArray, Tryz.tw, H.lay, Nat.zero_add, Nat.add_zero, ↓reduceIte, List.getElem?_cons_zero, List.getElem?_cons_succ, k0, k1, k3, w0, w2, w3, p1, p9, e1, e2, e3]; rfl) ?_)); refine AOps.nil ?_
    refine AWp.ret ?_
    (try simp only [OutOf, Then, Round, NoGoto]); refine leaves_plain (by rfl) (by rfl) (fun _ => rfl) (by rfl) ⟨?_, rfl⟩; rfl

end Go.Proofs

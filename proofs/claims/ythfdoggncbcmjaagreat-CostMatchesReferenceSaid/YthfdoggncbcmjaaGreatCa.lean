/- Seat r1: facts on types and small functions of chapter 43. No conditions beyond those that each theorem states. -/
import Derived.Test.YthfdoggncbcmjaaGreatBa
import Derived.Test.YthfdoggncbcmjaaGreatGh
import Derived.Test.YthfdoggncbcmjaaGreatBb
import Derived.Test.YthfdoggncbcmjaaGreatGg

set_option linter.unusedSimpArgs false
set_option linter.unusedVariables false
set_option linter.unusedSectionVars false

namespace Go.Proofs
open Go.Ev
set_option maxRecDepth 100000
theorem Tryz.agg22 : isAggA Tryz.prog 22 = some false := by kernel_rfl
theorem Tryz.size22 : sizeA Tryz.prog 22 = some 1 := by kernel_rfl
theorem Tryz.agg59 : isAggA Tryz.prog 59 = some true := by kernel_rfl
theorem Tryz.size59 : sizeA Tryz.prog 59 = some 5 := by kernel_rfl
theorem Tryz.fa59_0 (id off : Nat) : fieldAddrA Tryz.prog 59 (.ptr (some (id, off))) 0 = some (.ptr (some (id, off))) := by kernel_rfl
theorem Tryz.fa59_1 (id off : Nat) : fieldAddrA Tryz.prog 59 (.ptr (some (id, off))) 1 = some (.ptr (some (id, off + 1))) := by kernel_rfl
theorem Tryz.fa59_2 (id off : Nat) : fieldAddrA Tryz.prog 59 (.ptr (some (id, off))) 2 = some (.ptr (some (id, off + 2))) := by kernel_rfl
theorem Tryz.fa59_3 (id off : Nat) : fieldAddrA Tryz.prog 59 (.ptr (some (id, off))) 3 = some (.ptr (some (id, off + 3))) := by kernel_rfl
theorem Tryz.fa59_4 (id off : Nat) : fieldAddrA Tryz.prog 59 (.ptr (some (id, off))) 4 = some (.ptr (some (id, off + 4))) := by kernel_rfl
theorem Tryz.agg25 : isAggA Tryz.prog 25 = some true := by kernel_rfl
theorem Tryz.size25 : sizeA Tryz.prog 25 = some 1 := by kernel_rfl
theorem Tryz.fa25_0 (id off : Nat) : fieldAddrA Tryz.prog 25 (.ptr (some (id, off))) 0 = some (.ptr (some (id, off))) := by kernel_rfl
theorem Tryz.agg23 : isAggA Tryz.prog 23 = some false := by kernel_rfl
theorem Tryz.size23 : sizeA Tryz.prog 23 = some 1 := by kernel_rfl
theorem Tryz.agg90 : isAggA Tryz.prog 90 = some true := by kernel_rfl
theorem Tryz.size90 : sizeA Tryz.prog 90 = some 14 := by kernel_rfl
theorem Tryz.fa90_0 (id off : Nat) : fieldAddrA Tryz.prog 90 (.ptr (some (id, off))) 0 = some (.ptr (some (id, off))) := by kernel_rfl
theorem Tryz.fa90_1 (id off : Nat) : fieldAddrA Tryz.prog 90 (.ptr (some (id, off))) 1 = some (.ptr (some (id, off + 1))) := by kernel_rfl
theorem Tryz.fa90_2 (id off : Nat) : fieldAddrA Tryz.prog 90 (.ptr (some (id, off))) 2 = some (.ptr (some (id, off + 2))) := by kernel_rfl
theorem Tryz.fa90_3 (id off : Nat) : fieldAddrA Tryz.prog 90 (.ptr (some (id, off))) 3 = some (.ptr (some (id, off + 3))) := by kernel_rfl
theorem Tryz.fa90_4 (id off : Nat) : fieldAddrA Tryz.prog 90 (.ptr (some (id, off))) 4 = some (.ptr (some (id, off + 4))) := by kernel_rfl
theorem Tryz.fa90_5 (id off : Nat) : fieldAddrA Tryz.prog 90 (.ptr (some (id, off))) 5 = some (.ptr (some (id, off + 5))) := by kernel_rfl
theorem Tryz.fa90_6 (id off : Nat) : fieldAddrA Tryz.prog 90 (.ptr (some (id, off))) 6 = some (.ptr (some (id, off + 6))) := by kernel_rfl
theorem Tryz.fa90_7 (id off : Nat) : fieldAddrA Tryz.prog 90 (.ptr (some (id, off))) 7 = some (.ptr (some (id, off + 7))) := by kernel_rfl
theorem Tryz.fa90_8 (id off : Nat) : fieldAddrA Tryz.prog 90 (.ptr (some (id, off))) 8 = some (.ptr (some (id, off + 8))) := by kernel_rfl
theorem Tryz.agg27 : isAggA Tryz.prog 27 = some true := by kernel_rfl
theorem Tryz.size27 : sizeA Tryz.prog 27 = some 4 := by kernel_rfl
theorem Tryz.fa27_0 (id off : Nat) : fieldAddrA Tryz.prog 27 (.ptr (some (id, off))) 0 = some (.ptr (some (id, off))) := by kernel_rfl
theorem Tryz.fa27_1 (id off : Nat) : fieldAddrA Tryz.prog 27 (.ptr (some (id, off))) 1 = some (.ptr (some (id, off + 1))) := by kernel_rfl
theorem Tryz.fa27_2 (id off : Nat) : fieldAddrA Tryz.prog 27 (.ptr (some (id, off))) 2 = some (.ptr (some (id, off + 2))) := by kernel_rfl
theorem Tryz.fa27_3 (id off : Nat) : fieldAddrA Tryz.prog 27 (.ptr (some (id, off))) 3 = some (.ptr (some (id, off + 3))) := by kernel_rfl
theorem Tryz.agg79 : isAggA Tryz.prog 79 = some true := by kernel_rfl
theorem Tryz.size79 : sizeA Tryz.prog 79 = some 2 := by kernel_rfl
theorem Tryz.fa79_0 (id off : Nat) : fieldAddrA Tryz.prog 79 (.ptr (some (id, off))) 0 = some (.ptr (some (id, off))) := by kernel_rfl
theorem Tryz.fa79_1 (id off : Nat) : fieldAddrA Tryz.prog 79 (.ptr (some (id, off))) 1 = some (.ptr (some (id, off + 1))) := by kernel_rfl
theorem Tryz.agg88 : isAggA Tryz.prog 88 = some true := by kernel_rfl
theorem Tryz.size88 : sizeA Tryz.prog 88 = some 6 := by kernel_rfl
theorem Tryz.fa88_0 (id off : Nat) : fieldAddrA Tryz.prog 88 (.ptr (some (id, off))) 0 = some (.ptr (some (id, off))) := by kernel_rfl
theorem Tryz.fa88_1 (id off : Nat) : fieldAddrA Tryz.prog 88 (.ptr (some (id, off))) 1 = some (.ptr (some (id, off + 2))) := by kernel_rfl
theorem Tryz.fa88_2 (id off : Nat) : fieldAddrA Tryz.prog 88 (.ptr (some (id, off))) 2 = some (.ptr (some (id, off + 4))) := by kernel_rfl
theorem Tryz.agg86 : isAggA Tryz.prog 86 = some false := by kernel_rfl
theorem Tryz.size86 : sizeA Tryz.prog 86 = some 1 := by kernel_rfl
theorem Tryz.agg92 : isAggA Tryz.prog 92 = some true := by kernel_rfl
theorem Tryz.size92 : sizeA Tryz.prog 92 = some 2 := by kernel_rfl
theorem Tryz.fa92_0 (id off : Nat) : fieldAddrA Tryz.prog 92 (.ptr (some (id, off))) 0 = some (.ptr (some (id, off))) := by kernel_rfl
theorem Tryz.fa92_1 (id off : Nat) : fieldAddrA Tryz.prog 92 (.ptr (some (id, off))) 1 = some (.ptr (some (id, off + 1))) := by kernel_rfl
theorem Tryz.agg57 : isAggA Tryz.prog 57 = some false := by kernel_rfl
theorem Tryz.size57 : sizeA Tryz.prog 57 = some 1 := by kernel_rfl
theorem Tryz.agg94 : isAggA Tryz.prog 94 = some false := by kernel_rfl
theorem Tryz.size94 : sizeA Tryz.prog 94 = some 1 := by kernel_rfl
theorem Tryz.agg199 : isAggA Tryz.prog 199 = some false := by kernel_rfl
theorem Tryz.size199 : sizeA Tryz.prog 199 = some 1 := by kernel_rfl
theorem Tryz.agg257 : isAggA Tryz.prog 257 = some false := by kernel_rfl
theorem Tryz.size257 : sizeA Tryz.prog 257 = some 1 := by kernel_rfl
theorem Tryz.agg32 : isAggA Tryz.prog 32 = some false := by kernel_rfl
theorem Tryz.size32 : sizeA Tryz.prog 32 = some 1 := by kernel_rfl

/-- A warranty, a part, a cost. -/
structure Wy where
  kind : List Nat
  maker : List Nat
  days : Int
  km : Int
  pct : Int
def Wy.cells (w : Wy) : List AV := [.str w.kind, .str w.maker, .int .i64 w.days, .int .i64 w.km, .int .i64 w.pct]
structure Pt where
  name : List Nat
  kind : List Nat
  into : List Nat
  slot : List Nat
  made : Int
  since : Int
  scr : Bool
  props : AV
  kml : Int
  kmh : Int
  cyl : Int
  cyh : Int
  dml : Int
  dmh : Int
def Pt.cells (p : Pt) : List AV := [.str p.name, .str p.kind, .str p.into, .str p.slot, .int .i64 p.made, .int .i64 p.since, .bool p.scr, p.props, .int .i64 p.kml, .int .i64 p.kmh, .int .i64 p.cyl, .int .i64 p.cyh, .int .i64 p.dml, .int .i64 p.dmh]
structure Co where
  part : List Nat
  owner : List Nat
  day : Int
  am : Int
def Co.cells (c : Co) : List AV := [.str c.part, .str c.owner, .int .i64 c.day, .int .i64 c.am]

def isDy (n : Int) : Bool := decide (0 ≤ n) && decide (n ≤ 40000)

set_option maxHeartbeats 400000 in
theorem Tryz.dayOk (n : Int) (h : H) : ACalls Tryz.prog (.func 63) [.int .i64 n] h (fun v h' => v = .bool (isDy n) ∧ h' = h) := by
  unfold isDy
  refine ACalls.body (n := 9) Tryz.nogo Tryz.func63 rfl rfl ?_
  rw [argF1]
  cases e1 : decide (0 ≤ n) <;> cases e2 : decide (n ≤ 40000)
  all_goals
    (repeat refine AWp.seq ?_); change AWp _ _ _ _ _; refine AWp.region ?_; (repeat (first | refine AOps.v rfl rfl rfl rfl rfl (by simp only [evS, cond_tt, cond_ff, absV, depthV, Nat.reduceEqDiff, Nat.reduceLT, ↓reduceIte, Option.map_some, Option.bind_some, List.toList_toArray]; rfl) ?_ | refine AOps.s rfl rfl rfl ?_ | refine AOps.u rfl rfl rfl rfl (by simp only [evS, cond_tt, cond_ff, absV, depthV, Nat.reduceEqDiff, Nat.reduceLT, ↓reduceIte, Option.map_some, Option.bind_some, List.toList_toArray]; rfl) ?_)); refine AOps.nil ?_
    (repeat refine AWp.seq ?_); change AWp _ _ _ _ _; refine AWp.region ?_; (repeat (first | refine AOps.v rfl rfl rfl rfl rfl (by simp only [evS, cond_tt, cond_ff, absV, depthV, Nat.reduceEqDiff, Nat.reduceLT, ↓reduceIte, Option.map_some, Option.bind_some, List.toList_toArray, e1, e2]; rfl) ?_ | refine AOps.s rfl rfl rfl ?_ | refine AOps.u rfl rfl rfl rfl (by simp only [evS, cond_tt, cond_ff, absV, depthV, Nat.reduceEqDiff, Nat.reduceLT, ↓reduceIte, Option.map_some, Option.bind_some, List.toList_toArray, e1, e2]; rfl) ?_)); refine AOps.nil ?_
    refine AWp.ret ?_
    (try simp only [OutOf, Then, Round, NoGoto]); refine leaves_plain (by rfl) (by rfl) (fun _ => rfl) (by rfl) ⟨?_, rfl⟩; rfl

set_option maxHeartbeats 400000 in
theorem Tryz.amOk (n : Int) (h : H) : ACalls Tryz.prog (.func 64) [.int .i64 n] h (fun v h' => v = .bool (isAm n) ∧ h' = h) := by
  unfold isAm
  refine ACalls.body (n := 9) Tryz.nogo Tryz.func64 rfl rfl ?_
  rw [argF1]
  cases e1 : decide (0 ≤ n) <;> cases e2 : decide (n ≤ 1000000000000)
  all_goals
    (repeat refine AWp.seq ?_); change AWp _ _ _ _ _; refine AWp.region ?_; (repeat (first | refine AOps.v rfl rfl rfl rfl rfl (by simp only [evS, cond_tt, cond_ff, absV, depthV, Nat.reduceEqDiff, Nat.reduceLT, ↓reduceIte, Option.map_some, Option.bind_some, List.toList_toArray]; rfl) ?_ | refine AOps.s rfl rfl rfl ?_ | refine AOps.u rfl rfl rfl rfl (by simp only [evS, cond_tt, cond_ff, absV, depthV, Nat.reduceEqDiff, Nat.reduceLT, ↓reduceIte, Option.map_some, Option.bind_some, List.toList_toArray]; rfl) ?_)); refine AOps.nil ?_
    (repeat refine AWp.seq ?_); change AWp _ _ _ _ _; refine AWp.region ?_; (repeat (first | refine AOps.v rfl rfl rfl rfl rfl (by simp only [evS, cond_tt, cond_ff, absV, depthV, Nat.reduceEqDiff, Nat.reduceLT, ↓reduceIte, Option.map_some, Option.bind_some, List.toList_toArray, e1, e2]; rfl) ?_ | refine AOps.s rfl rfl rfl ?_ | refine AOps.u rfl rfl rfl rfl (by simp only [evS, cond_tt, cond_ff, absV, depthV, Nat.reduceEqDiff, Nat.reduceLT, ↓reduceIte, Option.map_some, Option.bind_some, List.toList_toArray, e1, e2]; rfl) ?_)); refine AOps.nil ?_
    refine AWp.ret ?_
    (try simp only [OutOf, Then, Round, NoGoto]); refine leaves_plain (by rfl) (by rfl) (fun _ => rfl) (by rfl) ⟨?_, rfl⟩; rfl

set_option maxHeartbeats 400000 in
theorem Tryz.between (x lo hi : Int) (h : H) : ACalls Tryz.prog (.func 133) [.int .i64 x, .int .i64 lo, .int .i64 hi] h (fun v h' => v = .bool (decide (lo ≤ x) && decide (x ≤ hi)) ∧ h' = h) := by
  refine ACalls.body (n := 15) Tryz.nogo Tryz.func133 rfl rfl ?_
  rw [argF3]
  cases e1 : decide (lo ≤ x) <;> cases e2 : decide (x ≤ hi)
  all_goals
    (repeat refine AWp.seq ?_); change AWp _ _ _ _ _; refine AWp.region ?_; (repeat (first | refine AOps.v rfl rfl rfl rfl rfl (by simp only [evS, cond_tt, cond_ff, absV, depthV, Nat.reduceEqDiff, Nat.reduceLT, ↓reduceIte, Option.map_some, Option.bind_some, List.toList_toArray]; rfl) ?_ | refine AOps.s rfl rfl rfl ?_ | refine AOps.u rfl rfl rfl rfl (by simp only [evS, cond_tt, cond_ff, absV, depthV, Nat.reduceEqDiff, Nat.reduceLT, ↓reduceIte, Option.map_some, Option.bind_some, List.toList_toArray]; rfl) ?_)); refine AOps.nil ?_
    (repeat refine AWp.seq ?_); change AWp _ _ _ _ _; refine AWp.region ?_; (repeat (first | refine AOps.v rfl rfl rfl rfl rfl (by simp only [evS, cond_tt, cond_ff, absV, depthV, Nat.reduceEqDiff, Nat.reduceLT, ↓reduceIte, Option.map_some, Option.bind_some, List.toList_toArray, e1, e2]; rfl) ?_ | refine AOps.s rfl rfl rfl ?_ | refine AOps.u rfl rfl rfl rfl (by simp only [evS, cond_tt, cond_ff, absV, depthV, Nat.reduceEqDiff, Nat.reduceLT, ↓reduceIte, Option.map_some, Option.bind_some, List.toList_toArray, e1, e2]; rfl) ?_)); refine AOps.nil ?_
    refine AWp.ret ?_
    (try simp only [OutOf, Then, Round, NoGoto]); refine leaves_plain (by rfl) (by rfl) (fun _ => rfl) (by rfl) ⟨?_, rfl⟩; rfl

theorem bin_quo {P : Program} {t : TypeId} {a b : Int} (hb : b ≠ 0) (h : -9223372036854775808 ≤ a.tdiv b ∧ a.tdiv b ≤ 9223372036854775807) : binA P .quo t (.int .i64 a) (.int .i64 b) = some (.int .i64 (a.tdiv b)) := by
  have h1 : (leI (-9223372036854775808) (a.tdiv b) && leI (a.tdiv b) 9223372036854775807) = true := by
    rw [leI_eq, leI_eq]; simp [h.1, h.2]
  have hz : isZ b = false := by
    unfold isZ
    cases b with
    | ofNat n =>
      cases n with
      | zero => exact absurd rfl hb
      | succ n => rfl
    | negSucc n => rfl
  simp only [binA, kEq, cond_tt, hz, cond_ff, wrapA, loK, hiK, h1]

theorem bin_rem {P : Program} {t : TypeId} {a b : Int} (hb : b ≠ 0) : binA P .rem t (.int .i64 a) (.int .i64 b) = some (.int .i64 (a.tmod b)) := by
  have hz : isZ b = false := by
    unfold isZ
    cases b with
    | ofNat n =>
      cases n with
      | zero => exact absurd rfl hb
      | succ n => rfl
    | negSucc n => rfl
  simp only [binA, kEq, cond_tt, hz, cond_ff]

/-- money.Percent at valid arguments. -/
def pctN (a p : Int) : Int := if 100 < 2 * (a * p % 100) ∨ (2 * (a * p % 100) = 100 ∧ a * p / 100 % 2 ≠ 0) then a * p / 100 + 1 else a * p / 100
def pctOk (a p : Int) : Bool := isAm a && (decide (0 ≤ p) && decide (p ≤ 100))

theorem mul_bnd {a p : Int} (ha : 0 ≤ a ∧ a ≤ 1000000000000) (hp : 0 ≤ p ∧ p ≤ 100) : 0 ≤ a * p ∧ a * p ≤ 100000000000000 := by
  refine ⟨Int.mul_nonneg ha.1 hp.1, ?_⟩
  have h1 : a * p ≤ 1000000000000 * p := Int.mul_le_mul_of_nonneg_right ha.2 hp.1
  omega

theorem pct_bnd {a p : Int} (ha : 0 ≤ a ∧ a ≤ 1000000000000) (hp : 0 ≤ p ∧ p ≤ 100) : 0 ≤ pctN a p ∧ pctN a p ≤ a := by
  obtain ⟨h1, h2⟩ := mul_bnd ha hp
  have h3 : a * p ≤ a * 100 := Int.mul_le_mul_of_nonneg_left hp.2 ha.1
  unfold pctN
  generalize a * p = m at *
  split <;> omega

set_option maxHeartbeats 1000000 in
theorem Tryz.percent (a p : Int) (h : H) : ACalls Tryz.prog (.func 70) [.int .i64 a, .int .i64 p] h (fun v h' => v = (if pctOk a p then .tup [.int .i64 (pctN a p), .int .i64 0] else .tup [.int .i64 0, .int .i64 1]) ∧ h' = h) := by
  refine ACalls.body (n := 40) Tryz.nogo Tryz.func70 rfl rfl ?_
  rw [argF2]
  (repeat refine AWp.seq ?_); change AWp _ _ _ _ _; refine AWp.region ?_; (repeat (first | refine AOps.v rfl rfl rfl rfl rfl (by simp only [evS, cond_tt, cond_ff, absV, depthV, Nat.reduceEqDiff, Nat.reduceLT, ↓reduceIte, Option.map_some, Option.bind_some, List.toList_toArray]; rfl) ?_ | refine AOps.s rfl rfl rfl ?_ | refine AOps.u rfl rfl rfl rfl (by simp only [evS, cond_tt, cond_ff, absV, depthV, Nat.reduceEqDiff, Nat.reduceLT, ↓reduceIte, Option.map_some, Option.bind_some, List.toList_toArray]; rfl) ?_)); refine AOps.nil ?_
  (repeat refine AWp.seq ?_); change AWp _ _ _ _ _; refine AWp.region ?_; (repeat (first | refine AOps.v rfl rfl rfl rfl rfl (by simp only [evS, cond_tt, cond_ff, absV, depthV, Nat.reduceEqDiff, Nat.reduceLT, ↓reduceIte, Option.map_some, Option.bind_some, List.toList_toArray]; rfl) ?_ | refine AOps.s rfl rfl rfl ?_ | refine AOps.u rfl rfl rfl rfl (by simp only [evS, cond_tt, cond_ff, absV, depthV, Nat.reduceEqDiff, Nat.reduceLT, ↓reduceIte, Option.map_some, Option.bind_some, List.toList_toArray]; rfl) ?_))
  refine AOps.c rfl rfl rfl rfl rfl (by simp only [callOf_val, callW_fn, evS, cond_tt, cond_ff, absV, depthV, Nat.reduceEqDiff, Nat.reduceLT, ↓reduceIte, Option.map_some, Option.bind_some, List.toList_toArray]; rfl) rfl (Tryz.between a 0 1000000000000 _) ?_; rintro _ _ ⟨rfl, rfl⟩
  cases e1 : (decide (0 ≤ a) && decide (a ≤ 1000000000000))
  · have e0 : pctOk a p = false := by unfold pctOk isAm; rw [e1]; rfl
    rw [e0]
    (repeat (first | refine AOps.v rfl rfl rfl rfl rfl (by simp only [evS, cond_tt, cond_ff, absV, depthV, Nat.reduceEqDiff, Nat.reduceLT, ↓reduceIte, Option.map_some, Option.bind_some, List.toList_toArray]; rfl) ?_ | refine AOps.s rfl rfl rfl ?_ | refine AOps.u rfl rfl rfl rfl (by simp only [evS, cond_tt, cond_ff, absV, depthV, Nat.reduceEqDiff, Nat.reduceLT, ↓reduceIte, Option.map_some, Option.bind_some, List.toList_toArray]; rfl) ?_))
    refine AOps.nil ?_
    (repeat refine AWp.seq ?_); change AWp _ _ _ _ _; refine AWp.yes (by rfl) (by rfl) ?_
    (repeat refine AWp.seq ?_); change AWp _ _ _ _ _; refine AWp.region ?_; (repeat (first | refine AOps.v rfl rfl rfl rfl rfl (by simp only [evS, cond_tt, cond_ff, absV, depthV, Nat.reduceEqDiff, Nat.reduceLT, ↓reduceIte, Option.map_some, Option.bind_some, List.toList_toArray]; rfl) ?_ | refine AOps.s rfl rfl rfl ?_ | refine AOps.u rfl rfl rfl rfl (by simp only [evS, cond_tt, cond_ff, absV, depthV, Nat.reduceEqDiff, Nat.reduceLT, ↓reduceIte, Option.map_some, Option.bind_some, List.toList_toArray]; rfl) ?_)); refine AOps.nil ?_
    refine AWp.ret ?_
    (try simp only [OutOf, Then, Round, NoGoto]); refine leaves_plain (by rfl) (by rfl) (fun _ => rfl) (by rfl) ⟨?_, rfl⟩; rfl
  (repeat (first | refine AOps.v rfl rfl rfl rfl rfl (by simp only [evS, cond_tt, cond_ff, absV, depthV, Nat.reduceEqDiff, Nat.reduceLT, ↓reduceIte, Option.map_some, Option.bind_some, List.toList_toArray]; rfl) ?_ | refine AOps.s rfl rfl rfl ?_ | refine AOps.u rfl rfl rfl rfl (by simp only [evS, cond_tt, cond_ff, absV, depthV, Nat.reduceEqDiff, Nat.reduceLT, ↓reduceIte, Option.map_some, Option.bind_some, List.toList_toArray]; rfl) ?_))
  refine AOps.c rfl rfl rfl rfl rfl (by simp only [callOf_val, callW_fn, evS, cond_tt, cond_ff, absV, depthV, Nat.reduceEqDiff, Nat.reduceLT, ↓reduceIte, Option.map_some, Option.bind_some, List.toList_toArray]; rfl) rfl (Tryz.between p 0 100 _) ?_; rintro _ _ ⟨rfl, rfl⟩
  cases e2 : (decide (0 ≤ p) && decide (p ≤ 100))
  · have e0 : pctOk a p = false := by unfold pctOk isAm; rw [e1, e2]; rfl
    rw [e0]
    (repeat (first | refine AOps.v rfl rfl rfl rfl rfl (by simp only [evS, cond_tt, cond_ff, absV, depthV, Nat.reduceEqDiff, Nat.reduceLT, ↓reduceIte, Option.map_some, Option.bind_some, List.toList_toArray]; rfl) ?_ | refine AOps.s rfl rfl rfl ?_ | refine AOps.u rfl rfl rfl rfl (by simp only [evS, cond_tt, cond_ff, absV, depthV, Nat.reduceEqDiff, Nat.reduceLT, ↓reduceIte, Option.map_some, Option.bind_some, List.toList_toArray]; rfl) ?_))
    refine AOps.nil ?_
    (repeat refine AWp.seq ?_); change AWp _ _ _ _ _; refine AWp.yes (by rfl) (by rfl) ?_
    (repeat refine AWp.seq ?_); change AWp _ _ _ _ _; refine AWp.region ?_; (repeat (first | refine AOps.v rfl rfl rfl rfl rfl (by simp only [evS, cond_tt, cond_ff, absV, depthV, Nat.reduceEqDiff, Nat.reduceLT, ↓reduceIte, Option.map_some, Option.bind_some, List.toList_toArray]; rfl) ?_ | refine AOps.s rfl rfl rfl ?_ | refine AOps.u rfl rfl rfl rfl (by simp only [evS, cond_tt, cond_ff, absV, depthV, Nat.reduceEqDiff, Nat.reduceLT, ↓reduceIte, Option.map_some, Option.bind_some, List.toList_toArray]; rfl) ?_)); refine AOps.nil ?_
    refine AWp.ret ?_
    (try simp only [OutOf, Then, Round, NoGoto]); refine leaves_plain (by rfl) (by rfl) (fun _ => rfl) (by rfl) ⟨?_, rfl⟩; rfl
  have e0 : pctOk a p = true := by unfold pctOk isAm; rw [e1, e2]; rfl
  rw [e0]
  (repeat (first | refine AOps.v rfl rfl rfl rfl rfl (by simp only [evS, cond_tt, cond_ff, absV, depthV, Nat.reduceEqDiff, Nat.reduceLT, ↓reduceIte, Option.map_some, Option.bind_some, List.toList_toArray]; rfl) ?_ | refine AOps.s rfl rfl rfl ?_ | refine AOps.u rfl rfl rfl rfl (by simp only [evS, cond_tt, cond_ff, absV, depthV, Nat.reduceEqDiff, Nat.reduceLT, ↓reduceIte, Option.map_some, Option.bind_some, List.toList_toArray]; rfl) ?_))
  refine AOps.nil ?_
  (repeat refine AWp.seq ?_); change AWp _ _ _ _ _; refine AWp.no (by rfl) (by rfl) (AWp.skip ?_)
  simp only [Bool.and_eq_true, decide_eq_true_eq] at e1 e2
  obtain ⟨m1, m2⟩ := mul_bnd e1 e2
  have hm := bin_mul (P := Tryz.prog) (t := 3) (a := a) (b := p) ⟨by omega, by omega⟩
  have hpn : pctN a p = if 100 < 2 * (a * p % 100) ∨ (2 * (a * p % 100) = 100 ∧ a * p / 100 % 2 ≠ 0) then a * p / 100 + 1 else a * p / 100 := rfl
  rw [hpn]
  clear hpn
  generalize a * p = m at *
  have t1 : m.tdiv 100 = m / 100 := Int.tdiv_eq_ediv_of_nonneg m1
  have t2 : m.tmod 100 = m % 100 := Int.tmod_eq_emod_of_nonneg m1
  have hq := bin_quo (P := Tryz.prog) (t := 3) (a := m) (b := 100) (by decide) (by rw [t1]; omega)
  have hr := bin_rem (P := Tryz.prog) (t := 3) (a := m) (b := 100) (by decide)
  rw [t1] at hq; rw [t2] at hr
  (repeat refine AWp.seq ?_); change AWp _ _ _ _ _; refine AWp.region ?_; (repeat (first | refine AOps.v rfl rfl rfl rfl rfl (by simp only [evS, cond_tt, cond_ff, absV, depthV, Nat.reduceEqDiff, Nat.reduceLT, ↓reduceIte, Option.map_some, Option.bind_some, List.toList_toArray, hm, hq, hr]; rfl) ?_ | refine AOps.s rfl rfl rfl ?_ | refine AOps.u rfl rfl rfl rfl (by simp only [evS, cond_tt, cond_ff, absV, depthV, Nat.reduceEqDiff, Nat.reduceLT, ↓reduceIte, Option.map_some, Option.bind_some, List.toList_toArray, hm, hq, hr]; rfl) ?_)); refine AOps.nil ?_
  have h2 := bin_mul (P := Tryz.prog) (t := 3) (a := 2) (b := m % 100) ⟨by omega, by omega⟩
  have t3 : (m / 100).tmod 2 = m / 100 % 2 := Int.tmod_eq_emod_of_nonneg (by omega)
  have hr2 := bin_rem (P := Tryz.prog) (t := 3) (a := m / 100) (b := 2) (by decide)
  rw [t3] at hr2
  cases c1 : decide (100 < 2 * (m % 100))
  · cases c2 : decide (2 * (m % 100) = 100)
    · have hi : ¬ (100 < 2 * (m % 100) ∨ (2 * (m % 100) = 100 ∧ m / 100 % 2 ≠ 0)) := by
        simp only [decide_eq_false_iff_not] at c1 c2; omega
      rw [if_neg hi]
      (repeat refine AWp.seq ?_); change AWp _ _ _ _ _; refine AWp.region ?_; (repeat (first | refine AOps.v rfl rfl rfl rfl rfl (by simp only [evS, cond_tt, cond_ff, absV, depthV, Nat.reduceEqDiff, Nat.reduceLT, ↓reduceIte, Option.map_some, Option.bind_some, List.toList_toArray, h2, hr2, c1, c2]; rfl) ?_ | refine AOps.s rfl rfl rfl ?_ | refine AOps.u rfl rfl rfl rfl (by simp only [evS, cond_tt, cond_ff, absV, depthV, Nat.reduceEqDiff, Nat.reduceLT, ↓reduceIte, Option.map_some, Option.bind_some, List.toList_toArray, h2, hr2, c1, c2]; rfl) ?_)); refine AOps.nil ?_
      (repeat refine AWp.seq ?_); change AWp _ _ _ _ _; refine AWp.no (by rfl) (by rfl) (AWp.skip ?_)
      (repeat refine AWp.seq ?_); change AWp _ _ _ _ _; refine AWp.region ?_; (repeat (first | refine AOps.v rfl rfl rfl rfl rfl (by simp only [evS, cond_tt, cond_ff, absV, depthV, Nat.reduceEqDiff, Nat.reduceLT, ↓reduceIte, Option.map_some, Option.bind_some, List.toList_toArray]; rfl) ?_ | refine AOps.s rfl rfl rfl ?_ | refine AOps.u rfl rfl rfl rfl (by simp only [evS, cond_tt, cond_ff, absV, depthV, Nat.reduceEqDiff, Nat.reduceLT, ↓reduceIte, Option.map_some, Option.bind_some, List.toList_toArray]; rfl) ?_)); refine AOps.nil ?_
      refine AWp.ret ?_
      (try simp only [OutOf, Then, Round, NoGoto]); refine leaves_plain (by rfl) (by rfl) (fun _ => rfl) (by rfl) ⟨?_, rfl⟩; rfl
    · cases c3 : decide (m / 100 % 2 = 0)
      · have hi : (100 < 2 * (m % 100) ∨ (2 * (m % 100) = 100 ∧ m / 100 % 2 ≠ 0)) := by
          simp only [decide_eq_false_iff_not, decide_eq_true_eq] at c1 c2 c3; omega
        rw [if_pos hi]
        (repeat refine AWp.seq ?_); change AWp _ _ _ _ _; refine AWp.region ?_; (repeat (first | refine AOps.v rfl rfl rfl rfl rfl (by simp only [evS, cond_tt, cond_ff, absV, depthV, Nat.reduceEqDiff, Nat.reduceLT, ↓reduceIte, Option.map_some, Option.bind_some, List.toList_toArray, h2, hr2, c1, c2, c3]; rfl) ?_ | refine AOps.s rfl rfl rfl ?_ | refine AOps.u rfl rfl rfl rfl (by simp only [evS, cond_tt, cond_ff, absV, depthV, Nat.reduceEqDiff, Nat.reduceLT, ↓reduceIte, Option.map_some, Option.bind_some, List.toList_toArray, h2, hr2, c1, c2, c3]; rfl) ?_)); refine AOps.nil ?_
        (repeat refine AWp.seq ?_); change AWp _ _ _ _ _; refine AWp.yes (by rfl) (by rfl) ?_
        (repeat refine AWp.seq ?_); change AWp _ _ _ _ _; refine AWp.region ?_; (repeat (first | refine AOps.v rfl rfl rfl rfl rfl (by simp only [evS, cond_tt, cond_ff, absV, depthV, Nat.reduceEqDiff, Nat.reduceLT, ↓reduceIte, Option.map_some, Option.bind_some, List.toList_toArray, bin_add (show -9223372036854775808 ≤ m / 100 + 1 ∧ m / 100 + 1 ≤ 9223372036854775807 from ⟨by omega, by omega⟩)]; rfl) ?_ | refine AOps.s rfl rfl rfl ?_ | refine AOps.u rfl rfl rfl rfl (by simp only [evS, cond_tt, cond_ff, absV, depthV, Nat.reduceEqDiff, Nat.reduceLT, ↓reduceIte, Option.map_some, Option.bind_some, List.toList_toArray, bin_add (show -9223372036854775808 ≤ m / 100 + 1 ∧ m / 100 + 1 ≤ 9223372036854775807 from ⟨by omega, by omega⟩)]; rfl) ?_)); refine AOps.nil ?_
        (repeat refine AWp.seq ?_); change AWp _ _ _ _ _; refine AWp.region ?_; (repeat (first | refine AOps.v rfl rfl rfl rfl rfl (by simp only [evS, cond_tt, cond_ff, absV, depthV, Nat.reduceEqDiff, Nat.reduceLT, ↓reduceIte, Option.map_some, Option.bind_some, List.toList_toArray]; rfl) ?_ | refine AOps.s rfl rfl rfl ?_ | refine AOps.u rfl rfl rfl rfl (by simp only [evS, cond_tt, cond_ff, absV, depthV, Nat.reduceEqDiff, Nat.reduceLT, ↓reduceIte, Option.map_some, Option.bind_some, List.toList_toArray]; rfl) ?_)); refine AOps.nil ?_
        refine AWp.ret ?_
        (try simp only [OutOf, Then, Round, NoGoto]); refine leaves_plain (by rfl) (by rfl) (fun _ => rfl) (by rfl) ⟨?_, rfl⟩; rfl
      · have hi : ¬ (100 < 2 * (m % 100) ∨ (2 * (m % 100) = 100 ∧ m / 100 % 2 ≠ 0)) := by
          simp only [decide_eq_false_iff_not, decide_eq_true_eq] at c1 c2 c3; omega
        rw [if_neg hi]
        (repeat refine AWp.seq ?_); change AWp _ _ _ _ _; refine AWp.region ?_; (repeat (first | refine AOps.v rfl rfl rfl rfl rfl (by simp only [evS, cond_tt, cond_ff, absV, depthV, Nat.reduceEqDiff, Nat.reduceLT, ↓reduceIte, Option.map_some, Option.bind_some, List.toList_toArray, h2, hr2, c1, c2, c3]; rfl) ?_ | refine AOps.s rfl rfl rfl ?_ | refine AOps.u rfl rfl rfl rfl (by simp only [evS, cond_tt, cond_ff, absV, depthV, Nat.reduceEqDiff, Nat.reduceLT, ↓reduceIte, Option.map_some, Option.bind_some, List.toList_toArray, h2, hr2, c1, c2, c3]; rfl) ?_)); refine AOps.nil ?_
        (repeat refine AWp.seq ?_); change AWp _ _ _ _ _; refine AWp.no (by rfl) (by rfl) (AWp.skip ?_)
        (repeat refine AWp.seq ?_); change AWp _ _ _ _ _; refine AWp.region ?_; (repeat (first | refine AOps.v rfl rfl rfl rfl rfl (by simp only [evS, cond_tt, cond_ff, absV, depthV, Nat.reduceEqDiff, Nat.reduceLT, ↓reduceIte, Option.map_some, Option.bind_some, List.toList_toArray]; rfl) ?_ | refine AOps.s rfl rfl rfl ?_ | refine AOps.u rfl rfl rfl rfl (by simp only [evS, cond_tt, cond_ff, absV, depthV, Nat.reduceEqDiff, Nat.reduceLT, ↓reduceIte, Option.map_some, Option.bind_some, List.toList_toArray]; rfl) ?_)); refine AOps.nil ?_
        refine AWp.ret ?_
        (try simp only [OutOf, Then, Round, NoGoto]); refine leaves_plain (by rfl) (by rfl) (fun _ => rfl) (by rfl) ⟨?_, rfl⟩; rfl
  · have hi : (100 < 2 * (m % 100) ∨ (2 * (m % 100) = 100 ∧ m / 100 % 2 ≠ 0)) := by
      simp only [decide_eq_true_eq] at c1; omega
    rw [if_pos hi]
    (repeat refine AWp.seq ?_); change AWp _ _ _ _ _; refine AWp.region ?_; (repeat (first | refine AOps.v rfl rfl rfl rfl rfl (by simp only [evS, cond_tt, cond_ff, absV, depthV, Nat.reduceEqDiff, Nat.reduceLT, ↓reduceIte, Option.map_some, Option.bind_some, List.toList_toArray, h2, hr2, c1]; rfl) ?_ | refine AOps.s rfl rfl rfl ?_ | refine AOps.u rfl rfl rfl rfl (by simp only [evS, cond_tt, cond_ff, absV, depthV, Nat.reduceEqDiff, Nat.reduceLT, ↓reduceIte, Option.map_some, Option.bind_some, List.toList_toArray, h2, hr2, c1]; rfl) ?_)); refine AOps.nil ?_
    (repeat refine AWp.seq ?_); change AWp _ _ _ _ _; refine AWp.yes (by rfl) (by rfl) ?_
    (repeat refine AWp.seq ?_); change AWp _ _ _ _ _; refine AWp.region ?_; (repeat (first | refine AOps.v rfl rfl rfl rfl rfl (by simp only [evS, cond_tt, cond_ff, absV, depthV, Nat.reduceEqDiff, Nat.reduceLT, ↓reduceIte, Option.map_some, Option.bind_some, List.toList_toArray, bin_add (show -9223372036854775808 ≤ m / 100 + 1 ∧ m / 100 + 1 ≤ 9223372036854775807 from ⟨by omega, by omega⟩)]; rfl) ?_ | refine AOps.s rfl rfl rfl ?_ | refine AOps.u rfl rfl rfl rfl (by simp only [evS, cond_tt, cond_ff, absV, depthV, Nat.reduceEqDiff, Nat.reduceLT, ↓reduceIte, Option.map_some, Option.bind_some, List.toList_toArray, bin_add (show -9223372036854775808 ≤ m / 100 + 1 ∧ m / 100 + 1 ≤ 9223372036854775807 from ⟨by omega, by omega⟩)]; rfl) ?_)); refine AOps.nil ?_
    (repeat refine AWp.seq ?_); change AWp _ _ _ _ _; refine AWp.region ?_; (repeat (first | refine AOps.v rfl rfl rfl rfl rfl (by simp only [evS, cond_tt, cond_ff, absV, depthV, Nat.reduceEqDiff, Nat.reduceLT, ↓reduceIte, Option.map_some, Option.bind_some, List.toList_toArray]; rfl) ?_ | refine AOps.s rfl rfl rfl ?_ | refine AOps.u rfl rfl rfl rfl (by simp only [evS, cond_tt, cond_ff, absV, depthV, Nat.reduceEqDiff, Nat.reduceLT, ↓reduceIte, Option.map_some, Option.bind_some, List.toList_toArray]; rfl) ?_)); refine AOps.nil ?_
    refine AWp.ret ?_
    (try simp only [OutOf, Then, Round, NoGoto]); refine leaves_plain (by rfl) (by rfl) (fun _ => rfl) (by rfl) ⟨?_, rfl⟩; rfl

end Go.Proofs

/- Seat r1: the keys of a map, collected. No conditions beyond those that each theorem states. -/
namespace Go.Proofs
open Go.Ev
set_option maxRecDepth 100000

abbrev sAV (s : List Nat) : AV := .str s
def sRow (k : List Nat) : List AV := [.str k]
theorem sRows_wide (ks : List (List Nat)) : ∀ r ∈ ks.map sRow, r.length = 1 := by intro r hr; obtain ⟨t, _, rfl⟩ := List.mem_map.1 hr; rfl
theorem plain_sRow (k : List Nat) : (sRow k).all (plainA 4) = true := rfl
theorem one_sRows (ks : List (List Nat)) : (ks.map sRow).flatten.all oneC = true := by
  rw [List.all_eq_true]
  intro x hx
  obtain ⟨r, hr, hxr⟩ := List.mem_flatten.1 hx
  obtain ⟨t, _, rfl⟩ := List.mem_map.1 hr
  simp only [sRow, List.mem_singleton] at hxr
  subst hxr; rfl

/-- A list of strings that a call hands back: nil, or a new row. -/
noncomputable def backK (h : H) (ks : List (List Nat)) : AV × H := if ks = [] then (.slice none 0 0 (some 0), h) else (.slice (some (h.next, 0)) ks.length 1 none, layAll [(ks.map sRow).flatten] h)

theorem Tryz.info9 : Tryz.prog.info? 9 = some Tryz.t9 := by kernel_rfl
theorem Tryz.zero9 : zeroA Tryz.prog 9 = some (.str []) := by kernel_rfl
theorem buildK (k : List Nat) : buildSliceA Tryz.prog 57 1 [(0, .str k)] = some (1, [.str k]) := by kernel_rfl

section
variable {U : Type} {uv : U → AV}

/-- The row of the heap in which an iterator over the keys runs: N: the box of the list; N + 1: the mark; N + 2: the loop; N + 3: the iterator. -/
structure KeyInv (N : Nat) (lp : AO) (h0 : H) (hk : H) (v : AV) (ks : List (List Nat)) : Prop where
  objs : ∀ j, j < N → hk.objs.get j = h0.objs.get j
  fams : ∀ j, j < N → hk.fams.get j = h0.fams.get j
  low1 : N ≤ hk.low
  low2 : hk.low ≤ N + 3
  cell : hk.objs.get N = some (.cells [v] N)
  fam : hk.fams.get N = some (N, N)
  mark : hk.objs.get (N + 1) = some (.dfr false)
  loop : hk.objs.get (N + 2) = some lp
  out : OutAt (N + 4) hk v 1 (ks.map sRow)

theorem nodup_snoc {l : List Nat} {i : Nat} (h : l.Nodup) (hi : i ∉ l) : (l ++ [i]).Nodup := by
  rw [List.nodup_append]; exact ⟨h, by simp, fun a ha b hb => by simp at hb; subst hb; intro e; subst e; exact hi ha⟩

theorem nodup_len {l : List Nat} {n : Nat} (h : l.Nodup) (hl : ∀ i ∈ l, i < n) : l.length ≤ n := by
  have := h.length_le_of_subset (l₂ := List.range n) (fun j hj => List.mem_range.2 (hl j hj))
  rw [List.length_range] at this
  exact this

set_option maxHeartbeats 4000000 in
theorem Tryz.appendSeq (l : List (List Nat × U)) (m bx : Nat) (h : H) (hb : rowO h.objs bx = some [.map (some m)]) (hbx : bx < h.next) (hm : MapAt sAV uv h.objs m l) (hmn : m < h.next) (hlen : l.length ≤ 100000) :
    ACalls Tryz.prog (.func 196) [.slice none 0 0 (some 0), .fn (.func 135) [] [.ptr (some (bx, 0))]] h
      (fun v h' => ∃ ks : List (List Nat), ks.Perm (l.map (·.1)) ∧ v = (backK h ks).1 ∧ h' = (backK h ks).2) := by
  refine ACalls.body (n := 13) Tryz.nogo Tryz.func196 rfl rfl ?_
  rw [argF2]
  (repeat refine AWp.seq ?_); change AWp _ _ _ _ _; refine AWp.region ?_; (repeat (first | refine AOps.v rfl rfl rfl rfl rfl (by simp only [evS, cond_tt, cond_ff, absV, depthV, Nat.reduceEqDiff, Nat.reduceLT, ↓reduceIte, Option.map_some, Option.bind_some, List.toList_toArray, op_box, H.lay]; rfl) ?_ | refine AOps.s rfl rfl rfl ?_ | refine AOps.u rfl rfl rfl rfl (by simp only [evS, cond_tt, cond_ff, absV, depthV, Nat.reduceEqDiff, Nat.reduceLT, ↓reduceIte, Option.map_some, Option.bind_some, List.toList_toArray, op_box, H.lay]; rfl) ?_)); refine AOps.nil ?_
  (repeat refine AWp.seq ?_)
  refine AWp.mono (Q := fun ex st => ex = .normal ∧ Fr st [(2, .ptr (some (h.next, 0))), (6, .fn (.func 135) [] [.ptr (some (bx, 0))])] 13 ⟨Tr.put h.objs h.next (some (.cells [.slice none 0 0 (some 0)] h.next)), Tr.put h.fams h.next (some (h.next, h.next)), h.next + 1, h.next⟩ []) ?_ ?_
  · (repeat refine AWp.seq ?_); change AWp _ _ _ _ _; refine AWp.region ?_; (repeat (first | refine AOps.v rfl rfl rfl rfl rfl (by simp only [evS, cond_tt, cond_ff, absV, depthV, Nat.reduceEqDiff, Nat.reduceLT, ↓reduceIte, Option.map_some, Option.bind_some, List.toList_toArray]; rfl) ?_ | refine AOps.s rfl rfl rfl ?_ | refine AOps.u rfl rfl rfl rfl (by simp only [evS, cond_tt, cond_ff, absV, depthV, Nat.reduceEqDiff, Nat.reduceLT, ↓reduceIte, Option.map_some, Option.bind_some, List.toList_toArray]; rfl) ?_)); refine AOps.nil ?_
    exact ⟨rfl, rfl, rfl, rfl, rfl, rfl, trivial⟩
  rintro ex st ⟨rfl, hF⟩
  obtain ⟨f, rfl⟩ := hF.open
  clear hF
  simp only [updL]
  show AWp _ _ _ _ _
  (repeat refine AWp.seq ?_)
  refine AWp.block ?_
  obtain ⟨N, hN⟩ : ∃ N, N = h.next := ⟨_, rfl⟩
  have hmN : m < N := by omega
  have hbN : bx < N := by omega
  rw [← hN]
  generalize hf0 : upd (upd f 6 (.fn (.func 135) [] [.ptr (some (bx, 0))])) 2 (.ptr (some (N, 0))) = f0
  have hf2 : f0 2 = .ptr (some (N, 0)) := by rw [← hf0, upd_same]
  have hf6 : f0 6 = .fn (.func 135) [] [.ptr (some (bx, 0))] := by rw [← hf0, upd_other _ _ (by decide), upd_same]
  clear hf0 f
  refine AWp.rangeFn Tryz.nogo (fid := 135) (first := []) (cap := [.ptr (some (bx, 0))]) (by rw [ev_tmp (by decide), hf6]) Tryz.func135 rfl (Q1 := fun lp v h' => ∃ (o : AV) (ks : List (List Nat)), ks.Perm (l.map (·.1)) ∧ h'.low = N ∧ KeyInv N lp h h' o ks) ?_ ?_
  · -- the iterator
    intro lp hlp
    have hlp' := hlp
    show ACalls _ _ [.fn (.yield (N + 2)) [] [], .ptr (some (bx, 0))] ⟨_, _, N + 3, N⟩ _
    obtain ⟨O3, hO3⟩ : ∃ O3, O3 = Tr.put (Tr.put (Tr.put h.objs N (some (.cells [.slice none 0 0 (some 0)] N))) (N + 1) (some (.dfr false))) (N + 1 + 1) (some lp) := ⟨_, rfl⟩
    obtain ⟨F3, hF3⟩ : ∃ F3, F3 = Tr.put h.fams N (some (N, N)) := ⟨_, rfl⟩
    rw [← hO3, ← hF3]
    have hI0 : KeyInv N lp h ⟨O3, F3, N + 3, N + 3⟩ (.slice none 0 0 (some 0)) [] := by
      refine ⟨fun j hj => ?_, fun j hj => ?_, by show N ≤ N + 3; omega, Nat.le_refl _, ?_, ?_, ?_, ?_, ⟨fun r hr => (List.not_mem_nil hr).elim, .inl ⟨rfl, rfl⟩⟩⟩
      · rw [hO3]; rw [put_other _ _ (by omega), put_other _ _ (by omega), put_other _ _ (by omega)]
      · rw [hF3]; rw [put_other _ _ (by omega)]
      · rw [hO3]; rw [put_other _ _ (by omega), put_other _ _ (by omega), put_same]
      · rw [hF3]; rw [put_same]
      · rw [hO3]; rw [put_other _ _ (by omega), put_same]
      · rw [hO3]; exact put_same _ _ _
    -- one round
    have hy : ∀ (hh : H) (v : AV) (ks : List (List Nat)) (k : List Nat), KeyInv N lp h hh v ks → N + 4 ≤ hh.next → ks.length ≤ 100000 → ACalls Tryz.prog (.yield (N + 2)) [.str k] hh (fun r h' => r = .bool true ∧ ∃ v', KeyInv N lp h h' v' (ks ++ [k]) ∧ hh.next ≤ h'.next ∧ h'.objs.get (N + 3) = hh.objs.get (N + 3)) := by
      rintro ⟨o, fm, kn, kl⟩ v ks k hI hk hl
      simp only at hk
      refine ACalls.yield1 (by rw [hI.loop, hlp]) rfl ?_
      (repeat refine AWp.seq ?_); change AWp _ _ _ _ _; refine AWp.region ?_; (repeat (first | refine AOps.v rfl rfl rfl rfl rfl (by simp only [evS, cond_tt, cond_ff, absV, depthV, Nat.reduceEqDiff, Nat.reduceLT, ↓reduceIte, Option.map_some, Option.bind_some, List.toList_toArray]; rfl) ?_ | refine AOps.s rfl rfl rfl ?_ | refine AOps.u rfl rfl rfl rfl (by simp only [evS, cond_tt, cond_ff, absV, depthV, Nat.reduceEqDiff, Nat.reduceLT, ↓reduceIte, Option.map_some, Option.bind_some, List.toList_toArray]; rfl) ?_)); refine AOps.nil ?_
      refine ⟨rfl, _, _, _, _, _, _, _, loopOf_at (by rw [hI.loop, hlp]), ?_⟩
      simp only [H.set]
      obtain ⟨kl2, hkl2⟩ : ∃ x, x = minN kl (N + 2) := ⟨_, rfl⟩
      have hl1 : N ≤ kl2 ∧ kl2 ≤ N + 3 := by
        have h1 := hI.low1; have h2 := hI.low2
        simp only at h1 h2
        rw [hkl2]; unfold minN
        cases hb : Nat.ble kl (N + 2)
        · rw [cond_ff]; omega
        · rw [cond_tt]; omega
      rw [← hkl2]
      generalize hbz : AO.loop LoopState.busy none (trOf f0 13) 13 #[7] _ _ (N + 1) = bz
      -- the body
      have hb2 : ∀ j, j ≠ N + 2 → (Tr.put o (N + 2) (some bz)).get j = o.get j := fun j hj => put_other _ _ hj
      have hbz2 : (Tr.put o (N + 2) (some bz)).get (N + 2) = some bz := put_same _ _ _
      generalize Tr.put o (N + 2) (some bz) = O4 at hb2 hbz2 ⊢
      have hrowN : rowO O4 N = some [v] := by unfold rowO; rw [hb2 N (by omega), hI.cell]; rfl
      have hout4 : OutAt (N + 4) ⟨Tr.put O4 kn (some (.cells [.str k] kn)), Tr.put fm kn (some (kn, kn)), kn + 1, kl2⟩ v 1 (ks.map sRow) :=
        hI.out.keep (fun j h1 h2 => by simp only at h2; rw [put_other _ _ (by omega)]; exact hb2 j (by omega)) (fun j h1 h2 => by simp only at h2; rw [put_other _ _ (by omega)]) (Nat.le_succ _)
      obtain ⟨v', ⟨o6, f6, n6, l6⟩, happ, hout6, hov6, hn6⟩ := append_out (P := Tryz.prog) (st := 57) (xt := 57) Tryz.underlying57 Tryz.underlying57 Tryz.info9 Tryz.zero9 rfl rfl (show (1 : Nat) ≠ 0 by decide) (by decide) hout4 (by show N + 4 ≤ kn + 1; omega) (new := [sRow k]) (y := .slice (some (kn, 0)) 1 1 (some 1)) rfl (by show rowO (Tr.put O4 kn _) kn = _; rw [rowO_put, if_pos rfl]; rfl) (by intro r hr; rw [List.mem_singleton.1 hr]; rfl) (by rfl) (by simp) (by rw [List.length_map]; omega) (by simp)
      have hl6 : l6 = kl2 := hov6.low (by show kl2 ≤ N + 4; omega)
      subst hl6
      simp only at hn6
      have h6N : o6.get N = some (.cells [v] N) := by rw [hov6.objs N (by omega)]; show (Tr.put O4 kn _).get N = _; rw [put_other _ _ (by omega), hb2 N (by omega)]; exact hI.cell
      have f6N : f6.get N = some (N, N) := by rw [hov6.fams N (by omega)]; show (Tr.put fm kn _).get N = _; rw [put_other _ _ (by omega)]; exact hI.fam
      (repeat refine AWp.seq ?_)
      refine AWp.block ?_
      (repeat refine AWp.seq ?_)
      refine AWp.region ?_
      (repeat (first | refine AOps.v rfl rfl rfl rfl rfl (by simp only [evS, cond_tt, cond_ff, absV, depthV, Nat.reduceEqDiff, Nat.reduceLT, ↓reduceIte, Option.map_some, Option.bind_some, List.toList_toArray, hf2, load_one Tryz.agg57, hrowN, List.getElem?_cons_zero, op_buildSlice, partsA_cons, partsA_nil, buildK, H.lay]; rfl) ?_ | refine AOps.s rfl rfl rfl ?_ | refine AOps.u rfl rfl rfl rfl (by simp only [evS, cond_tt, cond_ff, absV, depthV, Nat.reduceEqDiff, Nat.reduceLT, ↓reduceIte, Option.map_some, Option.bind_some, List.toList_toArray, hf2, load_one Tryz.agg57, hrowN, List.getElem?_cons_zero, op_buildSlice, partsA_cons, partsA_nil, buildK, H.lay]; rfl) ?_))
      (repeat (first | refine AOps.v rfl rfl rfl rfl rfl (by simp only [evS, cond_tt, cond_ff, absV, depthV, Nat.reduceEqDiff, Nat.reduceLT, ↓reduceIte, Option.map_some, Option.bind_some, List.toList_toArray, bi_append, happ]; rfl) ?_ | refine AOps.s rfl rfl rfl ?_ | refine AOps.u rfl rfl rfl rfl (by simp only [evS, cond_tt, cond_ff, absV, depthV, Nat.reduceEqDiff, Nat.reduceLT, ↓reduceIte, Option.map_some, Option.bind_some, List.toList_toArray, bi_append, happ]; rfl) ?_))
      refine AOps.st rfl rfl rfl (by simp only [hf2, evS, cond_tt, cond_ff, absV, depthV, Nat.reduceEqDiff, Nat.reduceLT, ↓reduceIte, Option.map_some, Option.bind_some, List.toList_toArray]; rfl) (by simp only [evS, cond_tt, cond_ff, absV, depthV, Nat.reduceEqDiff, Nat.reduceLT, ↓reduceIte, Option.map_some, Option.bind_some, List.toList_toArray]; rfl) (by rw [hout6.one]; exact Tryz.size57) h6N f6N (by rw [hout6.one]; rfl) (by rw [hout6.one]; simp [hout6.oneC]) (cs' := [v']) (by rw [hout6.one]; rfl) rfl ?_
      refine AOps.nil ?_
      have h6o : ∀ j, j < N + 4 → o6.get j = O4.get j := fun j hj => by rw [hov6.objs j hj]; show (Tr.put O4 kn _).get j = _; rw [put_other _ _ (by omega)]
      have f6o : ∀ j, j < N + 4 → f6.get j = fm.get j := fun j hj => by rw [hov6.fams j hj]; show (Tr.put fm kn _).get j = _; rw [put_other _ _ (by omega)]
      simp only [OutOf]
      refine ⟨rfl, _, _, _, _, _, _, _, _, loopOf_at (by show (Tr.put o6 N _).get (N + 2) = _; rw [put_other _ _ (by omega), h6o (N + 2) (by omega), hbz2, ← hbz]), rfl, v', ?_, by show kn ≤ n6; omega, ?_⟩
      · simp only [H.set, endS, endC]
        refine ⟨fun j hj => ?_, fun j hj => ?_, ?_, ?_, ?_, ?_, ?_, ?_, ?_⟩
        · show (Tr.put (Tr.put o6 N _) (N + 2) _).get j = _
          rw [put_other _ _ (by omega), put_other _ _ (by omega), h6o j (by omega), hb2 j (by omega)]; exact hI.objs j hj
        · show f6.get j = _
          rw [f6o j (by omega)]; exact hI.fams j hj
        · show N ≤ minN (minN l6 N) (N + 2)
          rw [minN_right (show N ≤ l6 from hl1.1), minN_left (show N ≤ N + 2 by omega)]; exact Nat.le_refl _
        · show minN (minN l6 N) (N + 2) ≤ N + 3
          rw [minN_right (show N ≤ l6 from hl1.1), minN_left (show N ≤ N + 2 by omega)]; omega
        · show (Tr.put (Tr.put o6 N _) (N + 2) _).get N = _
          rw [put_other _ _ (by omega), put_same]
        · exact f6N
        · show (Tr.put (Tr.put o6 N _) (N + 2) _).get (N + 1) = _
          rw [put_other _ _ (by omega), put_other _ _ (by omega), h6o (N + 1) (by omega), hb2 (N + 1) (by omega)]; exact hI.mark
        · show (Tr.put (Tr.put o6 N _) (N + 2) _).get (N + 2) = _
          rw [put_same, hlp]
        · have : (ks ++ [k]).map sRow = ks.map sRow ++ [sRow k] := by simp
          rw [this]
          exact hout6.keep (fun j h1 h2 => by show (Tr.put (Tr.put o6 N _) (N + 2) _).get j = _; rw [put_other _ _ (by omega), put_other _ _ (by omega)]) (fun j h1 h2 => rfl) (Nat.le_refl _)
      · show (Tr.put (Tr.put o6 N _) (N + 2) _).get (N + 3) = _
        rw [put_other _ _ (by omega), put_other _ _ (by omega), h6o (N + 3) (by omega), hb2 (N + 3) (by omega)]
    -- the iterator's own walk
    have hm3 : MapAt sAV uv O3 m l := (hI0.objs m hmN).trans hm
    have hb3 : rowO O3 bx = some [.map (some m)] := by unfold rowO; rw [show O3.get bx = _ from hI0.objs bx hbN]; exact hb
    refine ACalls.body (n := 14) Tryz.nogo Tryz.func135 rfl rfl ?_
    rw [argF2]
    have rg := fun fm nx lw => range_map (P := Tryz.prog) (t := 94) (h := ⟨O3, fm, nx, lw⟩) Tryz.underlying94 hm3
    simp only at rg
    (repeat refine AWp.seq ?_); change AWp _ _ _ _ _; refine AWp.region ?_; (repeat (first | refine AOps.v rfl rfl rfl rfl rfl (by simp only [evS, cond_tt, cond_ff, absV, depthV, Nat.reduceEqDiff, Nat.reduceLT, ↓reduceIte, Option.map_some, Option.bind_some, List.toList_toArray, load_one Tryz.agg94, hb3, List.getElem?_cons_zero, op_range, rg]; rfl) ?_ | refine AOps.s rfl rfl rfl ?_ | refine AOps.u rfl rfl rfl rfl (by simp only [evS, cond_tt, cond_ff, absV, depthV, Nat.reduceEqDiff, Nat.reduceLT, ↓reduceIte, Option.map_some, Option.bind_some, List.toList_toArray, load_one Tryz.agg94, hb3, List.getElem?_cons_zero, op_range, rg]; rfl) ?_)); refine AOps.nil ?_
    refine AWp.block (AWp.loop (fun k st => ∃ (seen : List Nat) (hk : H) (v : AV), k = l.length - seen.length ∧ seen.Nodup ∧ (∀ i ∈ seen, i < l.length) ∧
      KeyInv N lp h hk v ((handed l seen).map (·.1)) ∧ N + 4 ≤ hk.next ∧ IterAt hk.objs (N + 3) m l.length seen ∧
      Fr st [(0, .fn (.yield (N + 2)) [] []), (5, .ptr (some (N + 3, 0)))] 14 hk []) l.length ?_ ?_)
    · refine ⟨[], _, .slice none 0 0 (some 0), rfl, List.nodup_nil, (fun i hi => by cases hi), ?_, ?_, ?_, rfl, rfl, rfl, rfl, rfl, trivial⟩
      · refine ⟨fun j hj => ?_, hI0.fams, hI0.low1, hI0.low2, ?_, hI0.fam, ?_, ?_, hI0.out.keep (fun j h1 h2 => ?_) (fun _ _ _ => rfl) (Nat.le_succ _)⟩
        · show (Tr.put O3 (N + 3) _).get j = _
          rw [put_other _ _ (by omega)]; exact hI0.objs j hj
        · show (Tr.put O3 (N + 3) _).get N = _
          rw [put_other _ _ (by omega)]; exact hI0.cell
        · show (Tr.put O3 (N + 3) _).get (N + 1) = _
          rw [put_other _ _ (by omega)]; exact hI0.mark
        · show (Tr.put O3 (N + 3) _).get (N + 2) = _
          rw [put_other _ _ (by omega)]; exact hI0.loop
        · show (Tr.put O3 (N + 3) _).get j = _
          simp only at h2
          rw [put_other _ _ (by omega)]
      · exact Nat.le_refl _
      · exact put_same _ _ _
    rintro k st ⟨seen, ⟨ko, kf, kn, kl⟩, v, rfl, hnd, hlt, hI, hkn, hit, hF⟩
    obtain ⟨f, rfl⟩ := hF.open
    simp only [updL]
    simp only at hkn
    have hmk : MapAt sAV uv ko m l := (hI.objs m hmN).trans hm
    obtain ⟨outs, hno, hnx⟩ := next_map (h := ⟨ko, kf, kn, kl⟩) hmk hit
    (repeat refine AWp.seq ?_)
    refine AWp.region ?_
    refine AOps.n rfl rfl rfl rfl rfl (by rw [op_next (ev_tmp (by omega))]; simp only [upd_eq, Nat.reduceEqDiff, ↓reduceIte]; rw [hno]; rfl) ?_
    intro x hx
    obtain ⟨y, hyx, rfl⟩ := List.mem_map.1 hx
    rcases hnx y hyx with ⟨rfl, hall⟩ | ⟨i, e, hie, hin, rfl⟩
    · simp only [orU_some]
      (repeat (first | refine AOps.v rfl rfl rfl rfl rfl (by simp only [evS, cond_tt, cond_ff, absV, depthV, Nat.reduceEqDiff, Nat.reduceLT, ↓reduceIte, Option.map_some, Option.bind_some, List.toList_toArray]; rfl) ?_ | refine AOps.s rfl rfl rfl ?_ | refine AOps.u rfl rfl rfl rfl (by simp only [evS, cond_tt, cond_ff, absV, depthV, Nat.reduceEqDiff, Nat.reduceLT, ↓reduceIte, Option.map_some, Option.bind_some, List.toList_toArray]; rfl) ?_))
      refine AOps.nil ?_
      (repeat refine AWp.seq ?_); change AWp _ _ _ _ _; refine AWp.no (by rfl) (by rfl) ?_
      refine AWp.exit ?_
      have hperm := handed_all hnd hlt hall
      (try simp only [OutOf, Then, Round, NoGoto, if_true])
      refine ⟨rfl, _, rfl, .tup [], rfl, .inl ⟨v, _, hperm.map _, ?_, hI.objs, hI.fams, ?_, ?_, hI.cell, hI.fam, hI.mark, hI.loop, hI.out⟩⟩
      · show minN N kl = N
        exact minN_left hI.low1
      · show N ≤ minN N kl
        rw [minN_left (show N ≤ kl from hI.low1)]; exact Nat.le_refl _
      · show minN N kl ≤ N + 3
        rw [minN_left (show N ≤ kl from hI.low1)]; omega
    · simp only [orU_some, H.set]
      have hlen2 := nodup_len hnd hlt
      have hi1 : IterAt (Tr.put ko (N + 3) (some (.miter (some m) l.length (seen ++ [i]) l.length))) (N + 3) m l.length (seen ++ [i]) := put_same _ _ _
      have hO1o : ∀ j, j ≠ N + 3 → (Tr.put ko (N + 3) (some (.miter (some m) l.length (seen ++ [i]) l.length))).get j = ko.get j := fun j hj => put_other _ _ hj
      generalize Tr.put ko (N + 3) (some (.miter (some m) l.length (seen ++ [i]) l.length)) = O1 at hi1 hO1o ⊢
      obtain ⟨k1, hk1⟩ : ∃ x, x = minN kl (N + 3) := ⟨_, rfl⟩
      have hkk : k1 = kl := by rw [hk1]; exact minN_left hI.low2
      rw [← hk1, hkk]
      have hm1 : MapAt sAV uv O1 m l := (hO1o m (by omega)).trans hmk
      have hI1 : KeyInv N lp h ⟨O1, kf, kn, kl⟩ v ((handed l seen).map (·.1)) :=
        ⟨fun j hj => (hO1o j (by omega)).trans (hI.objs j hj), hI.fams, hI.low1, hI.low2, (hO1o _ (by omega)).trans hI.cell, hI.fam, (hO1o _ (by omega)).trans hI.mark, (hO1o _ (by omega)).trans hI.loop, hI.out.keep (fun j h1 _ => hO1o j (by omega)) (fun _ _ _ => rfl) (Nat.le_refl _)⟩
      have hen := entry_map (h := ⟨O1, kf, kn, kl⟩) hm1 hi1 hie
      (repeat (first | refine AOps.v rfl rfl rfl rfl rfl (by simp only [evS, cond_tt, cond_ff, absV, depthV, Nat.reduceEqDiff, Nat.reduceLT, ↓reduceIte, Option.map_some, Option.bind_some, List.toList_toArray]; rfl) ?_ | refine AOps.s rfl rfl rfl ?_ | refine AOps.u rfl rfl rfl rfl (by simp only [evS, cond_tt, cond_ff, absV, depthV, Nat.reduceEqDiff, Nat.reduceLT, ↓reduceIte, Option.map_some, Option.bind_some, List.toList_toArray]; rfl) ?_))
      refine AOps.nil ?_
      (repeat refine AWp.seq ?_); change AWp _ _ _ _ _; refine AWp.yes (by rfl) (by rfl) (AWp.skip ?_)
      (repeat refine AWp.seq ?_)
      refine AWp.block ?_
      (repeat refine AWp.seq ?_); change AWp _ _ _ _ _; refine AWp.region ?_; (repeat (first | refine AOps.v rfl rfl rfl rfl rfl (by simp only [evS, cond_tt, cond_ff, absV, depthV, Nat.reduceEqDiff, Nat.reduceLT, ↓reduceIte, Option.map_some, Option.bind_some, List.toList_toArray, op_entry, hen]; rfl) ?_ | refine AOps.s rfl rfl rfl ?_ | refine AOps.u rfl rfl rfl rfl (by simp only [evS, cond_tt, cond_ff, absV, depthV, Nat.reduceEqDiff, Nat.reduceLT, ↓reduceIte, Option.map_some, Option.bind_some, List.toList_toArray, op_entry, hen]; rfl) ?_)); refine AOps.nil ?_
      (repeat refine AWp.seq ?_); change AWp _ _ _ _ _; refine AWp.region ?_; (repeat (first | refine AOps.v rfl rfl rfl rfl rfl (by simp only [evS, cond_tt, cond_ff, absV, depthV, Nat.reduceEqDiff, Nat.reduceLT, ↓reduceIte, Option.map_some, Option.bind_some, List.toList_toArray]; rfl) ?_ | refine AOps.s rfl rfl rfl ?_ | refine AOps.u rfl rfl rfl rfl (by simp only [evS, cond_tt, cond_ff, absV, depthV, Nat.reduceEqDiff, Nat.reduceLT, ↓reduceIte, Option.map_some, Option.bind_some, List.toList_toArray]; rfl) ?_))
      refine AOps.c rfl rfl rfl rfl rfl (by simp only [callOf_val, callW_fn, evS, cond_tt, cond_ff, absV, depthV, Nat.reduceEqDiff, Nat.reduceLT, ↓reduceIte, Option.map_some, Option.bind_some, List.toList_toArray]; rfl) rfl (hy ⟨O1, kf, kn, kl⟩ v _ e.1 hI1 hkn (by rw [List.length_map]; unfold handed; exact Nat.le_trans (List.length_filterMap_le _ _) (by omega))) ?_
      rintro r ⟨o7, f7, n7, l7⟩ ⟨rfl, v', hI7, hn7, hit7⟩
      simp only at hn7 hit7
      (repeat (first | refine AOps.v rfl rfl rfl rfl rfl (by simp only [evS, cond_tt, cond_ff, absV, depthV, Nat.reduceEqDiff, Nat.reduceLT, ↓reduceIte, Option.map_some, Option.bind_some, List.toList_toArray]; rfl) ?_ | refine AOps.s rfl rfl rfl ?_ | refine AOps.u rfl rfl rfl rfl (by simp only [evS, cond_tt, cond_ff, absV, depthV, Nat.reduceEqDiff, Nat.reduceLT, ↓reduceIte, Option.map_some, Option.bind_some, List.toList_toArray]; rfl) ?_))
      refine AOps.nil ?_
      (repeat refine AWp.seq ?_); change AWp _ _ _ _ _; refine AWp.no (by rfl) (by rfl) (AWp.skip ?_)
      have hsn : (handed l (seen ++ [i])).map (·.1) = (handed l seen).map (·.1) ++ [e.1] := by rw [handed_snoc l seen hie]; simp
      have hnd' := nodup_snoc hnd hin
      have hlt' : ∀ j ∈ seen ++ [i], j < l.length := fun j hj => by
        rcases List.mem_append.1 hj with hj | hj
        · exact hlt j hj
        · rw [List.mem_singleton.1 hj]; exact idx_lt hie
      have := nodup_len hnd' hlt'
      rw [List.length_append, List.length_singleton] at this
      refine ⟨l.length - (seen ++ [i]).length, by rw [List.length_append, List.length_singleton]; omega, seen ++ [i], ⟨o7, f7, n7, l7⟩, v', rfl, hnd', hlt', by rw [hsn]; exact hI7, by show N + 4 ≤ n7; omega, hit7.trans hi1, rfl, rfl, rfl, ?_⟩
      simp only [Has, upd_eq]
      exact ⟨rfl, rfl, trivial⟩
  · rintro lp v h' hlp ⟨o, ks, hp, hlow, hI⟩
    obtain ⟨o5, f5, n5, l5⟩ := h'
    simp only at hlow
    subst hlow
    refine RangeQ.done (by rw [← hlp]; exact hI.loop) ?_
    (try simp only [OutOf, Then, Round, NoGoto, if_true])
    simp only [H.set]
    generalize hlx : AO.loop LoopState.exhausted none _ _ _ _ _ _ = lx
    have hrowN : rowO (Tr.put o5 (l5 + 1 + 1) (some lx)) l5 = some [o] := by
      rw [rowO_put, if_neg (by omega)]; unfold rowO; rw [show o5.get l5 = _ from hI.cell]; rfl
    show AWp _ _ _ _ _
    (repeat refine AWp.seq ?_); change AWp _ _ _ _ _; refine AWp.region ?_; (repeat (first | refine AOps.v rfl rfl rfl rfl rfl (by simp only [evS, cond_tt, cond_ff, absV, depthV, Nat.reduceEqDiff, Nat.reduceLT, ↓reduceIte, Option.map_some, Option.bind_some, List.toList_toArray, hf2, load_one Tryz.agg57, hrowN, List.getElem?_cons_zero]; rfl) ?_ | refine AOps.s rfl rfl rfl ?_ | refine AOps.u rfl rfl rfl rfl (by simp only [evS, cond_tt, cond_ff, absV, depthV, Nat.reduceEqDiff, Nat.reduceLT, ↓reduceIte, Option.map_some, Option.bind_some, List.toList_toArray, hf2, load_one Tryz.agg57, hrowN, List.getElem?_cons_zero]; rfl) ?_)); refine AOps.nil ?_
    refine AWp.ret ?_
    (try simp only [OutOf, Then, Round, NoGoto])
    have hmark : (Tr.put o5 (l5 + 1 + 1) (some lx)).get (l5 + 1) = some (.dfr false) := by rw [put_other _ _ (by omega)]; exact hI.mark
    obtain ⟨h9, hh9⟩ : ∃ h9 : H, h9 = ⟨Tr.put (Tr.put o5 (l5 + 1 + 1) (some lx)) (l5 + 1) (some (.dfr true)), f5, n5, l5⟩ := ⟨_, rfl⟩
    have hlow9 : minN (minN l5 (l5 + 1 + 1)) (l5 + 1) = l5 := by rw [minN_left (show l5 ≤ l5 + 1 + 1 by omega), minN_left (show l5 ≤ l5 + 1 by omega)]
    have hout9 : OutAt (l5 + 4) h9 o 1 (ks.map sRow) := by
      rw [hh9]
      exact hI.out.keep (fun j h1 h2 => by show (Tr.put (Tr.put o5 _ _) _ _).get j = _; rw [put_other _ _ (by omega), put_other _ _ (by omega)]) (fun _ _ _ => rfl) (Nat.le_refl _)
    refine ⟨rfl, h9, ?_, o, ?_, ?_⟩
    · simp only [leaveA, hmark, Ev.one, H.set, hlow9]
      rw [hh9]
    · simp only [resultsA, Tryz.f196, List.mapM_cons, List.mapM_nil, evS, cond_tt, cond_ff, absV, depthV, Nat.reduceEqDiff, Nat.reduceLT, ↓reduceIte, Option.map_some, Option.bind_some, List.toList_toArray]
      rfl
    · right
      by_cases hks : ks = []
      · subst hks
        have hv0 := hout9.nil_of
        subst hv0
        exact ⟨_, [], [], rfl, by rw [hh9]; exact hN, [], hp, by simp only [backK, if_true], by simp only [backK, if_true, layAll]⟩
      · have hne : ks.map sRow ≠ [] := by simpa using hks
        obtain ⟨fam, hcan⟩ := canon_out hout9 (show h.next ≤ l5 + 4 by omega) (by intro r hr; obtain ⟨t, _, rfl⟩ := List.mem_map.1 hr; exact plain_sRow t) hne [] rfl 2
        exact ⟨_, _, _, hcan, by rw [hh9]; exact hN, ks, hp, by simp only [backK, hks, if_false, List.length_map], by simp only [backK, hks, if_false]⟩

end
end Go.Proofs

/- Seat r1: slices.Sort at strings; slices.Sorted of maps.Keys. No conditions beyond those that each theorem states. -/
namespace Go.Proofs
open Go.Ev Go.RowKit Go.Shelf Go.Lib Go.Sort
set_option maxRecDepth 100000

def SortedK (ks : List (List Nat)) : Prop := ks.Pairwise fun a b => ltL b a = false

theorem Tryz.sort113_ev : ends (evV Tryz.prog [] 60 20 (.func 127) [.slice none 0 0 (some 0)] hz) (.tup []) = true := by kernel_rfl

theorem one_encStr (x : List UInt8) : (encStr x).oneCell' = true := rfl

theorem le_ltL (x y : List UInt8) : decide (x ≤ y) = !ltL (y.map (·.toNat)) (x.map (·.toNat)) := by
  rw [ltL_bytes, bytesLess_eq]
  by_cases h : y < x
  · have : ¬ x ≤ y := fun h2 => h2 h
    simp [h, this]
  · have : x ≤ y := h
    simp [h, this]

def rdB : Option Value → ByteArray
  | some (.string s) => s
  | _ => ByteArray.empty

def ksB (ss : List (List UInt8)) : List (List Nat) := ss.map fun s => s.map (·.toNat)

set_option maxHeartbeats 1000000 in
theorem Tryz.sortK (ks : List (List Nat)) (v : AV) (Z : Nat) (h : Ev.H) (hout : OutAt Z h v 1 (ks.map sRow)) (hlen : ks.length ≤ 1000000) :
    ACalls Tryz.prog (.func 127) [v] h (fun r h' => r = .tup [] ∧ ∃ ks' : List (List Nat), ks'.Perm ks ∧ SortedK ks' ∧ OutAt Z h' v 1 (ks'.map sRow) ∧ Over Z h h') := by
  intro σ w args' hv hr
  obtain ⟨x, rfl, hx⟩ := args1 hv
  rw [callFunc_enter Tryz.nogo Tryz.func127 (by rfl)]
  rcases hout.2 with ⟨e, e2⟩ | ⟨id, fam, fx, fy, hne, e2, ho, hfx, hxy, z1, z2, z3, z4, l1, l2, l3, l4⟩
  · subst e2
    have hts : ks = [] := by simpa using e
    subst hts
    cases hx with
    | sliceN hl =>
      refine Calls.mono (AnyM.slices_Sort_string_none Tryz.sortM6 none 0 w) fun e w' ⟨he, hw⟩ => ?_
      subst hw
      exact ⟨_, he, .tup [], h, ⟨rfl, [], .refl _, List.Pairwise.nil, hout, Over.refl _ _⟩, σ, V.und, hr, .refl _ _ _⟩
  · subst e2
    have hpos : 0 < ks.length := by
      cases ks with
      | nil => exact absurd rfl hne
      | cons => exact Nat.succ_pos _
    rw [List.length_map] at hx
    cases hx with
    | @slice _ _ _ _ _ a p c hs hl hrr hcc ha =>
    have ha : a = ⟨p.b, p.d + 0, none⟩ := ha.resolve_right (by omega)
    subst ha
    obtain ⟨q, carr, et, hq, hb, hsz, hlen', hVc⟩ := hr.cells ho
    rw [hs] at hq; cases hq
    have hfl : (ks.map sRow).flatten.length = ks.length * 1 := by
      have := flat_len (s := 1) hout.1
      rw [List.length_map] at this; exact this
    have hpl := hr.lt ho hs
    let d : List (List UInt8) := (List.range ks.length).map fun i => (rdB carr[p.d + i]?).data.toList
    have hdl0 : d.length = ks.length := by simp [d]
    have hspec : ∀ i, i < ks.length → ∃ s : ByteArray, carr[p.d + i]? = some (.string s) ∧ ks[i]? = some (s.data.toList.map (·.toNat)) ∧ d[i]? = some s.data.toList := fun i hi => by
      have hki : ks[i]? = some ks[i] := List.getElem?_eq_getElem hi
      have hg : (ks.map sRow)[i]? = some (sRow ks[i]) := by rw [List.getElem?_map, hki]; rfl
      have h0 := flat_at hout.1 hg (k := 0) (by omega)
      obtain ⟨v0, g0, V0⟩ := hVc _ _ (h0.trans (show (sRow ks[i])[0]? = some (.str ks[i]) from rfl))
      rw [Nat.mul_one, Nat.add_zero] at g0
      generalize hkk : ks[i] = kk at V0
      cases V0 with
      | @str _ s0 e0 =>
        refine ⟨s0, g0, by rw [hki, hkk, e0], ?_⟩
        show ((List.range ks.length).map _)[i]? = _
        rw [List.getElem?_map, List.getElem?_range hi, Option.map_some, g0]; rfl
    have hH : Holds encStr w p.b (p.d + 0) d.toArray := by
      intro j hj
      have hj' : j < ks.length := by simpa [hdl0] using hj
      obtain ⟨s, g1, g2, g3⟩ := hspec j hj'
      refine ⟨?_, frozen_of hb⟩
      rw [cell_of hb, Nat.add_zero, g1]
      rw [getElem!_pos d.toArray j hj]
      have : d.toArray[j] = s.data.toList := by
        have h1 := List.getElem?_eq_getElem (l := d) (i := j) (by omega)
        rw [g3] at h1
        simpa using (Option.some.inj h1).symm
      rw [this]
    have hmain := AnyM.slices_Sort_string Tryz.sortM6 p.b (p.d + 0) c d w hH hpl (by rw [hdl0]; omega)
    rw [hdl0] at hmain
    change Calls Tryz.prog 127 _ _ _ at hmain
    refine Calls.mono hmain ?_
    rintro e w' ⟨rfl, n, os, rfl⟩
    obtain ⟨d', hd'⟩ : ∃ d', d' = d.mergeSort fun x y => decide (x ≤ y) := ⟨_, rfl⟩
    rw [← hd']
    have hp3 : d'.Perm d := by rw [hd']; exact List.mergeSort_perm _ _
    have hp1 : d'.length = ks.length := by rw [hp3.length_eq, hdl0]
    have hsorted : d'.Pairwise fun x y => decide (x ≤ y) = true := by
      rw [hd']
      refine List.pairwise_mergeSort ?_ ?_ d
      · intro a b c h1 h2
        rw [le_ltL] at *
        simp only [Bool.not_eq_true'] at *
        cases h : ltL (c.map (·.toNat)) (a.map (·.toNat))
        · rfl
        · rcases ltL_tri (a.map (·.toNat)) (b.map (·.toNat)) with g | g | g
          · have := ltL_trans h g
            rw [h2] at this; cases this
          · rw [g, h2] at h; cases h
          · rw [h1] at g; cases g
      · intro a b
        rw [le_ltL, le_ltL]
        rcases ltL_tri (a.map (·.toNat)) (b.map (·.toNat)) with g | g | g
        · rw [ltL_asymm g]; rfl
        · rw [g, ltL_irrefl]; rfl
        · rw [ltL_asymm g]; simp
    have hdl : ksB d = ks := by
      apply List.ext_getElem?
      intro i
      unfold ksB
      by_cases hi : i < ks.length
      · obtain ⟨s, g1, g2, g3⟩ := hspec i hi
        rw [List.getElem?_map, g3, g2]; rfl
      · rw [List.getElem?_eq_none (by simp [hdl0]; omega), List.getElem?_eq_none (by omega)]
    have hperm : (ksB d').Perm ks := by rw [← hdl]; exact hp3.map _
    have hsx : SortedK (ksB d') := by
      unfold SortedK ksB
      rw [List.pairwise_map]
      refine hsorted.imp ?_
      intro a b h1
      rw [le_ltL] at h1
      simpa using h1
    have hlen2 : (ksB d').length = ks.length := by unfold ksB; rw [List.length_map, hp1]
    have hw3 := sRows_wide (ksB d')
    have hb1 : (putRow encStr (Sort.ahead w n) p.b (p.d + 0) d'.toArray).heap[p.b]? = some (.cells (putCells encStr (p.d + 0) d'.toArray carr) et (0, 0)) := by
      unfold putRow mapBlock
      simp only [Array.getElem?_modify, if_true]
      rw [show (Sort.ahead w n).heap[p.b]? = some (.cells carr et (0, 0)) from hb]
      rfl
    have hoth : ∀ b, b ≠ p.b → (putRow encStr (Sort.ahead w n) p.b (p.d + 0) d'.toArray).heap[b]? = w.heap[b]? := fun b hbb => by
      unfold putRow mapBlock
      simp only [Array.getElem?_modify]
      rw [if_neg (fun e => hbb e.symm)]; rfl
    have hVn : ∀ (i : Nat) (a : AV), ((ksB d').map sRow).flatten[i]? = some a → ∃ v, (putCells encStr (p.d + 0) d'.toArray carr)[p.d + i]? = some v ∧ V σ a v := by
      intro i a hia
      have hil : i < ks.length := by
        have := idx_lt hia
        rw [flat_len hw3, List.length_map, hlen2] at this; omega
      have hj : i < d'.length := by omega
      have hrow : ((ksB d').map sRow)[i]? = some (sRow (d'[i].map (·.toNat))) := by
        unfold ksB
        rw [List.getElem?_map, List.getElem?_map, List.getElem?_eq_getElem hj]; rfl
      have hat := flat_at hw3 hrow (k := 0) (by omega)
      rw [Nat.mul_one, Nat.add_zero, hia] at hat
      have hcl : p.d + i < carr.size := by omega
      have hput : (putCells encStr (p.d + 0) d'.toArray carr)[p.d + i]? = some (encStr d'[i]) := by
        unfold putCells
        rw [Array.getElem?_mapIdx, Array.getElem?_eq_getElem hcl, Option.map_some, if_pos ⟨by omega, by simp; omega⟩]
        rw [show p.d + i - (p.d + 0) = i by omega, getElem!_pos d'.toArray i (by simpa using hj)]
        simp
      refine ⟨_, hput, ?_⟩
      cases hat
      exact .str rfl
    obtain ⟨r1, r2⟩ := hr.rewrite ho hs (cs' := ((ksB d').map sRow).flatten) (by rw [flat_len hw3, List.length_map, hlen2, hfl]) hb hb1 (by unfold putCells; rw [Array.size_mapIdx]) hVn hoth (by unfold putRow mapBlock; simp [Sort.ahead]) rfl rfl rfl
    have hbel : Below (putRow encStr (Sort.ahead w n) p.b (p.d + 0) d'.toArray).heap.size (putRow encStr (Sort.ahead w n) p.b (p.d + 0) d'.toArray) (grow (putRow encStr (Sort.ahead w n) p.b (p.d + 0) d'.toArray) os) :=
      ⟨rfl, rfl, rfl, by rw [size_grow]; omega, fun k hk => by unfold grow; simp only; rw [Array.getElem?_append_left hk]⟩
    have hkeep := below_keep r1 hbel
    obtain ⟨ao1, ao2⟩ := alone_over (id := id) hfx z2 z3 z4
    have hne' : (ksB d').map sRow ≠ [] := by
      intro e
      have := congrArg List.length e
      rw [List.length_map, hlen2] at this
      simp at this; rw [this] at hpos; simp at hpos
    refine ⟨_, rfl, .tup [], _, ⟨rfl, ksB d', hperm, hsx, ⟨hw3, .inr ⟨id, fam, id, id, hne', ?_, ?_, ?_, .inl rfl, z1, z1, z1, z4, ?_, ?_, ?_, ?_⟩⟩, ?_⟩, σ, V.und, hkeep.1, r2.trans hkeep.2⟩
    · rw [List.length_map, List.length_map, hlen2]
    · exact put_same _ _ _
    · exact alone_fam hfx
    · show id < (h.alone id fam).next; rw [ao2]; exact l1
    · show id < (h.alone id fam).next; rw [ao2]; exact l1
    · show id < (h.alone id fam).next; rw [ao2]; exact l1
    · show fam < (h.alone id fam).next; rw [ao2]; exact l4
    · refine ao1.trans ⟨Nat.le_refl _, fun j hj => put_other _ _ (by omega), fun _ _ => rfl, fun hl => minN_left (by omega)⟩

section
variable {U : Type} {uv : U → AV}

theorem back_outK (h : Ev.H) (ks : List (List Nat)) : OutAt h.next (backK h ks).2 (backK h ks).1 1 (ks.map sRow) ∧ Over h.next h (backK h ks).2 := by
  unfold backK
  split
  · rename_i e
    subst e
    exact ⟨⟨fun r hr => (List.not_mem_nil hr).elim, .inl ⟨rfl, rfl⟩⟩, Over.refl _ _⟩
  · rename_i e
    refine ⟨⟨sRows_wide ks, .inr ⟨h.next, h.next, h.next, h.next, by simpa using e, by rw [List.length_map], put_same _ _ _, put_same _ _ _, .inl rfl, Nat.le_refl _, Nat.le_refl _, Nat.le_refl _, Nat.le_refl _, Nat.lt_succ_self _, Nat.lt_succ_self _, Nat.lt_succ_self _, Nat.lt_succ_self _⟩⟩,
      ⟨Nat.le_succ _, fun j hj => put_other _ _ (by omega), fun j hj => put_other _ _ (by omega), fun _ => rfl⟩⟩

theorem Tryz.collect (l : List (List Nat × U)) (m bx : Nat) (h : Ev.H) (hb : rowO h.objs bx = some [.map (some m)]) (hbx : bx < h.next) (hm : MapAt sAV uv h.objs m l) (hmn : m < h.next) (hlen : l.length ≤ 100000) :
    ACalls Tryz.prog (.func 134) [.fn (.func 135) [] [.ptr (some (bx, 0))]] h
      (fun v h' => ∃ ks : List (List Nat), ks.Perm (l.map (·.1)) ∧ Over h.next h h' ∧ OutAt h.next h' v 1 (ks.map sRow)) := by
  refine ACalls.body (n := 5) Tryz.nogo Tryz.func134 rfl rfl ?_
  rw [argF1]
  (repeat refine AWp.seq ?_); change AWp _ _ _ _ _; refine AWp.region ?_; (repeat (first | refine AOps.v rfl rfl rfl rfl rfl (by simp only [evS, cond_tt, cond_ff, absV, depthV, Nat.reduceEqDiff, Nat.reduceLT, ↓reduceIte, Option.map_some, Option.bind_some, List.toList_toArray]; rfl) ?_ | refine AOps.s rfl rfl rfl ?_ | refine AOps.u rfl rfl rfl rfl (by simp only [evS, cond_tt, cond_ff, absV, depthV, Nat.reduceEqDiff, Nat.reduceLT, ↓reduceIte, Option.map_some, Option.bind_some, List.toList_toArray]; rfl) ?_)); refine AOps.nil ?_
  (repeat refine AWp.seq ?_); change AWp _ _ _ _ _; refine AWp.region ?_; (repeat (first | refine AOps.v rfl rfl rfl rfl rfl (by simp only [evS, cond_tt, cond_ff, absV, depthV, Nat.reduceEqDiff, Nat.reduceLT, ↓reduceIte, Option.map_some, Option.bind_some, List.toList_toArray]; rfl) ?_ | refine AOps.s rfl rfl rfl ?_ | refine AOps.u rfl rfl rfl rfl (by simp only [evS, cond_tt, cond_ff, absV, depthV, Nat.reduceEqDiff, Nat.reduceLT, ↓reduceIte, Option.map_some, Option.bind_some, List.toList_toArray]; rfl) ?_))
  refine AOps.c rfl rfl rfl rfl rfl (by simp only [callOf_val, callW_fn, evS, cond_tt, cond_ff, absV, depthV, Nat.reduceEqDiff, Nat.reduceLT, ↓reduceIte, Option.map_some, Option.bind_some, List.toList_toArray]; rfl) rfl (Tryz.appendSeq (uv := uv) l m bx ⟨h.objs, h.fams, h.next, h.next⟩ hb hbx hm hmn hlen) ?_
  rintro _ _ ⟨ks, hp, rfl, rfl⟩
  obtain ⟨k1, k2⟩ := back_outK ⟨h.objs, h.fams, h.next, h.next⟩ ks
  generalize backK ⟨h.objs, h.fams, h.next, h.next⟩ ks = bk at k1 k2 ⊢
  obtain ⟨v, o, f, n, lw⟩ := bk
  have hlw : lw = h.next := k2.low (Nat.le_refl _)
  subst hlw
  simp only at k1 k2 ⊢
  (repeat (first | refine AOps.v rfl rfl rfl rfl rfl (by simp only [evS, cond_tt, cond_ff, absV, depthV, Nat.reduceEqDiff, Nat.reduceLT, ↓reduceIte, Option.map_some, Option.bind_some, List.toList_toArray]; rfl) ?_ | refine AOps.s rfl rfl rfl ?_ | refine AOps.u rfl rfl rfl rfl (by simp only [evS, cond_tt, cond_ff, absV, depthV, Nat.reduceEqDiff, Nat.reduceLT, ↓reduceIte, Option.map_some, Option.bind_some, List.toList_toArray]; rfl) ?_))
  refine AOps.nil ?_
  refine AWp.ret ?_
  (try simp only [OutOf, Then, Round, NoGoto])
  refine ⟨rfl, _, rfl, v, by rfl, .inl ⟨ks, hp, ⟨k2.next, k2.objs, k2.fams, fun hl => minN_left hl⟩, k1.keep (fun _ _ _ => rfl) (fun _ _ _ => rfl) (Nat.le_refl _)⟩⟩

theorem Tryz.sorted (l : List (List Nat × U)) (m bx : Nat) (h : Ev.H) (hb : rowO h.objs bx = some [.map (some m)]) (hbx : bx < h.next) (hm : MapAt sAV uv h.objs m l) (hmn : m < h.next) (hlen : l.length ≤ 100000) :
    ACalls Tryz.prog (.func 71) [.fn (.func 135) [] [.ptr (some (bx, 0))]] h
      (fun v h' => ∃ ks : List (List Nat), ks.Perm (l.map (·.1)) ∧ SortedK ks ∧ Over h.next h h' ∧ OutAt h.next h' v 1 (ks.map sRow)) := by
  refine ACalls.body (n := 9) Tryz.nogo Tryz.func71 rfl rfl ?_
  rw [argF1]
  (repeat refine AWp.seq ?_); change AWp _ _ _ _ _; refine AWp.region ?_; (repeat (first | refine AOps.v rfl rfl rfl rfl rfl (by simp only [evS, cond_tt, cond_ff, absV, depthV, Nat.reduceEqDiff, Nat.reduceLT, ↓reduceIte, Option.map_some, Option.bind_some, List.toList_toArray]; rfl) ?_ | refine AOps.s rfl rfl rfl ?_ | refine AOps.u rfl rfl rfl rfl (by simp only [evS, cond_tt, cond_ff, absV, depthV, Nat.reduceEqDiff, Nat.reduceLT, ↓reduceIte, Option.map_some, Option.bind_some, List.toList_toArray]; rfl) ?_)); refine AOps.nil ?_
  (repeat refine AWp.seq ?_); change AWp _ _ _ _ _; refine AWp.region ?_; (repeat (first | refine AOps.v rfl rfl rfl rfl rfl (by simp only [evS, cond_tt, cond_ff, absV, depthV, Nat.reduceEqDiff, Nat.reduceLT, ↓reduceIte, Option.map_some, Option.bind_some, List.toList_toArray]; rfl) ?_ | refine AOps.s rfl rfl rfl ?_ | refine AOps.u rfl rfl rfl rfl (by simp only [evS, cond_tt, cond_ff, absV, depthV, Nat.reduceEqDiff, Nat.reduceLT, ↓reduceIte, Option.map_some, Option.bind_some, List.toList_toArray]; rfl) ?_))
  refine AOps.c rfl rfl rfl rfl rfl (by simp only [callOf_val, callW_fn, evS, cond_tt, cond_ff, absV, depthV, Nat.reduceEqDiff, Nat.reduceLT, ↓reduceIte, Option.map_some, Option.bind_some, List.toList_toArray]; rfl) rfl (Tryz.collect (uv := uv) l m bx ⟨h.objs, h.fams, h.next, h.next⟩ hb hbx hm hmn hlen) ?_
  rintro v ⟨o, f, n, lw⟩ ⟨ks, hp, hov, hout⟩
  have hlw : lw = h.next := hov.low (Nat.le_refl _)
  subst hlw
  (repeat (first | refine AOps.v rfl rfl rfl rfl rfl (by simp only [evS, cond_tt, cond_ff, absV, depthV, Nat.reduceEqDiff, Nat.reduceLT, ↓reduceIte, Option.map_some, Option.bind_some, List.toList_toArray]; rfl) ?_ | refine AOps.s rfl rfl rfl ?_ | refine AOps.u rfl rfl rfl rfl (by simp only [evS, cond_tt, cond_ff, absV, depthV, Nat.reduceEqDiff, Nat.reduceLT, ↓reduceIte, Option.map_some, Option.bind_some, List.toList_toArray]; rfl) ?_))
  refine AOps.nil ?_
  (repeat refine AWp.seq ?_); change AWp _ _ _ _ _; refine AWp.region ?_; (repeat (first | refine AOps.v rfl rfl rfl rfl rfl (by simp only [evS, cond_tt, cond_ff, absV, depthV, Nat.reduceEqDiff, Nat.reduceLT, ↓reduceIte, Option.map_some, Option.bind_some, List.toList_toArray]; rfl) ?_ | refine AOps.s rfl rfl rfl ?_ | refine AOps.u rfl rfl rfl rfl (by simp only [evS, cond_tt, cond_ff, absV, depthV, Nat.reduceEqDiff, Nat.reduceLT, ↓reduceIte, Option.map_some, Option.bind_some, List.toList_toArray]; rfl) ?_))
  refine AOps.c rfl rfl rfl rfl rfl (by simp only [callOf_val, callW_fn, evS, cond_tt, cond_ff, absV, depthV, Nat.reduceEqDiff, Nat.reduceLT, ↓reduceIte, Option.map_some, Option.bind_some, List.toList_toArray]; rfl) rfl (Tryz.sortK ks v h.next ⟨o, f, n, h.next⟩ hout (by rw [hp.length_eq, List.length_map]; omega)) ?_
  rintro _ ⟨o2, f2, n2, lw2⟩ ⟨rfl, ks', hp', hs', hout', hov'⟩
  have hlw2 : lw2 = h.next := hov'.low (Nat.le_refl _)
  subst hlw2
  refine AOps.nil ?_
  (repeat refine AWp.seq ?_); change AWp _ _ _ _ _; refine AWp.region ?_; (repeat (first | refine AOps.v rfl rfl rfl rfl rfl (by simp only [evS, cond_tt, cond_ff, absV, depthV, Nat.reduceEqDiff, Nat.reduceLT, ↓reduceIte, Option.map_some, Option.bind_some, List.toList_toArray]; rfl) ?_ | refine AOps.s rfl rfl rfl ?_ | refine AOps.u rfl rfl rfl rfl (by simp only [evS, cond_tt, cond_ff, absV, depthV, Nat.reduceEqDiff, Nat.reduceLT, ↓reduceIte, Option.map_some, Option.bind_some, List.toList_toArray]; rfl) ?_)); refine AOps.nil ?_
  refine AWp.ret ?_
  (try simp only [OutOf, Then, Round, NoGoto])
  have hov2 := hov.trans hov'
  refine ⟨rfl, _, rfl, v, by rfl, .inl ⟨ks', hp'.trans hp, hs', ⟨hov2.next, hov2.objs, hov2.fams, fun hl => minN_left hl⟩, hout'.keep (fun _ _ _ => rfl) (fun _ _ _ => rfl) (Nat.le_refl _)⟩⟩

end
/-- The rules of the types of this seat, together. -/
theorem Tryz.tw : (type_of% (fun {h : H} {id off : Nat} => load_agg (h := h) (id := id) (off := off) Tryz.agg59 Tryz.size59)) ∧
  (type_of% (fun {h : H} {id off : Nat} => load_agg (h := h) (id := id) (off := off) Tryz.agg90 Tryz.size90)) ∧
  (type_of% (fun {h : H} {id off : Nat} => load_agg (h := h) (id := id) (off := off) Tryz.agg79 Tryz.size79)) ∧
  (type_of% (fun {h : H} {id off : Nat} => load_agg (h := h) (id := id) (off := off) Tryz.agg27 Tryz.size27)) ∧
  (type_of% (fun {h : H} {id off : Nat} => load_agg (h := h) (id := id) (off := off) Tryz.agg25 Tryz.size25)) ∧
  (type_of% (fun {h : H} {id off : Nat} => load_one (h := h) (id := id) (off := off) Tryz.agg9)) ∧
  (type_of% (fun {h : H} {id off : Nat} => load_one (h := h) (id := id) (off := off) Tryz.agg3)) ∧
  (type_of% (fun {h : H} {id off : Nat} => load_one (h := h) (id := id) (off := off) Tryz.agg22)) ∧
  (type_of% (fun {h : H} {id off : Nat} => load_one (h := h) (id := id) (off := off) Tryz.agg23)) ∧
  (type_of% (fun {h : H} {id off : Nat} => load_one (h := h) (id := id) (off := off) Tryz.agg86)) ∧
  (type_of% (fun {h : H} {id off : Nat} => load_one (h := h) (id := id) (off := off) Tryz.agg257)) ∧
  (type_of% (@Tryz.fa59_0)) ∧
  (type_of% (@Tryz.fa59_1)) ∧
  (type_of% (@Tryz.fa59_2)) ∧
  (type_of% (@Tryz.fa59_3)) ∧
  (type_of% (@Tryz.fa59_4)) ∧
  (type_of% (@Tryz.fa27_0)) ∧
  (type_of% (@Tryz.fa27_1)) ∧
  (type_of% (@Tryz.fa27_2)) ∧
  (type_of% (@Tryz.fa27_3)) ∧
  (type_of% (@Tryz.fa25_0)) ∧
  (type_of% (@Tryz.fa90_0)) ∧
  (type_of% (@Tryz.fa90_1)) ∧
  (type_of% (@Tryz.fa90_2)) ∧
  (type_of% (@Tryz.fa90_3)) ∧
  (type_of% (@Tryz.fa90_4)) ∧
  (type_of% (@Tryz.fa90_5)) ∧
  (type_of% (@Tryz.fa90_7)) ∧
  (type_of% (@Tryz.fa90_8)) ∧
  (type_of% (@Tryz.fa88_0)) ∧
  (type_of% (@Tryz.fa79_0)) ∧
  (type_of% (@Tryz.fa79_1)) ∧
  (type_of% (@Tryz.fa92_0)) ∧
  (type_of% (@Tryz.fa92_1)) ∧
  (type_of% (fun {h : H} {o : Option (Nat × Nat)} {n es : Nat} {c : Option Nat} => len_slice (h := h) (o := o) (n := n) (es := es) (c := c) Tryz.underlying22)) ∧
  (type_of% (fun {h : H} {o : Option (Nat × Nat)} {n es : Nat} {c : Option Nat} => len_slice (h := h) (o := o) (n := n) (es := es) (c := c) Tryz.underlying23)) ∧
  (type_of% (fun {h : H} {o : Option (Nat × Nat)} {n es : Nat} {c : Option Nat} => len_slice (h := h) (o := o) (n := n) (es := es) (c := c) Tryz.underlying86)) ∧
  (type_of% (fun {h : H} {s : List Nat} => len_str (h := h) (s := s) Tryz.underlying9)) ∧
  (type_of% (@rowO_put)) ∧
  (type_of% (@rowA_cells)) ∧
  (type_of% (fun {h : H} {o : Option (Nat × Nat)} {n es : Nat} {c : Option Nat} => len_slice (h := h) (o := o) (n := n) (es := es) (c := c) Tryz.underlying57)) :=
  ⟨fun {h : H} {id off : Nat} => load_agg (h := h) (id := id) (off := off) Tryz.agg59 Tryz.size59,
  fun {h : H} {id off : Nat} => load_agg (h := h) (id := id) (off := off) Tryz.agg90 Tryz.size90,
  fun {h : H} {id off : Nat} => load_agg (h := h) (id := id) (off := off) Tryz.agg79 Tryz.size79,
  fun {h : H} {id off : Nat} => load_agg (h := h) (id := id) (off := off) Tryz.agg27 Tryz.size27,
  fun {h : H} {id off : Nat} => load_agg (h := h) (id := id) (off := off) Tryz.agg25 Tryz.size25,
  fun {h : H} {id off : Nat} => load_one (h := h) (id := id) (off := off) Tryz.agg9,
  fun {h : H} {id off : Nat} => load_one (h := h) (id := id) (off := off) Tryz.agg3,
  fun {h : H} {id off : Nat} => load_one (h := h) (id := id) (off := off) Tryz.agg22,
  fun {h : H} {id off : Nat} => load_one (h := h) (id := id) (off := off) Tryz.agg23,
  fun {h : H} {id off : Nat} => load_one (h := h) (id := id) (off := off) Tryz.agg86,
  fun {h : H} {id off : Nat} => load_one (h := h) (id := id) (off := off) Tryz.agg257,
  @Tryz.fa59_0,
  @Tryz.fa59_1,
  @Tryz.fa59_2,
  @Tryz.fa59_3,
  @Tryz.fa59_4,
  @Tryz.fa27_0,
  @Tryz.fa27_1,
  @Tryz.fa27_2,
  @Tryz.fa27_3,
  @Tryz.fa25_0,
  @Tryz.fa90_0,
  @Tryz.fa90_1,
  @Tryz.fa90_2,
  @Tryz.fa90_3,
  @Tryz.fa90_4,
  @Tryz.fa90_5,
  @Tryz.fa90_7,
  @Tryz.fa90_8,
  @Tryz.fa88_0,
  @Tryz.fa79_0,
  @Tryz.fa79_1,
  @Tryz.fa92_0,
  @Tryz.fa92_1,
  fun {h : H} {o : Option (Nat × Nat)} {n es : Nat} {c : Option Nat} => len_slice (h := h) (o := o) (n := n) (es := es) (c := c) Tryz.underlying22,
  fun {h : H} {o : Option (Nat × Nat)} {n es : Nat} {c : Option Nat} => len_slice (h := h) (o := o) (n := n) (es := es) (c := c) Tryz.underlying23,
  fun {h : H} {o : Option (Nat × Nat)} {n es : Nat} {c : Option Nat} => len_slice (h := h) (o := o) (n := n) (es := es) (c := c) Tryz.underlying86,
  fun {h : H} {s : List Nat} => len_str (h := h) (s := s) Tryz.underlying9,
  @rowO_put,
  @rowA_cells,
  fun {h : H} {o : Option (Nat × Nat)} {n es : Nat} {c : Option Nat} => len_slice (h := h) (o := o) (n := n) (es := es) (c := c) Tryz.underlying57⟩

end Go.Proofs

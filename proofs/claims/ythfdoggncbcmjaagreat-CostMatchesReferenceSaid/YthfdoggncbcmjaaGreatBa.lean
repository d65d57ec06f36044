/- Seat r1: what the evaluator wants to know of the program. -/
import Derived.Test.YthfdoggncbcmjaaGreatProg
import Derived.Test.YthfdoggncbcmjaaGreatGe
import Derived.KernelRfl
import Derived.MapKept
import Derived.Test.YthfdoggncbcmjaaGreatGg

set_option linter.unusedSimpArgs false
set_option linter.unusedVariables false
set_option linter.unusedSectionVars false

namespace Go.Proofs
open Go.Ev
set_option maxRecDepth 100000

theorem Tryz.nogo : NoGo Tryz.prog := noGo_of (by kernel_rfl)

theorem Tryz.xclone : XOne Tryz.prog 146 .clone := XOne.clone fun t r es ck w h => by
  rw [run_callFunc_extern Tryz.func146 (by kernel_rfl) (by kernel_rfl) (by kernel_rfl) (e := Extern.MapsClone.clone) (by kernel_rfl)]
  have e : ∃ s : String, Extern.MapsClone.clone #[.iface t (.map (some r))] = (getObj r >>= fun o => match o with
      | .map entries clock => (newObj (.map entries clock) >>= fun n => pure (.iface t (.map (some n))))
      | _ => stuck s) := ⟨_, rfl⟩
  obtain ⟨s, e⟩ := e
  rw [e]
  simp [MapKept.run_getObj_map h, Result.andThen, go_sem]

theorem Tryz.xindex : XOne Tryz.prog 272 .indexByte := XOne.indexByte fun x c w => by
  rw [run_callFunc_extern Tryz.func272 (by kernel_rfl) (by kernel_rfl) (by kernel_rfl) (e := Extern.BytealgIndexByte.indexByte) (by kernel_rfl), Lib.run_indexByteString]
  rfl

end Go.Proofs

/- Facts on types; the classes of bytes, by one kernel computation; lexer.Name; lists of shares. No conditions beyond those that each theorem states. -/
namespace Go.Proofs
open Go.Ev
set_option maxRecDepth 100000
theorem Tryz.agg3 : isAggA Tryz.prog 3 = some false := by kernel_rfl
theorem Tryz.agg5 : isAggA Tryz.prog 5 = some false := by kernel_rfl
theorem Tryz.size5 : sizeA Tryz.prog 5 = some 1 := by kernel_rfl
theorem Tryz.agg9 : isAggA Tryz.prog 9 = some false := by kernel_rfl
theorem Tryz.size9 : sizeA Tryz.prog 9 = some 1 := by kernel_rfl
theorem Tryz.agg65 : isAggA Tryz.prog 65 = some true := by kernel_rfl
theorem Tryz.size65 : sizeA Tryz.prog 65 = some 2 := by kernel_rfl
theorem Tryz.fa65_0 (id off : Nat) : fieldAddrA Tryz.prog 65 (.ptr (some (id, off))) 0 = some (.ptr (some (id, off))) := by kernel_rfl
theorem Tryz.fa65_1 (id off : Nat) : fieldAddrA Tryz.prog 65 (.ptr (some (id, off))) 1 = some (.ptr (some (id, off + 1))) := by kernel_rfl
theorem Tryz.agg31 : isAggA Tryz.prog 31 = some false := by kernel_rfl
theorem Tryz.size195 : sizeA Tryz.prog 195 = some 256 := by kernel_rfl
theorem Tryz.size3 : sizeA Tryz.prog 3 = some 1 := by kernel_rfl
theorem Tryz.agg4 : isAggA Tryz.prog 4 = some false := by kernel_rfl
theorem Tryz.size4 : sizeA Tryz.prog 4 = some 1 := by kernel_rfl
theorem Tryz.size31 : sizeA Tryz.prog 31 = some 1 := by kernel_rfl

/-- The class of a byte, as lexer.classes lays it. -/
def clsN (b : Nat) : Nat :=
  bif isLetterN b then 3 else bif Nat.ble 48 b && Nat.ble b 57 then 4 else bif Nat.beq b 35 then 2 else bif Nat.beq b 95 then 5 else bif Nat.beq b 34 then 7 else
  bif [32, 9, 10].any (Nat.beq b) then 1 else bif [59, 44, 46, 58, 40, 41, 123, 125, 91, 93, 61, 60, 62, 47, 43, 45, 42].any (Nat.beq b) then 6 else 0

def clsL : List AV := (List.range 256).map fun b => AV.int .u8 (Int.ofNat (clsN b))

theorem Tryz.classes_ev : ends (evVF Tryz.prog [(272, .indexByte)] 2000 60 (.func 131) [] hz) (.agg clsL) = true := by kernel_rfl

theorem Tryz.xclasses : XOne Tryz.prog 131 (.const (.agg clsL)) :=
  XOne.const Tryz.nogo (.cons Tryz.xindex .nil) Tryz.func131 (by kernel_rfl) (by kernel_rfl) (by rw [← evVF_eq]; exact Tryz.classes_ev)

theorem clsL_len : clsL.length = 256 := by simp [clsL]
theorem clsL_get (b : Nat) (h : b < 256) : clsL[b]? = some (.int .u8 (clsN b : Int)) := by
  unfold clsL
  rw [List.getElem?_map, List.getElem?_range h]
  rfl
theorem clsL_oneC : clsL.all oneC = true := by
  rw [List.all_eq_true]
  intro x hx
  obtain ⟨b, _, rfl⟩ := List.mem_map.1 hx
  rfl
theorem Tryz.classes (h : H) : ACalls Tryz.prog (.func 131) [] h (fun v h' => v = .agg clsL ∧ h' = h) := .of_x Tryz.xclasses rfl

theorem Tryz.zero195 : (zeroA Tryz.prog 195).map (fun z => z.cells.length) = some 256 := by kernel_rfl

set_option maxHeartbeats 400000 in
theorem Tryz.letter (b : Nat) (h : H) : ACalls Tryz.prog (.func 198) [.int .u8 (b : Int)] h (fun v h' => v = .bool (isLetterN b) ∧ h' = h) := by
  unfold isLetterN
  have e1 : decide ((97 : Int) ≤ (b : Int)) = Nat.ble 97 b := dec_ble 97 b
  have e2 : decide ((b : Int) ≤ 122) = Nat.ble b 122 := dec_ble b 122
  have e3 : decide ((65 : Int) ≤ (b : Int)) = Nat.ble 65 b := dec_ble 65 b
  have e4 : decide ((b : Int) ≤ 90) = Nat.ble b 90 := dec_ble b 90
  refine ACalls.body (n := 17) Tryz.nogo Tryz.func198 rfl rfl ?_
  rw [argF1]
  cases h1 : Nat.ble 97 b <;> cases h2 : Nat.ble b 122 <;> cases h3 : Nat.ble 65 b <;> cases h4 : Nat.ble b 90
  all_goals
    rw [h1] at e1; rw [h2] at e2; rw [h3] at e3; rw [h4] at e4
    refine AWp.seq (AWp.region ?_)
    (repeat (first | refine AOps.v rfl rfl rfl rfl rfl (by simp only [evS, cond_tt, cond_ff, absV, depthV, Nat.reduceEqDiff, Nat.reduceLT, ↓reduceIte, Option.map_some, Option.bind_some, List.toList_toArray]; rfl) ?_ | refine AOps.s rfl rfl rfl ?_ | refine AOps.u rfl rfl rfl rfl (by simp only [evS, cond_tt, cond_ff, absV, depthV, Nat.reduceEqDiff, Nat.reduceLT, ↓reduceIte, Option.map_some, Option.bind_some, List.toList_toArray]; rfl) ?_))
    refine AOps.nil ?_
    refine AWp.seq (AWp.region ?_)
    (repeat (first | refine AOps.v rfl rfl rfl rfl rfl (by simp only [evS, cond_tt, cond_ff, absV, depthV, Nat.reduceEqDiff, Nat.reduceLT, ↓reduceIte, Option.map_some, Option.bind_some, List.toList_toArray, e1, e2, e3, e4]; rfl) ?_ | refine AOps.s rfl rfl rfl ?_ | refine AOps.u rfl rfl rfl rfl (by simp only [evS, cond_tt, cond_ff, absV, depthV, Nat.reduceEqDiff, Nat.reduceLT, ↓reduceIte, Option.map_some, Option.bind_some, List.toList_toArray, e1, e2, e3, e4]; rfl) ?_))
    refine AOps.nil (AWp.ret ?_)
    exact leaves_plain rfl rfl (fun _ => rfl) rfl ⟨rfl, rfl⟩

set_option maxHeartbeats 400000 in
theorem Tryz.digit (b : Nat) (h : H) : ACalls Tryz.prog (.func 250) [.int .u8 (b : Int)] h (fun v h' => v = .bool (Nat.ble 48 b && Nat.ble b 57) ∧ h' = h) := by
  have e1 : decide ((48 : Int) ≤ (b : Int)) = Nat.ble 48 b := dec_ble 48 b
  have e2 : decide ((b : Int) ≤ 57) = Nat.ble b 57 := dec_ble b 57
  refine ACalls.body (n := 9) Tryz.nogo Tryz.func250 rfl rfl ?_
  rw [argF1]
  cases h1 : Nat.ble 48 b <;> cases h2 : Nat.ble b 57
  all_goals
    rw [h1] at e1; rw [h2] at e2
    refine AWp.seq (AWp.region ?_)
    (repeat (first | refine AOps.v rfl rfl rfl rfl rfl (by simp only [evS, cond_tt, cond_ff, absV, depthV, Nat.reduceEqDiff, Nat.reduceLT, ↓reduceIte, Option.map_some, Option.bind_some, List.toList_toArray]; rfl) ?_ | refine AOps.s rfl rfl rfl ?_ | refine AOps.u rfl rfl rfl rfl (by simp only [evS, cond_tt, cond_ff, absV, depthV, Nat.reduceEqDiff, Nat.reduceLT, ↓reduceIte, Option.map_some, Option.bind_some, List.toList_toArray]; rfl) ?_))
    refine AOps.nil ?_
    refine AWp.seq (AWp.region ?_)
    (repeat (first | refine AOps.v rfl rfl rfl rfl rfl (by simp only [evS, cond_tt, cond_ff, absV, depthV, Nat.reduceEqDiff, Nat.reduceLT, ↓reduceIte, Option.map_some, Option.bind_some, List.toList_toArray, e1, e2]; rfl) ?_ | refine AOps.s rfl rfl rfl ?_ | refine AOps.u rfl rfl rfl rfl (by simp only [evS, cond_tt, cond_ff, absV, depthV, Nat.reduceEqDiff, Nat.reduceLT, ↓reduceIte, Option.map_some, Option.bind_some, List.toList_toArray, e1, e2]; rfl) ?_))
    refine AOps.nil (AWp.ret ?_)
    exact leaves_plain rfl rfl (fun _ => rfl) rfl ⟨rfl, rfl⟩

theorem nameN_all (s : List Nat) (h : nameN s = true) : ∀ (i b : Nat), s[i]? = some b → isMoreN b = true := by
  intro i b hi
  cases s with
  | nil => simp at hi
  | cons a l =>
    simp only [nameN, Bool.and_eq_true] at h
    cases i with
    | zero => simp at hi; subst hi; unfold isMoreN; rw [h.1]; rfl
    | succ i =>
      rw [List.getElem?_cons_succ] at hi
      exact List.all_eq_true.1 h.2.1 b (List.mem_of_getElem? hi)

theorem nameN_of (s : List Nat) (h : ∀ (i b : Nat), s[i]? = some b → isMoreN b = true) (b : Nat) (h0 : s[0]? = some b) : nameN s = (decide (s.length ≤ 24) && isLetterN b) := by
  cases s with
  | nil => simp at h0
  | cons a l =>
    simp at h0; subst h0
    have : l.all isMoreN = true := by
      rw [List.all_eq_true]
      intro x hx
      obtain ⟨i, hi⟩ := List.mem_iff_getElem?.1 hx
      exact h (i + 1) x (by rw [List.getElem?_cons_succ]; exact hi)
    simp only [nameN, this, Bool.true_and, List.length_cons]
    have e : Nat.ble l.length 23 = decide (l.length + 1 ≤ 24) := by
      by_cases hl : l.length ≤ 23
      · rw [Nble hl]; simp; omega
      · have : Nat.ble l.length 23 = false := by
          cases hb : Nat.ble l.length 23
          · rfl
          · exact absurd (bleN hb) hl
        rw [this]; simp; omega
    rw [e, Bool.and_comm]

set_option maxHeartbeats 400000 in
theorem Tryz.word (b : Nat) (h : H) : ACalls Tryz.prog (.func 197) [.int .u8 (b : Int)] h (fun v h' => v = .bool (isMoreN b) ∧ h' = h) := by
  unfold isMoreN
  have e1 : decide ((b : Int) = 95) = Nat.beq b 95 := dec_beq b 95
  refine ACalls.body (n := 13) Tryz.nogo Tryz.func197 rfl rfl ?_
  rw [argF1]
  cases h1 : isLetterN b <;> cases h2 : (Nat.ble 48 b && Nat.ble b 57) <;> cases h3 : Nat.beq b 95
  all_goals
    rw [h3] at e1
    refine AWp.seq (AWp.region ?_)
    (repeat (first | refine AOps.v rfl rfl rfl rfl rfl (by simp only [evS, cond_tt, cond_ff, absV, depthV, Nat.reduceEqDiff, Nat.reduceLT, ↓reduceIte, Option.map_some, Option.bind_some, List.toList_toArray]; rfl) ?_ | refine AOps.s rfl rfl rfl ?_ | refine AOps.u rfl rfl rfl rfl (by simp only [evS, cond_tt, cond_ff, absV, depthV, Nat.reduceEqDiff, Nat.reduceLT, ↓reduceIte, Option.map_some, Option.bind_some, List.toList_toArray]; rfl) ?_))
    refine AOps.nil ?_
    refine AWp.seq (AWp.region ?_)
    refine AOps.v rfl rfl rfl rfl rfl (by simp only [evS, cond_tt, cond_ff, absV, depthV, Nat.reduceEqDiff, Nat.reduceLT, ↓reduceIte, Option.map_some, Option.bind_some, List.toList_toArray]; rfl) ?_
    refine AOps.c rfl rfl rfl rfl rfl (by simp only [callOf_val, callW_fn, evS, cond_tt, cond_ff, absV, depthV, Nat.reduceEqDiff, Nat.reduceLT, ↓reduceIte, Option.map_some, Option.bind_some, List.toList_toArray]; rfl) rfl (Tryz.letter _ _) ?_; rintro _ _ ⟨rfl, rfl⟩
    rw [h1]
    (repeat (first | refine AOps.v rfl rfl rfl rfl rfl (by simp only [evS, cond_tt, cond_ff, absV, depthV, Nat.reduceEqDiff, Nat.reduceLT, ↓reduceIte, Option.map_some, Option.bind_some, List.toList_toArray]; rfl) ?_ | refine AOps.s rfl rfl rfl ?_ | refine AOps.u rfl rfl rfl rfl (by simp only [evS, cond_tt, cond_ff, absV, depthV, Nat.reduceEqDiff, Nat.reduceLT, ↓reduceIte, Option.map_some, Option.bind_some, List.toList_toArray]; rfl) ?_))
    try
      refine AOps.c rfl rfl rfl rfl rfl (by simp only [callOf_val, callW_fn, evS, cond_tt, cond_ff, absV, depthV, Nat.reduceEqDiff, Nat.reduceLT, ↓reduceIte, Option.map_some, Option.bind_some, List.toList_toArray]; rfl) rfl (Tryz.digit _ _) ?_; rintro _ _ ⟨rfl, rfl⟩
      rw [h2]
      (repeat (first | refine AOps.v rfl rfl rfl rfl rfl (by simp only [evS, cond_tt, cond_ff, absV, depthV, Nat.reduceEqDiff, Nat.reduceLT, ↓reduceIte, Option.map_some, Option.bind_some, List.toList_toArray, e1]; rfl) ?_ | refine AOps.s rfl rfl rfl ?_ | refine AOps.u rfl rfl rfl rfl (by simp only [evS, cond_tt, cond_ff, absV, depthV, Nat.reduceEqDiff, Nat.reduceLT, ↓reduceIte, Option.map_some, Option.bind_some, List.toList_toArray, e1]; rfl) ?_))
    refine AOps.nil (AWp.ret ?_)
    exact leaves_plain rfl rfl (fun _ => rfl) rfl ⟨rfl, rfl⟩

set_option maxHeartbeats 400000 in
theorem Tryz.name05 (s : List Nat) (hs : s.length ≤ 1000000) (h : H) : ACalls Tryz.prog (.func 136) [.str s] h (fun v h' => v = .bool (nameN s) ∧ h' = h) := by
  refine ACalls.body (n := 28) Tryz.nogo Tryz.func136 rfl rfl ?_
  rw [argF1]
  (repeat refine AWp.seq ?_); change AWp _ _ _ _ _; refine AWp.region ?_; (repeat (first | refine AOps.v rfl rfl rfl rfl rfl (by simp only [evS, cond_tt, cond_ff, absV, depthV, Nat.reduceEqDiff, Nat.reduceLT, ↓reduceIte, Option.map_some, Option.bind_some, List.toList_toArray]; rfl) ?_ | refine AOps.s rfl rfl rfl ?_ | refine AOps.u rfl rfl rfl rfl (by simp only [evS, cond_tt, cond_ff, absV, depthV, Nat.reduceEqDiff, Nat.reduceLT, ↓reduceIte, Option.map_some, Option.bind_some, List.toList_toArray]; rfl) ?_)); refine AOps.nil ?_
  (repeat refine AWp.seq ?_); change AWp _ _ _ _ _; refine AWp.region ?_; (repeat (first | refine AOps.v rfl rfl rfl rfl rfl (by simp only [evS, cond_tt, cond_ff, absV, depthV, Nat.reduceEqDiff, Nat.reduceLT, ↓reduceIte, Option.map_some, Option.bind_some, List.toList_toArray]; rfl) ?_ | refine AOps.s rfl rfl rfl ?_ | refine AOps.u rfl rfl rfl rfl (by simp only [evS, cond_tt, cond_ff, absV, depthV, Nat.reduceEqDiff, Nat.reduceLT, ↓reduceIte, Option.map_some, Option.bind_some, List.toList_toArray]; rfl) ?_)); refine AOps.nil ?_
  refine AWp.block (AWp.loop (fun m st => ∃ k : Nat, k ≤ s.length ∧ m = s.length - k ∧ (∀ (i b : Nat), i < k → s[i]? = some b → isMoreN b = true) ∧
    Fr st [(0, .str s), (2, .bool false), (3, .int .i64 (k : Int))] 28 { h with low := h.next } []) s.length ?_ ?_)
  · exact ⟨0, by omega, by omega, fun i b hi => by omega, rfl, rfl, rfl, rfl, rfl, rfl, trivial⟩
  rintro m st ⟨k, hk, rfl, hall, hF⟩
  obtain ⟨f, rfl⟩ := hF.open
  simp only [updL]
  by_cases hlt : k < s.length
  · have c1 : decide ((k : Int) < (s.length : Int)) = true := by simp; exact hlt
    obtain ⟨b, hb⟩ : ∃ b, s[k]? = some b := ⟨s[k], List.getElem?_eq_getElem hlt⟩
    (repeat refine AWp.seq ?_); change AWp _ _ _ _ _; refine AWp.region ?_; (repeat (first | refine AOps.v rfl rfl rfl rfl rfl (by simp only [evS, cond_tt, cond_ff, absV, depthV, Nat.reduceEqDiff, Nat.reduceLT, ↓reduceIte, Option.map_some, Option.bind_some, List.toList_toArray, len_str Tryz.underlying9, c1]; rfl) ?_ | refine AOps.s rfl rfl rfl ?_ | refine AOps.u rfl rfl rfl rfl (by simp only [evS, cond_tt, cond_ff, absV, depthV, Nat.reduceEqDiff, Nat.reduceLT, ↓reduceIte, Option.map_some, Option.bind_some, List.toList_toArray, len_str Tryz.underlying9, c1]; rfl) ?_)); refine AOps.nil ?_
    (repeat refine AWp.seq ?_); change AWp _ _ _ _ _; refine AWp.yes (by rfl) (by rfl) (AWp.skip ?_)
    (repeat refine AWp.seq ?_)
    refine AWp.block ?_
    (repeat refine AWp.seq ?_); change AWp _ _ _ _ _; refine AWp.region ?_; (repeat (first | refine AOps.v rfl rfl rfl rfl rfl (by simp only [evS, cond_tt, cond_ff, absV, depthV, Nat.reduceEqDiff, Nat.reduceLT, ↓reduceIte, Option.map_some, Option.bind_some, List.toList_toArray, idx_str Tryz.underlying9 hb]; rfl) ?_ | refine AOps.s rfl rfl rfl ?_ | refine AOps.u rfl rfl rfl rfl (by simp only [evS, cond_tt, cond_ff, absV, depthV, Nat.reduceEqDiff, Nat.reduceLT, ↓reduceIte, Option.map_some, Option.bind_some, List.toList_toArray, idx_str Tryz.underlying9 hb]; rfl) ?_))
    refine AOps.c rfl rfl rfl rfl rfl (by simp only [callOf_val, callW_fn, evS, cond_tt, cond_ff, absV, depthV, Nat.reduceEqDiff, Nat.reduceLT, ↓reduceIte, Option.map_some, Option.bind_some, List.toList_toArray]; rfl) rfl (Tryz.word _ _) ?_; rintro _ _ ⟨rfl, rfl⟩
    cases hm : isMoreN b
    · (repeat (first | refine AOps.v rfl rfl rfl rfl rfl (by simp only [evS, cond_tt, cond_ff, absV, depthV, Nat.reduceEqDiff, Nat.reduceLT, ↓reduceIte, Option.map_some, Option.bind_some, List.toList_toArray]; rfl) ?_ | refine AOps.s rfl rfl rfl ?_ | refine AOps.u rfl rfl rfl rfl (by simp only [evS, cond_tt, cond_ff, absV, depthV, Nat.reduceEqDiff, Nat.reduceLT, ↓reduceIte, Option.map_some, Option.bind_some, List.toList_toArray]; rfl) ?_))
      refine AOps.nil ?_
      (repeat refine AWp.seq ?_); change AWp _ _ _ _ _; refine AWp.yes (by rfl) (by rfl) ?_
      (repeat refine AWp.seq ?_); change AWp _ _ _ _ _; refine AWp.region ?_; (repeat (first | refine AOps.v rfl rfl rfl rfl rfl (by simp only [evS, cond_tt, cond_ff, absV, depthV, Nat.reduceEqDiff, Nat.reduceLT, ↓reduceIte, Option.map_some, Option.bind_some, List.toList_toArray]; rfl) ?_ | refine AOps.s rfl rfl rfl ?_ | refine AOps.u rfl rfl rfl rfl (by simp only [evS, cond_tt, cond_ff, absV, depthV, Nat.reduceEqDiff, Nat.reduceLT, ↓reduceIte, Option.map_some, Option.bind_some, List.toList_toArray]; rfl) ?_)); refine AOps.nil ?_
      refine AWp.ret ?_
      have hn : nameN s = false := by
        cases hc : nameN s
        · rfl
        · rw [nameN_all s hc k b hb] at hm; cases hm
      (try simp only [OutOf, Then, Round, NoGoto]); refine leaves_plain (by rfl) (by rfl) (fun _ => rfl) (by rfl) ⟨?_, rfl⟩; rw [hn]; rfl
    · (repeat (first | refine AOps.v rfl rfl rfl rfl rfl (by simp only [evS, cond_tt, cond_ff, absV, depthV, Nat.reduceEqDiff, Nat.reduceLT, ↓reduceIte, Option.map_some, Option.bind_some, List.toList_toArray]; rfl) ?_ | refine AOps.s rfl rfl rfl ?_ | refine AOps.u rfl rfl rfl rfl (by simp only [evS, cond_tt, cond_ff, absV, depthV, Nat.reduceEqDiff, Nat.reduceLT, ↓reduceIte, Option.map_some, Option.bind_some, List.toList_toArray]; rfl) ?_))
      refine AOps.nil ?_
      (repeat refine AWp.seq ?_); change AWp _ _ _ _ _; refine AWp.no (by rfl) (by rfl) (AWp.skip ?_)
      (repeat refine AWp.seq ?_); change AWp _ _ _ _ _; refine AWp.region ?_; (repeat (first | refine AOps.v rfl rfl rfl rfl rfl (by simp only [evS, cond_tt, cond_ff, absV, depthV, Nat.reduceEqDiff, Nat.reduceLT, ↓reduceIte, Option.map_some, Option.bind_some, List.toList_toArray, bin_add (show -9223372036854775808 ≤ (k : Int) + 1 ∧ (k : Int) + 1 ≤ 9223372036854775807 from ⟨by omega, by omega⟩)]; rfl) ?_ | refine AOps.s rfl rfl rfl ?_ | refine AOps.u rfl rfl rfl rfl (by simp only [evS, cond_tt, cond_ff, absV, depthV, Nat.reduceEqDiff, Nat.reduceLT, ↓reduceIte, Option.map_some, Option.bind_some, List.toList_toArray, bin_add (show -9223372036854775808 ≤ (k : Int) + 1 ∧ (k : Int) + 1 ≤ 9223372036854775807 from ⟨by omega, by omega⟩)]; rfl) ?_)); refine AOps.nil ?_
      refine ⟨s.length - (k + 1), by omega, k + 1, hlt, rfl, fun i b' hi hb' => ?_, rfl, rfl, rfl, rfl, rfl, rfl, trivial⟩
      by_cases e : i = k
      · subst e; rw [hb] at hb'; cases hb'; exact hm
      · exact hall i b' (by omega) hb'
  · have hkk : k = s.length := by omega
    subst hkk
    have c1 : decide ((s.length : Int) < (s.length : Int)) = false := by simp
    (repeat refine AWp.seq ?_); change AWp _ _ _ _ _; refine AWp.region ?_; (repeat (first | refine AOps.v rfl rfl rfl rfl rfl (by simp only [evS, cond_tt, cond_ff, absV, depthV, Nat.reduceEqDiff, Nat.reduceLT, ↓reduceIte, Option.map_some, Option.bind_some, List.toList_toArray, len_str Tryz.underlying9, c1]; rfl) ?_ | refine AOps.s rfl rfl rfl ?_ | refine AOps.u rfl rfl rfl rfl (by simp only [evS, cond_tt, cond_ff, absV, depthV, Nat.reduceEqDiff, Nat.reduceLT, ↓reduceIte, Option.map_some, Option.bind_some, List.toList_toArray, len_str Tryz.underlying9, c1]; rfl) ?_)); refine AOps.nil ?_
    (repeat refine AWp.seq ?_); change AWp _ _ _ _ _; refine AWp.no (by rfl) (by rfl) ?_
    refine AWp.exit ?_
    cases hs0 : s with
    | nil =>
      (repeat refine AWp.seq ?_); change AWp _ _ _ _ _; refine AWp.region ?_; (repeat (first | refine AOps.v rfl rfl rfl rfl rfl (by simp only [evS, cond_tt, cond_ff, absV, depthV, Nat.reduceEqDiff, Nat.reduceLT, ↓reduceIte, Option.map_some, Option.bind_some, List.toList_toArray, len_str Tryz.underlying9]; rfl) ?_ | refine AOps.s rfl rfl rfl ?_ | refine AOps.u rfl rfl rfl rfl (by simp only [evS, cond_tt, cond_ff, absV, depthV, Nat.reduceEqDiff, Nat.reduceLT, ↓reduceIte, Option.map_some, Option.bind_some, List.toList_toArray, len_str Tryz.underlying9]; rfl) ?_)); refine AOps.nil ?_
      refine AWp.ret ?_
      (try simp only [OutOf, Then, Round, NoGoto]); refine leaves_plain (by rfl) (by rfl) (fun _ => rfl) (by rfl) ⟨?_, rfl⟩; rfl
    | cons b l =>
      have h0 : s[0]? = some b := by rw [hs0]; rfl
      have hn := nameN_of s (fun i b' hb' => hall i b' (List.getElem?_eq_some_iff.1 hb').1 hb') b h0
      have c2 : decide ((0 : Int) < ((b :: l).length : Int)) = true := by simp
      by_cases h24 : (b :: l).length ≤ 24
      · have c3 : decide (((b :: l).length : Int) ≤ 24) = true := by simp only [decide_eq_true_eq]; omega
        (repeat refine AWp.seq ?_); change AWp _ _ _ _ _; refine AWp.region ?_; (repeat (first | refine AOps.v rfl rfl rfl rfl rfl (by simp only [evS, cond_tt, cond_ff, absV, depthV, Nat.reduceEqDiff, Nat.reduceLT, ↓reduceIte, Option.map_some, Option.bind_some, List.toList_toArray, len_str Tryz.underlying9, c2, c3, idx_str (i := 0) Tryz.underlying9 (show (b :: l)[0]? = some b from rfl)]; rfl) ?_ | refine AOps.s rfl rfl rfl ?_ | refine AOps.u rfl rfl rfl rfl (by simp only [evS, cond_tt, cond_ff, absV, depthV, Nat.reduceEqDiff, Nat.reduceLT, ↓reduceIte, Option.map_some, Option.bind_some, List.toList_toArray, len_str Tryz.underlying9, c2, c3, idx_str (i := 0) Tryz.underlying9 (show (b :: l)[0]? = some b from rfl)]; rfl) ?_))
        refine AOps.c rfl rfl rfl rfl rfl (by simp only [callOf_val, callW_fn, evS, cond_tt, cond_ff, absV, depthV, Nat.reduceEqDiff, Nat.reduceLT, ↓reduceIte, Option.map_some, Option.bind_some, List.toList_toArray]; rfl) rfl (Tryz.letter _ _) ?_; rintro _ _ ⟨rfl, rfl⟩
        (repeat (first | refine AOps.v rfl rfl rfl rfl rfl (by simp only [evS, cond_tt, cond_ff, absV, depthV, Nat.reduceEqDiff, Nat.reduceLT, ↓reduceIte, Option.map_some, Option.bind_some, List.toList_toArray]; rfl) ?_ | refine AOps.s rfl rfl rfl ?_ | refine AOps.u rfl rfl rfl rfl (by simp only [evS, cond_tt, cond_ff, absV, depthV, Nat.reduceEqDiff, Nat.reduceLT, ↓reduceIte, Option.map_some, Option.bind_some, List.toList_toArray]; rfl) ?_))
        refine AOps.nil (AWp.ret ?_)
        rw [hs0] at hn
        have e24 : decide ((b :: l).length ≤ 24) = true := by simpa using h24
        (try simp only [OutOf, Then, Round, NoGoto]); refine leaves_plain (by rfl) (by rfl) (fun _ => rfl) (by rfl) ⟨?_, rfl⟩; rw [hn, e24]; rfl
      · have c3 : decide (((b :: l).length : Int) ≤ 24) = false := by simp only [decide_eq_false_iff_not]; omega
        (repeat refine AWp.seq ?_); change AWp _ _ _ _ _; refine AWp.region ?_; (repeat (first | refine AOps.v rfl rfl rfl rfl rfl (by simp only [evS, cond_tt, cond_ff, absV, depthV, Nat.reduceEqDiff, Nat.reduceLT, ↓reduceIte, Option.map_some, Option.bind_some, List.toList_toArray, len_str Tryz.underlying9, c2, c3]; rfl) ?_ | refine AOps.s rfl rfl rfl ?_ | refine AOps.u rfl rfl rfl rfl (by simp only [evS, cond_tt, cond_ff, absV, depthV, Nat.reduceEqDiff, Nat.reduceLT, ↓reduceIte, Option.map_some, Option.bind_some, List.toList_toArray, len_str Tryz.underlying9, c2, c3]; rfl) ?_))
        refine AOps.nil (AWp.ret ?_)
        rw [hs0] at hn
        have e24 : decide ((b :: l).length ≤ 24) = false := by simpa using h24
        (try simp only [OutOf, Then, Round, NoGoto]); refine leaves_plain (by rfl) (by rfl) (fun _ => rfl) (by rfl) ⟨?_, rfl⟩; rw [hn, e24]; rfl

def isAm (n : Int) : Bool := decide (0 ≤ n) && decide (n ≤ 1000000000000)

theorem cls_spec : ∀ b, b < 256 → (decide (clsN b = 3) = isLetterN b) ∧ ((decide (clsN b = 3) || (decide (clsN b = 4) || decide (clsN b = 5))) = isMoreN b) := by decide +kernel

theorem nameN_0 (s : List Nat) (b : Nat) (h0 : s[0]? = some b) (h : isLetterN b = false) : nameN s = false := by
  cases s with
  | nil => rfl
  | cons a l => simp at h0; subst h0; simp only [nameN, h, Bool.false_and]

set_option maxHeartbeats 1000000 in
theorem Tryz.lexName (s : List Nat) (hs : s.length ≤ 1000000) (hb : ∀ b ∈ s, b < 256) (h : H) : ACalls Tryz.prog (.func 65) [.str s] h (fun v h' => v = .bool (nameN s) ∧ h' = h) := by
  refine ACalls.body (n := 39) Tryz.nogo Tryz.func65 rfl rfl ?_
  rw [argF1]
  obtain ⟨z, hz, hzl⟩ : ∃ z, zeroA Tryz.prog 195 = some z ∧ z.cells.length = 256 := by
    have := Tryz.zero195
    cases hz : zeroA Tryz.prog 195 with
    | none => rw [hz] at this; simp at this
    | some z => rw [hz] at this; exact ⟨z, rfl, by simpa using this⟩
  (repeat refine AWp.seq ?_); change AWp _ _ _ _ _; refine AWp.region ?_; (repeat (first | refine AOps.v rfl rfl rfl rfl rfl (by simp only [evS, cond_tt, cond_ff, absV, depthV, Nat.reduceEqDiff, Nat.reduceLT, ↓reduceIte, Option.map_some, Option.bind_some, List.toList_toArray]; rfl) ?_ | refine AOps.s rfl rfl rfl ?_ | refine AOps.u rfl rfl rfl rfl (by simp only [evS, cond_tt, cond_ff, absV, depthV, Nat.reduceEqDiff, Nat.reduceLT, ↓reduceIte, Option.map_some, Option.bind_some, List.toList_toArray]; rfl) ?_)); refine AOps.nil ?_
  (repeat refine AWp.seq ?_)
  refine AWp.region ?_
  refine AOps.c rfl rfl rfl rfl rfl (by simp only [callOf_val, callW_fn, evS, cond_tt, cond_ff, absV, depthV, Nat.reduceEqDiff, Nat.reduceLT, ↓reduceIte, Option.map_some, Option.bind_some, List.toList_toArray]; rfl) rfl (Tryz.classes _) ?_; rintro _ _ ⟨rfl, rfl⟩
  (repeat (first | refine AOps.v rfl rfl rfl rfl rfl (by simp only [evS, cond_tt, cond_ff, absV, depthV, Nat.reduceEqDiff, Nat.reduceLT, ↓reduceIte, Option.map_some, Option.bind_some, List.toList_toArray, hz]; rfl) ?_ | refine AOps.s rfl rfl rfl ?_ | refine AOps.u rfl rfl rfl rfl (by simp only [evS, cond_tt, cond_ff, absV, depthV, Nat.reduceEqDiff, Nat.reduceLT, ↓reduceIte, Option.map_some, Option.bind_some, List.toList_toArray, hz]; rfl) ?_))
  refine AOps.st rfl rfl rfl (by simp only [evS, cond_tt, cond_ff, absV, depthV, Nat.reduceEqDiff, Nat.reduceLT, ↓reduceIte, Option.map_some, Option.bind_some, List.toList_toArray]; rfl) (by simp only [evS, cond_tt, cond_ff, absV, depthV, Nat.reduceEqDiff, Nat.reduceLT, ↓reduceIte, Option.map_some, Option.bind_some, List.toList_toArray]; rfl) (by rw [show (AV.agg clsL).cells.length = 256 from clsL_len]; exact Tryz.size195) (by simp only [H.lay, put_get]; rfl) (by simp only [H.lay, put_get]; rfl) (by rw [hzl, show (AV.agg clsL).cells.length = 256 from clsL_len]; rfl) (by exact clsL_oneC) (cs' := clsL)
    (by rw [show (AV.agg clsL).cells.length = 256 from clsL_len, List.drop_eq_nil_of_le (by omega)]; simp [cells_agg]) (by simp only [H.lay, minN_self]; rfl) ?_
  refine AOps.nil ?_
  (repeat refine AWp.seq ?_); change AWp _ _ _ _ _; refine AWp.region ?_; (repeat (first | refine AOps.v rfl rfl rfl rfl rfl (by simp only [evS, cond_tt, cond_ff, absV, depthV, Nat.reduceEqDiff, Nat.reduceLT, ↓reduceIte, Option.map_some, Option.bind_some, List.toList_toArray, load_one Tryz.agg5, iaddr_array Tryz.underlying195 Tryz.size5, len_str Tryz.underlying9, H.lay, rowO_put, rowA_cells, Nat.zero_add, Nat.add_zero, put_get, store_some]; rfl) ?_ | refine AOps.s rfl rfl rfl ?_ | refine AOps.u rfl rfl rfl rfl (by simp only [evS, cond_tt, cond_ff, absV, depthV, Nat.reduceEqDiff, Nat.reduceLT, ↓reduceIte, Option.map_some, Option.bind_some, List.toList_toArray, load_one Tryz.agg5, iaddr_array Tryz.underlying195 Tryz.size5, len_str Tryz.underlying9, H.lay, rowO_put, rowA_cells, Nat.zero_add, Nat.add_zero, put_get, store_some]; rfl) ?_)); refine AOps.nil ?_
  (try simp only [H.lay])
  generalize hO : Tr.put (Tr.put h.objs h.next (some (.cells z.cells h.next))) h.next (some (.cells clsL h.next)) = O
  have hrow : rowO O h.next = some clsL := by rw [← hO, rowO_put, if_pos rfl]; rfl
  generalize Tr.put h.fams h.next (some (h.next, h.next)) = FM
  (repeat refine AWp.seq ?_)
  refine AWp.block (AWp.loop (fun m st => ∃ k : Nat, k ≤ s.length ∧ m = s.length - k ∧ (∀ (i b : Nat), i < k → s[i]? = some b → isMoreN b = true) ∧ (0 < k → ∀ b, s[0]? = some b → isLetterN b = true) ∧
    Fr st [(0, .str s), (2, .bool false), (3, .ptr (some (h.next, 0))), (8, .int .i64 (s.length : Int)), (9, .int .i64 (k : Int))] 39 { objs := O, fams := FM, next := h.next + 1, low := h.next } []) s.length ?_ ?_)
  · exact ⟨0, by omega, by omega, fun i b hi => by omega, fun h => by omega, rfl, rfl, rfl, rfl, rfl, rfl, rfl, rfl, trivial⟩
  rintro m st ⟨k, hk, rfl, hall, hz0, hF⟩
  obtain ⟨f, rfl⟩ := hF.open
  simp only [updL]
  by_cases hlt : k < s.length
  · have c1 : decide ((k : Int) < (s.length : Int)) = true := by simp only [decide_eq_true_eq]; omega
    obtain ⟨b, hbk⟩ : ∃ b, s[k]? = some b := ⟨s[k], List.getElem?_eq_getElem hlt⟩
    have hb256 := hb b (List.mem_of_getElem? hbk)
    have hcell : clsL[b * 1]? = some (.int .u8 (clsN b : Int)) := by rw [Nat.mul_one]; exact clsL_get b hb256
    obtain ⟨sp1, sp2⟩ := cls_spec b hb256
    (repeat refine AWp.seq ?_); change AWp _ _ _ _ _; refine AWp.region ?_; (repeat (first | refine AOps.v rfl rfl rfl rfl rfl (by simp only [evS, cond_tt, cond_ff, absV, depthV, Nat.reduceEqDiff, Nat.reduceLT, ↓reduceIte, Option.map_some, Option.bind_some, List.toList_toArray, c1]; rfl) ?_ | refine AOps.s rfl rfl rfl ?_ | refine AOps.u rfl rfl rfl rfl (by simp only [evS, cond_tt, cond_ff, absV, depthV, Nat.reduceEqDiff, Nat.reduceLT, ↓reduceIte, Option.map_some, Option.bind_some, List.toList_toArray, c1]; rfl) ?_)); refine AOps.nil ?_
    (repeat refine AWp.seq ?_); change AWp _ _ _ _ _; refine AWp.yes (by rfl) (by rfl) (AWp.skip ?_)
    (repeat refine AWp.seq ?_)
    refine AWp.block ?_
    (repeat refine AWp.seq ?_); change AWp _ _ _ _ _; refine AWp.region ?_; (repeat (first | refine AOps.v rfl rfl rfl rfl rfl (by simp only [evS, cond_tt, cond_ff, absV, depthV, Nat.reduceEqDiff, Nat.reduceLT, ↓reduceIte, Option.map_some, Option.bind_some, List.toList_toArray]; rfl) ?_ | refine AOps.s rfl rfl rfl ?_ | refine AOps.u rfl rfl rfl rfl (by simp only [evS, cond_tt, cond_ff, absV, depthV, Nat.reduceEqDiff, Nat.reduceLT, ↓reduceIte, Option.map_some, Option.bind_some, List.toList_toArray]; rfl) ?_)); refine AOps.nil ?_
    (repeat refine AWp.seq ?_); change AWp _ _ _ _ _; refine AWp.region ?_; (repeat (first | refine AOps.v rfl rfl rfl rfl rfl (by simp only [evS, cond_tt, cond_ff, absV, depthV, Nat.reduceEqDiff, Nat.reduceLT, ↓reduceIte, Option.map_some, Option.bind_some, List.toList_toArray, load_one Tryz.agg5, iaddr_array Tryz.underlying195 Tryz.size5, len_str Tryz.underlying9, H.lay, rowO_put, rowA_cells, Nat.zero_add, Nat.add_zero, put_get, store_some, idx_str Tryz.underlying9 hbk, iaddr_array Tryz.underlying195 Tryz.size5 hb256, hrow, hcell]; rfl) ?_ | refine AOps.s rfl rfl rfl ?_ | refine AOps.u rfl rfl rfl rfl (by simp only [evS, cond_tt, cond_ff, absV, depthV, Nat.reduceEqDiff, Nat.reduceLT, ↓reduceIte, Option.map_some, Option.bind_some, List.toList_toArray, load_one Tryz.agg5, iaddr_array Tryz.underlying195 Tryz.size5, len_str Tryz.underlying9, H.lay, rowO_put, rowA_cells, Nat.zero_add, Nat.add_zero, put_get, store_some, idx_str Tryz.underlying9 hbk, iaddr_array Tryz.underlying195 Tryz.size5 hb256, hrow, hcell]; rfl) ?_)); refine AOps.nil ?_
    have round : isMoreN b = true → (k = 0 → isLetterN b = true) → ∃ k_1, k_1 < s.length - k ∧ ∃ k' : Nat, k' ≤ s.length ∧ k_1 = s.length - k' ∧ k' = k + 1 ∧ (∀ (i b : Nat), i < k' → s[i]? = some b → isMoreN b = true) ∧ (0 < k' → ∀ b, s[0]? = some b → isLetterN b = true) := by
      intro hm hl
      refine ⟨s.length - (k + 1), by omega, k + 1, hlt, rfl, rfl, fun i b' hi hb' => ?_, fun _ b' hb' => ?_⟩
      · by_cases e : i = k
        · subst e; rw [hbk] at hb'; cases hb'; exact hm
        · exact hall i b' (by omega) hb'
      · by_cases e : k = 0
        · subst e; rw [hbk] at hb'; cases hb'; exact hl rfl
        · exact hz0 (by omega) b' hb'
    have e3 : decide ((clsN b : Int) = 3) = decide (clsN b = 3) := dec_beq' (clsN b) 3
    have e4 : decide ((clsN b : Int) = 4) = decide (clsN b = 4) := dec_beq' (clsN b) 4
    have e5 : decide ((clsN b : Int) = 5) = decide (clsN b = 5) := dec_beq' (clsN b) 5
    have e0 : decide ((k : Int) = 0) = decide (k = 0) := dec_beq' k 0
    cases c3 : decide (clsN b = 3) <;> cases c0 : decide (k = 0) <;> cases c4 : decide (clsN b = 4) <;> cases c5 : decide (clsN b = 5)
    all_goals
      rw [c3] at e3 sp1 sp2; rw [c4] at e4 sp2; rw [c5] at e5 sp2; rw [c0] at e0
      (repeat refine AWp.seq ?_); change AWp _ _ _ _ _; refine AWp.region ?_; (repeat (first | refine AOps.v rfl rfl rfl rfl rfl (by simp only [evS, cond_tt, cond_ff, absV, depthV, Nat.reduceEqDiff, Nat.reduceLT, ↓reduceIte, Option.map_some, Option.bind_some, List.toList_toArray, e3, e4, e5, e0]; rfl) ?_ | refine AOps.s rfl rfl rfl ?_ | refine AOps.u rfl rfl rfl rfl (by simp only [evS, cond_tt, cond_ff, absV, depthV, Nat.reduceEqDiff, Nat.reduceLT, ↓reduceIte, Option.map_some, Option.bind_some, List.toList_toArray, e3, e4, e5, e0]; rfl) ?_)); refine AOps.nil ?_
      first
        | ((repeat refine AWp.seq ?_); change AWp _ _ _ _ _; refine AWp.yes (by rfl) (by rfl) ?_
           (repeat refine AWp.seq ?_); change AWp _ _ _ _ _; refine AWp.region ?_; (repeat (first | refine AOps.v rfl rfl rfl rfl rfl (by simp only [evS, cond_tt, cond_ff, absV, depthV, Nat.reduceEqDiff, Nat.reduceLT, ↓reduceIte, Option.map_some, Option.bind_some, List.toList_toArray]; rfl) ?_ | refine AOps.s rfl rfl rfl ?_ | refine AOps.u rfl rfl rfl rfl (by simp only [evS, cond_tt, cond_ff, absV, depthV, Nat.reduceEqDiff, Nat.reduceLT, ↓reduceIte, Option.map_some, Option.bind_some, List.toList_toArray]; rfl) ?_)); refine AOps.nil ?_
           refine AWp.ret ?_
           have hn : nameN s = false := by
             first
               | exact nameN_0 s b (by rw [← hbk, of_decide_eq_true c0]) sp1.symm
               | (cases hc : nameN s
                  · rfl
                  · have := nameN_all s hc k b hbk
                    rw [← sp2] at this; cases this)
           (try simp only [OutOf, Then, Round, NoGoto]); refine leaves_plain (by rfl) (by rfl) (fun _ => rfl) (by rfl) ⟨?_, rfl⟩; rw [hn]; rfl)
        | ((repeat refine AWp.seq ?_); change AWp _ _ _ _ _; refine AWp.no (by rfl) (by rfl) (AWp.skip ?_)
           obtain ⟨k1, g1, k', g2, g3, rfl, g4, g5⟩ := round sp2.symm (fun hk0 => by first | exact sp1.symm | (rw [hk0] at c0; cases c0))
           (repeat refine AWp.seq ?_); change AWp _ _ _ _ _; refine AWp.region ?_; (repeat (first | refine AOps.v rfl rfl rfl rfl rfl (by simp only [evS, cond_tt, cond_ff, absV, depthV, Nat.reduceEqDiff, Nat.reduceLT, ↓reduceIte, Option.map_some, Option.bind_some, List.toList_toArray, bin_add (show -9223372036854775808 ≤ (k : Int) + 1 ∧ (k : Int) + 1 ≤ 9223372036854775807 from ⟨by omega, by omega⟩)]; rfl) ?_ | refine AOps.s rfl rfl rfl ?_ | refine AOps.u rfl rfl rfl rfl (by simp only [evS, cond_tt, cond_ff, absV, depthV, Nat.reduceEqDiff, Nat.reduceLT, ↓reduceIte, Option.map_some, Option.bind_some, List.toList_toArray, bin_add (show -9223372036854775808 ≤ (k : Int) + 1 ∧ (k : Int) + 1 ≤ 9223372036854775807 from ⟨by omega, by omega⟩)]; rfl) ?_)); refine AOps.nil ?_
           exact ⟨k1, g1, k + 1, g2, g3, g4, g5, rfl, rfl, rfl, rfl, rfl, rfl, rfl, rfl, trivial⟩)
  · have hkk : k = s.length := by omega
    subst hkk
    have c1 : decide ((s.length : Int) < (s.length : Int)) = false := by simp
    (repeat refine AWp.seq ?_); change AWp _ _ _ _ _; refine AWp.region ?_; (repeat (first | refine AOps.v rfl rfl rfl rfl rfl (by simp only [evS, cond_tt, cond_ff, absV, depthV, Nat.reduceEqDiff, Nat.reduceLT, ↓reduceIte, Option.map_some, Option.bind_some, List.toList_toArray, c1]; rfl) ?_ | refine AOps.s rfl rfl rfl ?_ | refine AOps.u rfl rfl rfl rfl (by simp only [evS, cond_tt, cond_ff, absV, depthV, Nat.reduceEqDiff, Nat.reduceLT, ↓reduceIte, Option.map_some, Option.bind_some, List.toList_toArray, c1]; rfl) ?_)); refine AOps.nil ?_
    (repeat refine AWp.seq ?_); change AWp _ _ _ _ _; refine AWp.no (by rfl) (by rfl) ?_
    refine AWp.exit ?_
    cases hs0 : s with
    | nil =>
      (repeat refine AWp.seq ?_); change AWp _ _ _ _ _; refine AWp.region ?_; (repeat (first | refine AOps.v rfl rfl rfl rfl rfl (by simp only [evS, cond_tt, cond_ff, absV, depthV, Nat.reduceEqDiff, Nat.reduceLT, ↓reduceIte, Option.map_some, Option.bind_some, List.toList_toArray, load_one Tryz.agg5, iaddr_array Tryz.underlying195 Tryz.size5, len_str Tryz.underlying9, H.lay, rowO_put, rowA_cells, Nat.zero_add, Nat.add_zero, put_get, store_some]; rfl) ?_ | refine AOps.s rfl rfl rfl ?_ | refine AOps.u rfl rfl rfl rfl (by simp only [evS, cond_tt, cond_ff, absV, depthV, Nat.reduceEqDiff, Nat.reduceLT, ↓reduceIte, Option.map_some, Option.bind_some, List.toList_toArray, load_one Tryz.agg5, iaddr_array Tryz.underlying195 Tryz.size5, len_str Tryz.underlying9, H.lay, rowO_put, rowA_cells, Nat.zero_add, Nat.add_zero, put_get, store_some]; rfl) ?_)); refine AOps.nil ?_
      refine AWp.ret ?_
      (try simp only [OutOf, Then, Round, NoGoto]); refine leaves_plain (by rfl) (by rfl) (fun _ => rfl) (by rfl) ⟨?_, rfl⟩; rfl
    | cons a l =>
      have h0 : s[0]? = some a := by rw [hs0]; rfl
      have hn := nameN_of s (fun i b' hb' => hall i b' (List.getElem?_eq_some_iff.1 hb').1 hb') a h0
      rw [hz0 (by rw [hs0]; simp) a h0, Bool.and_true, hs0] at hn
      have ce : decide (a :: l = []) = false := rfl
      cases h24 : decide ((a :: l).length ≤ 24)
      · have c3 : decide (((a :: l).length : Int) ≤ 24) = false := by simp only [decide_eq_false_iff_not] at h24 ⊢; omega
        rw [h24] at hn
        (repeat refine AWp.seq ?_); change AWp _ _ _ _ _; refine AWp.region ?_; (repeat (first | refine AOps.v rfl rfl rfl rfl rfl (by simp only [evS, cond_tt, cond_ff, absV, depthV, Nat.reduceEqDiff, Nat.reduceLT, ↓reduceIte, Option.map_some, Option.bind_some, List.toList_toArray, load_one Tryz.agg5, iaddr_array Tryz.underlying195 Tryz.size5, len_str Tryz.underlying9, H.lay, rowO_put, rowA_cells, Nat.zero_add, Nat.add_zero, put_get, store_some, c3, ce]; rfl) ?_ | refine AOps.s rfl rfl rfl ?_ | refine AOps.u rfl rfl rfl rfl (by simp only [evS, cond_tt, cond_ff, absV, depthV, Nat.reduceEqDiff, Nat.reduceLT, ↓reduceIte, Option.map_some, Option.bind_some, List.toList_toArray, load_one Tryz.agg5, iaddr_array Tryz.underlying195 Tryz.size5, len_str Tryz.underlying9, H.lay, rowO_put, rowA_cells, Nat.zero_add, Nat.add_zero, put_get, store_some, c3, ce]; rfl) ?_)); refine AOps.nil ?_
        refine AWp.ret ?_
        (try simp only [OutOf, Then, Round, NoGoto]); refine leaves_plain (by rfl) (by rfl) (fun _ => rfl) (by rfl) ⟨?_, rfl⟩; rw [hn]; rfl
      · have c3 : decide (((a :: l).length : Int) ≤ 24) = true := by simp only [decide_eq_true_eq] at h24 ⊢; omega
        rw [h24] at hn
        (repeat refine AWp.seq ?_); change AWp _ _ _ _ _; refine AWp.region ?_; (repeat (first | refine AOps.v rfl rfl rfl rfl rfl (by simp only [evS, cond_tt, cond_ff, absV, depthV, Nat.reduceEqDiff, Nat.reduceLT, ↓reduceIte, Option.map_some, Option.bind_some, List.toList_toArray, load_one Tryz.agg5, iaddr_array Tryz.underlying195 Tryz.size5, len_str Tryz.underlying9, H.lay, rowO_put, rowA_cells, Nat.zero_add, Nat.add_zero, put_get, store_some, c3, ce]; rfl) ?_ | refine AOps.s rfl rfl rfl ?_ | refine AOps.u rfl rfl rfl rfl (by simp only [evS, cond_tt, cond_ff, absV, depthV, Nat.reduceEqDiff, Nat.reduceLT, ↓reduceIte, Option.map_some, Option.bind_some, List.toList_toArray, load_one Tryz.agg5, iaddr_array Tryz.underlying195 Tryz.size5, len_str Tryz.underlying9, H.lay, rowO_put, rowA_cells, Nat.zero_add, Nat.add_zero, put_get, store_some, c3, ce]; rfl) ?_)); refine AOps.nil ?_
        refine AWp.ret ?_
        (try simp only [OutOf, Then, Round, NoGoto]); refine leaves_plain (by rfl) (by rfl) (fun _ => rfl) (by rfl) ⟨?_, rfl⟩; rw [hn]; rfl

def intAV (n : Int) : AV := .int .i64 n

theorem take_snoc {α : Type} {l : List α} {k : Nat} {x : α} (h : l[k]? = some x) : l.take (k + 1) = l.take k ++ [x] := by
  rw [List.take_add_one, h]; rfl

theorem rdS_over {h h' : H} (hov : Over h.next h h') {v : AV} {s : Nat} {rows : List (List AV)} (hr : RdS h v s rows) : RdS h' v s rows := by
  refine ⟨hr.wide, ?_⟩
  rcases hr.at' with h1 | ⟨i, off, cap, cs, h1, h2, h3, h4⟩
  · exact .inl h1
  · refine .inr ⟨i, off, cap, cs, h1, Nat.lt_of_lt_of_le h2 hov.next, ?_, h4⟩
    unfold rowO at h3 ⊢
    rw [hov.objs i h2]; exact h3

theorem putM_len {K U : Type} [DecidableEq K] (k : K) (v : U) : ∀ l : List (K × U), (putM k v l).length ≤ l.length + 1
  | [] => by simp [putM]
  | e :: l => by
    unfold putM
    split
    · simp
    · have := putM_len k v l; simp; omega

structure Sh where
  pt : List Nat
  am : Int
  deriving DecidableEq

def Sh.cells (t : Sh) : List AV := [.str t.pt, .int .i64 t.am]
abbrev RdZ (h : H) (v : AV) (ts : List Sh) : Prop := RdS h v 2 (ts.map Sh.cells)

theorem rowsS_get (ts : List Sh) {i : Nat} {t : Sh} (h : ts[i]? = some t) : (ts.map Sh.cells)[i]? = some t.cells := by rw [List.getElem?_map, h]; rfl

theorem eqTop_sh (n : Nat) (t : Sh) : eqTop (n + 2) (.agg t.cells) (.agg t.cells) = true := by
  unfold Sh.cells
  simp only [eqTop, all2, eqL_eq, eqI_eq, decide_true, Bool.and_self, Bool.and_true]
  rfl

theorem Tryz.guard65 : Tryz.prog.eqGuardType Tryz.prog.depth 65 = false := by kernel_rfl
theorem Tryz.stood65 : Tryz.prog.stoodInHeld 65 = false := by kernel_rfl

theorem neq36 (s t : Sh) (t0 : TypeId) (h : t0 = 65) : binA Tryz.prog .neq t0 (.agg s.cells) (.agg t.cells) = some (.bool (!decide (s = t))) := by
  subst h
  obtain ⟨a1, a3⟩ := s
  obtain ⟨b1, b3⟩ := t
  simp only [binA, Tryz.guard65, cond_ff, Sh.cells]
  simp only [eqA, Tryz.underlying65, Tryz.stood65, cond_ff, eqFields, partA, Tryz.agg9, Tryz.agg3, Tryz.underlying9, Tryz.underlying3, List.getElem?_cons_zero, List.getElem?_cons_succ, eqL_eq, eqI_eq, kEq]
  by_cases h1 : a1 = b1 <;> by_cases h3 : a3 = b3 <;> simp [h1, h3]

end Go.Proofs

/- The evaluator is served with names, clones and comparisons. No conditions beyond those that each theorem states. -/
namespace Go.Proofs
open Go.Ev Go.RowKit
set_option maxRecDepth 100000

theorem xname_of {P : Program} {f : FuncId} (hc : ∀ s : List Nat, s.length ≤ 1000000 → (∀ b ∈ s, b < 256) → ∀ h, ACalls P (.func f) [.str s] h (fun v h' => v = .bool (nameN s) ∧ h' = h)) : XOne P f .name := by
  intro args h a h' hx σ w args' hv hr
  have hshape : ∃ s, args = [.str s] ∧ Nat.ble s.length 1000000 = true ∧ a = .bool (nameN s) ∧ h' = h := by
    unfold xA at hx
    split at hx <;> first
      | (obtain ⟨h1, h2⟩ := cond_some hx; cases h2; exact ⟨_, rfl, h1, rfl, rfl⟩)
      | simp_all
  obtain ⟨s, rfl, hl, rfl, rfl⟩ := hshape
  have hb : ∀ b ∈ s, b < 256 := by
    obtain ⟨x, rfl, hx⟩ := args1 hv
    cases hx with
    | str hs =>
      intro b hb
      rw [← hs] at hb
      obtain ⟨u, _, rfl⟩ := List.mem_map.1 hb
      exact u.toNat_lt
  refine (hc s (bleN hl) hb _ σ w args' hv hr).mono ?_
  rintro v w' ⟨a', h'', ⟨rfl, rfl⟩, rest⟩
  exact ⟨_, _, List.mem_singleton.2 rfl, rest⟩

theorem Tryz.xname48 : XOne Tryz.prog 65 .name := xname_of fun s h1 h2 h => Tryz.lexName s h1 h2 h
theorem Tryz.xname52 : XOne Tryz.prog 136 .name := xname_of fun s h1 _ h => Tryz.name05 s h1 h

theorem Tryz.exs : ExOK Tryz.prog [(65, .name), (136, .name), (146, .clone)] := .cons Tryz.xname48 (.cons Tryz.xname52 (.cons Tryz.xclone .nil))

theorem ownK : ownKnob Tryz.prog.godebug = none := by kernel_rfl
theorem outL : laidOutB Tryz.prog = true := by kernel_rfl

end Go.Proofs

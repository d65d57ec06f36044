/- Seat r1: what the evaluator wants to know of the program. -/
import Derived.Test.YtpanlnnlhpnlcaaGreatProg
import Derived.Test.YtpanlnnlhpnlcaaGreatGe
import Derived.KernelRfl
import Derived.MapKept
import Derived.Test.YtpanlnnlhpnlcaaGreatGf
import Derived.Test.YtpanlnnlhpnlcaaGreatGg

set_option linter.unusedSimpArgs false
set_option linter.unusedVariables false
set_option linter.unusedSectionVars false

namespace Go.Proofs
open Go.Ev
set_option maxRecDepth 100000

theorem Tryz.nogo : NoGo Tryz.prog := noGo_of (by kernel_rfl)

theorem Tryz.xcmp : XOne Tryz.prog 127 .cmp := XOne.cmp fun x y w => by
  rw [run_callFunc_extern Tryz.func127 (by kernel_rfl) (by kernel_rfl) (by kernel_rfl) (e := Extern.BytealgCompare.compare) (by kernel_rfl), Lib.run_compareString]
  rfl

theorem Tryz.xclone : XOne Tryz.prog 170 .clone := XOne.clone fun t r es ck w h => by
  rw [run_callFunc_extern Tryz.func170 (by kernel_rfl) (by kernel_rfl) (by kernel_rfl) (e := Extern.MapsClone.clone) (by kernel_rfl)]
  have e : ∃ s : String, Extern.MapsClone.clone #[.iface t (.map (some r))] = (getObj r >>= fun o => match o with
      | .map entries clock => (newObj (.map entries clock) >>= fun n => pure (.iface t (.map (some n))))
      | _ => stuck s) := ⟨_, rfl⟩
  obtain ⟨s, e⟩ := e
  rw [e]
  simp [MapKept.run_getObj_map h, Result.andThen, go_sem]

theorem Tryz.xindex : XOne Tryz.prog 234 .indexByte := XOne.indexByte fun x c w => by
  rw [run_callFunc_extern Tryz.func234 (by kernel_rfl) (by kernel_rfl) (by kernel_rfl) (e := Extern.BytealgIndexByte.indexByte) (by kernel_rfl), Lib.run_indexByteString]
  rfl

end Go.Proofs

/- Seat r1: facts on types. No conditions. -/
namespace Go.Proofs
open Go.Ev
set_option maxRecDepth 100000
theorem Tryz.agg3 : isAggA Tryz.prog 3 = some false := by kernel_rfl
theorem Tryz.size3 : sizeA Tryz.prog 3 = some 1 := by kernel_rfl
theorem Tryz.agg4 : isAggA Tryz.prog 4 = some false := by kernel_rfl
theorem Tryz.size4 : sizeA Tryz.prog 4 = some 1 := by kernel_rfl
theorem Tryz.agg5 : isAggA Tryz.prog 5 = some false := by kernel_rfl
theorem Tryz.size5 : sizeA Tryz.prog 5 = some 1 := by kernel_rfl
theorem Tryz.agg9 : isAggA Tryz.prog 9 = some false := by kernel_rfl
theorem Tryz.size9 : sizeA Tryz.prog 9 = some 1 := by kernel_rfl
theorem Tryz.agg56 : isAggA Tryz.prog 56 = some false := by kernel_rfl
theorem Tryz.size56 : sizeA Tryz.prog 56 = some 1 := by kernel_rfl
theorem Tryz.agg60 : isAggA Tryz.prog 60 = some true := by kernel_rfl
theorem Tryz.size60 : sizeA Tryz.prog 60 = some 3 := by kernel_rfl
theorem Tryz.fa60_0 (id off : Nat) : fieldAddrA Tryz.prog 60 (.ptr (some (id, off))) 0 = some (.ptr (some (id, off))) := by kernel_rfl
theorem Tryz.fa60_1 (id off : Nat) : fieldAddrA Tryz.prog 60 (.ptr (some (id, off))) 1 = some (.ptr (some (id, off + 1))) := by kernel_rfl
theorem Tryz.fa60_2 (id off : Nat) : fieldAddrA Tryz.prog 60 (.ptr (some (id, off))) 2 = some (.ptr (some (id, off + 2))) := by kernel_rfl
theorem Tryz.agg125 : isAggA Tryz.prog 125 = some true := by kernel_rfl
theorem Tryz.size125 : sizeA Tryz.prog 125 = some 2 := by kernel_rfl
theorem Tryz.fa125_0 (id off : Nat) : fieldAddrA Tryz.prog 125 (.ptr (some (id, off))) 0 = some (.ptr (some (id, off))) := by kernel_rfl
theorem Tryz.fa125_1 (id off : Nat) : fieldAddrA Tryz.prog 125 (.ptr (some (id, off))) 1 = some (.ptr (some (id, off + 1))) := by kernel_rfl
theorem Tryz.agg36 : isAggA Tryz.prog 36 = some true := by kernel_rfl
theorem Tryz.size36 : sizeA Tryz.prog 36 = some 2 := by kernel_rfl
theorem Tryz.fa36_0 (id off : Nat) : fieldAddrA Tryz.prog 36 (.ptr (some (id, off))) 0 = some (.ptr (some (id, off))) := by kernel_rfl
theorem Tryz.fa36_1 (id off : Nat) : fieldAddrA Tryz.prog 36 (.ptr (some (id, off))) 1 = some (.ptr (some (id, off + 1))) := by kernel_rfl
theorem Tryz.agg31 : isAggA Tryz.prog 31 = some false := by kernel_rfl
theorem Tryz.size31 : sizeA Tryz.prog 31 = some 1 := by kernel_rfl
theorem Tryz.agg122 : isAggA Tryz.prog 122 = some false := by kernel_rfl
theorem Tryz.size122 : sizeA Tryz.prog 122 = some 1 := by kernel_rfl
theorem Tryz.agg160 : isAggA Tryz.prog 160 = some true := by kernel_rfl
theorem Tryz.size160 : sizeA Tryz.prog 160 = some 256 := by kernel_rfl
theorem Tryz.agg163 : isAggA Tryz.prog 163 = some false := by kernel_rfl
theorem Tryz.size163 : sizeA Tryz.prog 163 = some 1 := by kernel_rfl

end Go.Proofs

namespace Go.Proofs
open Go.Ev
set_option maxRecDepth 100000

set_option maxHeartbeats 400000 in
theorem Tryz.letter (b : Nat) (h : H) : ACalls Tryz.prog (.func 91) [.int .u8 (b : Int)] h (fun v h' => v = .bool (isLetterN b) ∧ h' = h) := by
  unfold isLetterN
  have e1 : decide ((97 : Int) ≤ (b : Int)) = Nat.ble 97 b := dec_ble 97 b
  have e2 : decide ((b : Int) ≤ 122) = Nat.ble b 122 := dec_ble b 122
  have e3 : decide ((65 : Int) ≤ (b : Int)) = Nat.ble 65 b := dec_ble 65 b
  have e4 : decide ((b : Int) ≤ 90) = Nat.ble b 90 := dec_ble b 90
  refine ACalls.body (n := 17) Tryz.nogo Tryz.func91 rfl rfl ?_
  rw [argF1]
  cases h1 : Nat.ble 97 b <;> cases h2 : Nat.ble b 122 <;> cases h3 : Nat.ble 65 b <;> cases h4 : Nat.ble b 90
  all_goals
    rw [h1] at e1; rw [h2] at e2; rw [h3] at e3; rw [h4] at e4
    refine AWp.seq (AWp.region ?_)
    (repeat (first | refine AOps.v rfl rfl rfl rfl rfl (by simp only [evS, cond_tt, cond_ff, absV, depthV, Nat.reduceEqDiff, Nat.reduceLT, ↓reduceIte, Option.map_some, Option.bind_some, List.toList_toArray]; rfl) ?_ | refine AOps.s rfl rfl rfl ?_ | refine AOps.u rfl rfl rfl rfl (by simp only [evS, cond_tt, cond_ff, absV, depthV, Nat.reduceEqDiff, Nat.reduceLT, ↓reduceIte, Option.map_some, Option.bind_some, List.toList_toArray]; rfl) ?_))
    refine AOps.nil ?_
    refine AWp.seq (AWp.region ?_)
    (repeat (first | refine AOps.v rfl rfl rfl rfl rfl (by simp only [evS, cond_tt, cond_ff, absV, depthV, Nat.reduceEqDiff, Nat.reduceLT, ↓reduceIte, Option.map_some, Option.bind_some, List.toList_toArray, e1, e2, e3, e4]; rfl) ?_ | refine AOps.s rfl rfl rfl ?_ | refine AOps.u rfl rfl rfl rfl (by simp only [evS, cond_tt, cond_ff, absV, depthV, Nat.reduceEqDiff, Nat.reduceLT, ↓reduceIte, Option.map_some, Option.bind_some, List.toList_toArray, e1, e2, e3, e4]; rfl) ?_))
    refine AOps.nil (AWp.ret ?_)
    exact leaves_plain rfl rfl (fun _ => rfl) rfl ⟨rfl, rfl⟩

set_option maxHeartbeats 400000 in
theorem Tryz.digit (b : Nat) (h : H) : ACalls Tryz.prog (.func 133) [.int .u8 (b : Int)] h (fun v h' => v = .bool (Nat.ble 48 b && Nat.ble b 57) ∧ h' = h) := by
  have e1 : decide ((48 : Int) ≤ (b : Int)) = Nat.ble 48 b := dec_ble 48 b
  have e2 : decide ((b : Int) ≤ 57) = Nat.ble b 57 := dec_ble b 57
  refine ACalls.body (n := 9) Tryz.nogo Tryz.func133 rfl rfl ?_
  rw [argF1]
  cases h1 : Nat.ble 48 b <;> cases h2 : Nat.ble b 57
  all_goals
    rw [h1] at e1; rw [h2] at e2
    refine AWp.seq (AWp.region ?_)
    (repeat (first | refine AOps.v rfl rfl rfl rfl rfl (by simp only [evS, cond_tt, cond_ff, absV, depthV, Nat.reduceEqDiff, Nat.reduceLT, ↓reduceIte, Option.map_some, Option.bind_some, List.toList_toArray]; rfl) ?_ | refine AOps.s rfl rfl rfl ?_ | refine AOps.u rfl rfl rfl rfl (by simp only [evS, cond_tt, cond_ff, absV, depthV, Nat.reduceEqDiff, Nat.reduceLT, ↓reduceIte, Option.map_some, Option.bind_some, List.toList_toArray]; rfl) ?_))
    refine AOps.nil ?_
    refine AWp.seq (AWp.region ?_)
    (repeat (first | refine AOps.v rfl rfl rfl rfl rfl (by simp only [evS, cond_tt, cond_ff, absV, depthV, Nat.reduceEqDiff, Nat.reduceLT, ↓reduceIte, Option.map_some, Option.bind_some, List.toList_toArray, e1, e2]; rfl) ?_ | refine AOps.s rfl rfl rfl ?_ | refine AOps.u rfl rfl rfl rfl (by simp only [evS, cond_tt, cond_ff, absV, depthV, Nat.reduceEqDiff, Nat.reduceLT, ↓reduceIte, Option.map_some, Option.bind_some, List.toList_toArray, e1, e2]; rfl) ?_))
    refine AOps.nil (AWp.ret ?_)
    exact leaves_plain rfl rfl (fun _ => rfl) rfl ⟨rfl, rfl⟩

end Go.Proofs

namespace Go.Proofs
open Go.Ev
set_option maxRecDepth 100000

theorem nameN_all (s : List Nat) (h : nameN s = true) : ∀ (i b : Nat), s[i]? = some b → isMoreN b = true := by
  intro i b hi
  cases s with
  | nil => simp at hi
  | cons a l =>
    simp only [nameN, Bool.and_eq_true] at h
    cases i with
    | zero => simp at hi; subst hi; unfold isMoreN; rw [h.1]; rfl
    | succ i =>
      rw [List.getElem?_cons_succ] at hi
      exact List.all_eq_true.1 h.2.1 b (List.mem_of_getElem? hi)

theorem nameN_of (s : List Nat) (h : ∀ (i b : Nat), s[i]? = some b → isMoreN b = true) (b : Nat) (h0 : s[0]? = some b) : nameN s = (decide (s.length ≤ 24) && isLetterN b) := by
  cases s with
  | nil => simp at h0
  | cons a l =>
    simp at h0; subst h0
    have : l.all isMoreN = true := by
      rw [List.all_eq_true]
      intro x hx
      obtain ⟨i, hi⟩ := List.mem_iff_getElem?.1 hx
      exact h (i + 1) x (by rw [List.getElem?_cons_succ]; exact hi)
    simp only [nameN, this, Bool.true_and, List.length_cons]
    have e : Nat.ble l.length 23 = decide (l.length + 1 ≤ 24) := by
      by_cases hl : l.length ≤ 23
      · rw [Nble hl]; simp; omega
      · have : Nat.ble l.length 23 = false := by
          cases hb : Nat.ble l.length 23
          · rfl
          · exact absurd (bleN hb) hl
        rw [this]; simp; omega
    rw [e, Bool.and_comm]

set_option maxHeartbeats 400000 in
theorem Tryz.word (b : Nat) (h : H) : ACalls Tryz.prog (.func 90) [.int .u8 (b : Int)] h (fun v h' => v = .bool (isMoreN b) ∧ h' = h) := by
  unfold isMoreN
  have e1 : decide ((b : Int) = 95) = Nat.beq b 95 := dec_beq b 95
  refine ACalls.body (n := 13) Tryz.nogo Tryz.func90 rfl rfl ?_
  rw [argF1]
  cases h1 : isLetterN b <;> cases h2 : (Nat.ble 48 b && Nat.ble b 57) <;> cases h3 : Nat.beq b 95
  all_goals
    rw [h3] at e1
    refine AWp.seq (AWp.region ?_)
    (repeat (first | refine AOps.v rfl rfl rfl rfl rfl (by simp only [evS, cond_tt, cond_ff, absV, depthV, Nat.reduceEqDiff, Nat.reduceLT, ↓reduceIte, Option.map_some, Option.bind_some, List.toList_toArray]; rfl) ?_ | refine AOps.s rfl rfl rfl ?_ | refine AOps.u rfl rfl rfl rfl (by simp only [evS, cond_tt, cond_ff, absV, depthV, Nat.reduceEqDiff, Nat.reduceLT, ↓reduceIte, Option.map_some, Option.bind_some, List.toList_toArray]; rfl) ?_))
    refine AOps.nil ?_
    refine AWp.seq (AWp.region ?_)
    refine AOps.v rfl rfl rfl rfl rfl (by simp only [evS, cond_tt, cond_ff, absV, depthV, Nat.reduceEqDiff, Nat.reduceLT, ↓reduceIte, Option.map_some, Option.bind_some, List.toList_toArray]; rfl) ?_
    refine AOps.c rfl rfl rfl rfl rfl (by simp only [callOf_val, callW_fn, evS, cond_tt, cond_ff, absV, depthV, Nat.reduceEqDiff, Nat.reduceLT, ↓reduceIte, Option.map_some, Option.bind_some, List.toList_toArray]; rfl) rfl (Tryz.letter _ _) ?_; rintro _ _ ⟨rfl, rfl⟩
    rw [h1]
    (repeat (first | refine AOps.v rfl rfl rfl rfl rfl (by simp only [evS, cond_tt, cond_ff, absV, depthV, Nat.reduceEqDiff, Nat.reduceLT, ↓reduceIte, Option.map_some, Option.bind_some, List.toList_toArray]; rfl) ?_ | refine AOps.s rfl rfl rfl ?_ | refine AOps.u rfl rfl rfl rfl (by simp only [evS, cond_tt, cond_ff, absV, depthV, Nat.reduceEqDiff, Nat.reduceLT, ↓reduceIte, Option.map_some, Option.bind_some, List.toList_toArray]; rfl) ?_))
    try
      refine AOps.c rfl rfl rfl rfl rfl (by simp only [callOf_val, callW_fn, evS, cond_tt, cond_ff, absV, depthV, Nat.reduceEqDiff, Nat.reduceLT, ↓reduceIte, Option.map_some, Option.bind_some, List.toList_toArray]; rfl) rfl (Tryz.digit _ _) ?_; rintro _ _ ⟨rfl, rfl⟩
      rw [h2]
      (repeat (first | refine AOps.v rfl rfl rfl rfl rfl (by simp only [evS, cond_tt, cond_ff, absV, depthV, Nat.reduceEqDiff, Nat.reduceLT, ↓reduceIte, Option.map_some, Option.bind_some, List.toList_toArray, e1]; rfl) ?_ | refine AOps.s rfl rfl rfl ?_ | refine AOps.u rfl rfl rfl rfl (by simp only [evS, cond_tt, cond_ff, absV, depthV, Nat.reduceEqDiff, Nat.reduceLT, ↓reduceIte, Option.map_some, Option.bind_some, List.toList_toArray, e1]; rfl) ?_))
    refine AOps.nil (AWp.ret ?_)
    exact leaves_plain rfl rfl (fun _ => rfl) rfl ⟨rfl, rfl⟩

set_option maxHeartbeats 400000 in
theorem Tryz.name05 (s : List Nat) (hs : s.length ≤ 1000000) (h : H) : ACalls Tryz.prog (.func 52) [.str s] h (fun v h' => v = .bool (nameN s) ∧ h' = h) := by
  refine ACalls.body (n := 28) Tryz.nogo Tryz.func52 rfl rfl ?_
  rw [argF1]
  (repeat refine AWp.seq ?_); change AWp _ _ _ _ _; refine AWp.region ?_; (repeat (first | refine AOps.v rfl rfl rfl rfl rfl (by simp only [evS, cond_tt, cond_ff, absV, depthV, Nat.reduceEqDiff, Nat.reduceLT, ↓reduceIte, Option.map_some, Option.bind_some, List.toList_toArray]; rfl) ?_ | refine AOps.s rfl rfl rfl ?_ | refine AOps.u rfl rfl rfl rfl (by simp only [evS, cond_tt, cond_ff, absV, depthV, Nat.reduceEqDiff, Nat.reduceLT, ↓reduceIte, Option.map_some, Option.bind_some, List.toList_toArray]; rfl) ?_)); refine AOps.nil ?_
  (repeat refine AWp.seq ?_); change AWp _ _ _ _ _; refine AWp.region ?_; (repeat (first | refine AOps.v rfl rfl rfl rfl rfl (by simp only [evS, cond_tt, cond_ff, absV, depthV, Nat.reduceEqDiff, Nat.reduceLT, ↓reduceIte, Option.map_some, Option.bind_some, List.toList_toArray]; rfl) ?_ | refine AOps.s rfl rfl rfl ?_ | refine AOps.u rfl rfl rfl rfl (by simp only [evS, cond_tt, cond_ff, absV, depthV, Nat.reduceEqDiff, Nat.reduceLT, ↓reduceIte, Option.map_some, Option.bind_some, List.toList_toArray]; rfl) ?_)); refine AOps.nil ?_
  refine AWp.block (AWp.loop (fun m st => ∃ k : Nat, k ≤ s.length ∧ m = s.length - k ∧ (∀ (i b : Nat), i < k → s[i]? = some b → isMoreN b = true) ∧
    Fr st [(0, .str s), (2, .bool false), (3, .int .i64 (k : Int))] 28 { h with low := h.next } []) s.length ?_ ?_)
  · exact ⟨0, by omega, by omega, fun i b hi => by omega, rfl, rfl, rfl, rfl, rfl, rfl, trivial⟩
  rintro m st ⟨k, hk, rfl, hall, hF⟩
  obtain ⟨f, rfl⟩ := hF.open
  simp only [updL]
  by_cases hlt : k < s.length
  · have c1 : decide ((k : Int) < (s.length : Int)) = true := by simp; exact hlt
    obtain ⟨b, hb⟩ : ∃ b, s[k]? = some b := ⟨s[k], List.getElem?_eq_getElem hlt⟩
    (repeat refine AWp.seq ?_); change AWp _ _ _ _ _; refine AWp.region ?_; (repeat (first | refine AOps.v rfl rfl rfl rfl rfl (by simp only [evS, cond_tt, cond_ff, absV, depthV, Nat.reduceEqDiff, Nat.reduceLT, ↓reduceIte, Option.map_some, Option.bind_some, List.toList_toArray, len_str Tryz.underlying9, c1]; rfl) ?_ | refine AOps.s rfl rfl rfl ?_ | refine AOps.u rfl rfl rfl rfl (by simp only [evS, cond_tt, cond_ff, absV, depthV, Nat.reduceEqDiff, Nat.reduceLT, ↓reduceIte, Option.map_some, Option.bind_some, List.toList_toArray, len_str Tryz.underlying9, c1]; rfl) ?_)); refine AOps.nil ?_
    (repeat refine AWp.seq ?_); change AWp _ _ _ _ _; refine AWp.yes (by rfl) (by rfl) (AWp.skip ?_)
    (repeat refine AWp.seq ?_)
    refine AWp.block ?_
    (repeat refine AWp.seq ?_); change AWp _ _ _ _ _; refine AWp.region ?_; (repeat (first | refine AOps.v rfl rfl rfl rfl rfl (by simp only [evS, cond_tt, cond_ff, absV, depthV, Nat.reduceEqDiff, Nat.reduceLT, ↓reduceIte, Option.map_some, Option.bind_some, List.toList_toArray, idx_str Tryz.underlying9 hb]; rfl) ?_ | refine AOps.s rfl rfl rfl ?_ | refine AOps.u rfl rfl rfl rfl (by simp only [evS, cond_tt, cond_ff, absV, depthV, Nat.reduceEqDiff, Nat.reduceLT, ↓reduceIte, Option.map_some, Option.bind_some, List.toList_toArray, idx_str Tryz.underlying9 hb]; rfl) ?_))
    refine AOps.c rfl rfl rfl rfl rfl (by simp only [callOf_val, callW_fn, evS, cond_tt, cond_ff, absV, depthV, Nat.reduceEqDiff, Nat.reduceLT, ↓reduceIte, Option.map_some, Option.bind_some, List.toList_toArray]; rfl) rfl (Tryz.word _ _) ?_; rintro _ _ ⟨rfl, rfl⟩
    cases hm : isMoreN b
    · (repeat (first | refine AOps.v rfl rfl rfl rfl rfl (by simp only [evS, cond_tt, cond_ff, absV, depthV, Nat.reduceEqDiff, Nat.reduceLT, ↓reduceIte, Option.map_some, Option.bind_some, List.toList_toArray]; rfl) ?_ | refine AOps.s rfl rfl rfl ?_ | refine AOps.u rfl rfl rfl rfl (by simp only [evS, cond_tt, cond_ff, absV, depthV, Nat.reduceEqDiff, Nat.reduceLT, ↓reduceIte, Option.map_some, Option.bind_some, List.toList_toArray]; rfl) ?_))
      refine AOps.nil ?_
      (repeat refine AWp.seq ?_); change AWp _ _ _ _ _; refine AWp.yes (by rfl) (by rfl) ?_
      (repeat refine AWp.seq ?_); change AWp _ _ _ _ _; refine AWp.region ?_; (repeat (first | refine AOps.v rfl rfl rfl rfl rfl (by simp only [evS, cond_tt, cond_ff, absV, depthV, Nat.reduceEqDiff, Nat.reduceLT, ↓reduceIte, Option.map_some, Option.bind_some, List.toList_toArray]; rfl) ?_ | refine AOps.s rfl rfl rfl ?_ | refine AOps.u rfl rfl rfl rfl (by simp only [evS, cond_tt, cond_ff, absV, depthV, Nat.reduceEqDiff, Nat.reduceLT, ↓reduceIte, Option.map_some, Option.bind_some, List.toList_toArray]; rfl) ?_)); refine AOps.nil ?_
      refine AWp.ret ?_
      have hn : nameN s = false := by
        cases hc : nameN s
        · rfl
        · rw [nameN_all s hc k b hb] at hm; cases hm
      (try simp only [OutOf, Then, Round, NoGoto]); refine leaves_plain (by rfl) (by rfl) (fun _ => rfl) (by rfl) ⟨?_, rfl⟩; rw [hn]; rfl
    · (repeat (first | refine AOps.v rfl rfl rfl rfl rfl (by simp only [evS, cond_tt, cond_ff, absV, depthV, Nat.reduceEqDiff, Nat.reduceLT, ↓reduceIte, Option.map_some, Option.bind_some, List.toList_toArray]; rfl) ?_ | refine AOps.s rfl rfl rfl ?_ | refine AOps.u rfl rfl rfl rfl (by simp only [evS, cond_tt, cond_ff, absV, depthV, Nat.reduceEqDiff, Nat.reduceLT, ↓reduceIte, Option.map_some, Option.bind_some, List.toList_toArray]; rfl) ?_))
      refine AOps.nil ?_
      (repeat refine AWp.seq ?_); change AWp _ _ _ _ _; refine AWp.no (by rfl) (by rfl) (AWp.skip ?_)
      (repeat refine AWp.seq ?_); change AWp _ _ _ _ _; refine AWp.region ?_; (repeat (first | refine AOps.v rfl rfl rfl rfl rfl (by simp only [evS, cond_tt, cond_ff, absV, depthV, Nat.reduceEqDiff, Nat.reduceLT, ↓reduceIte, Option.map_some, Option.bind_some, List.toList_toArray, bin_add (show -9223372036854775808 ≤ (k : Int) + 1 ∧ (k : Int) + 1 ≤ 9223372036854775807 from ⟨by omega, by omega⟩)]; rfl) ?_ | refine AOps.s rfl rfl rfl ?_ | refine AOps.u rfl rfl rfl rfl (by simp only [evS, cond_tt, cond_ff, absV, depthV, Nat.reduceEqDiff, Nat.reduceLT, ↓reduceIte, Option.map_some, Option.bind_some, List.toList_toArray, bin_add (show -9223372036854775808 ≤ (k : Int) + 1 ∧ (k : Int) + 1 ≤ 9223372036854775807 from ⟨by omega, by omega⟩)]; rfl) ?_)); refine AOps.nil ?_
      refine ⟨s.length - (k + 1), by omega, k + 1, hlt, rfl, fun i b' hi hb' => ?_, rfl, rfl, rfl, rfl, rfl, rfl, trivial⟩
      by_cases e : i = k
      · subst e; rw [hb] at hb'; cases hb'; exact hm
      · exact hall i b' (by omega) hb'
  · have hkk : k = s.length := by omega
    subst hkk
    have c1 : decide ((s.length : Int) < (s.length : Int)) = false := by simp
    (repeat refine AWp.seq ?_); change AWp _ _ _ _ _; refine AWp.region ?_; (repeat (first | refine AOps.v rfl rfl rfl rfl rfl (by simp only [evS, cond_tt, cond_ff, absV, depthV, Nat.reduceEqDiff, Nat.reduceLT, ↓reduceIte, Option.map_some, Option.bind_some, List.toList_toArray, len_str Tryz.underlying9, c1]; rfl) ?_ | refine AOps.s rfl rfl rfl ?_ | refine AOps.u rfl rfl rfl rfl (by simp only [evS, cond_tt, cond_ff, absV, depthV, Nat.reduceEqDiff, Nat.reduceLT, ↓reduceIte, Option.map_some, Option.bind_some, List.toList_toArray, len_str Tryz.underlying9, c1]; rfl) ?_)); refine AOps.nil ?_
    (repeat refine AWp.seq ?_); change AWp _ _ _ _ _; refine AWp.no (by rfl) (by rfl) ?_
    refine AWp.exit ?_
    cases hs0 : s with
    | nil =>
      (repeat refine AWp.seq ?_); change AWp _ _ _ _ _; refine AWp.region ?_; (repeat (first | refine AOps.v rfl rfl rfl rfl rfl (by simp only [evS, cond_tt, cond_ff, absV, depthV, Nat.reduceEqDiff, Nat.reduceLT, ↓reduceIte, Option.map_some, Option.bind_some, List.toList_toArray, len_str Tryz.underlying9]; rfl) ?_ | refine AOps.s rfl rfl rfl ?_ | refine AOps.u rfl rfl rfl rfl (by simp only [evS, cond_tt, cond_ff, absV, depthV, Nat.reduceEqDiff, Nat.reduceLT, ↓reduceIte, Option.map_some, Option.bind_some, List.toList_toArray, len_str Tryz.underlying9]; rfl) ?_)); refine AOps.nil ?_
      refine AWp.ret ?_
      (try simp only [OutOf, Then, Round, NoGoto]); refine leaves_plain (by rfl) (by rfl) (fun _ => rfl) (by rfl) ⟨?_, rfl⟩; rfl
    | cons b l =>
      have h0 : s[0]? = some b := by rw [hs0]; rfl
      have hn := nameN_of s (fun i b' hb' => hall i b' (List.getElem?_eq_some_iff.1 hb').1 hb') b h0
      have c2 : decide ((0 : Int) < ((b :: l).length : Int)) = true := by simp
      by_cases h24 : (b :: l).length ≤ 24
      · have c3 : decide (((b :: l).length : Int) ≤ 24) = true := by simp only [decide_eq_true_eq]; omega
        (repeat refine AWp.seq ?_); change AWp _ _ _ _ _; refine AWp.region ?_; (repeat (first | refine AOps.v rfl rfl rfl rfl rfl (by simp only [evS, cond_tt, cond_ff, absV, depthV, Nat.reduceEqDiff, Nat.reduceLT, ↓reduceIte, Option.map_some, Option.bind_some, List.toList_toArray, len_str Tryz.underlying9, c2, c3, idx_str (i := 0) Tryz.underlying9 (show (b :: l)[0]? = some b from rfl)]; rfl) ?_ | refine AOps.s rfl rfl rfl ?_ | refine AOps.u rfl rfl rfl rfl (by simp only [evS, cond_tt, cond_ff, absV, depthV, Nat.reduceEqDiff, Nat.reduceLT, ↓reduceIte, Option.map_some, Option.bind_some, List.toList_toArray, len_str Tryz.underlying9, c2, c3, idx_str (i := 0) Tryz.underlying9 (show (b :: l)[0]? = some b from rfl)]; rfl) ?_))
        refine AOps.c rfl rfl rfl rfl rfl (by simp only [callOf_val, callW_fn, evS, cond_tt, cond_ff, absV, depthV, Nat.reduceEqDiff, Nat.reduceLT, ↓reduceIte, Option.map_some, Option.bind_some, List.toList_toArray]; rfl) rfl (Tryz.letter _ _) ?_; rintro _ _ ⟨rfl, rfl⟩
        (repeat (first | refine AOps.v rfl rfl rfl rfl rfl (by simp only [evS, cond_tt, cond_ff, absV, depthV, Nat.reduceEqDiff, Nat.reduceLT, ↓reduceIte, Option.map_some, Option.bind_some, List.toList_toArray]; rfl) ?_ | refine AOps.s rfl rfl rfl ?_ | refine AOps.u rfl rfl rfl rfl (by simp only [evS, cond_tt, cond_ff, absV, depthV, Nat.reduceEqDiff, Nat.reduceLT, ↓reduceIte, Option.map_some, Option.bind_some, List.toList_toArray]; rfl) ?_))
        refine AOps.nil (AWp.ret ?_)
        rw [hs0] at hn
        have e24 : decide ((b :: l).length ≤ 24) = true := by simpa using h24
        (try simp only [OutOf, Then, Round, NoGoto]); refine leaves_plain (by rfl) (by rfl) (fun _ => rfl) (by rfl) ⟨?_, rfl⟩; rw [hn, e24]; rfl
      · have c3 : decide (((b :: l).length : Int) ≤ 24) = false := by simp only [decide_eq_false_iff_not]; omega
        (repeat refine AWp.seq ?_); change AWp _ _ _ _ _; refine AWp.region ?_; (repeat (first | refine AOps.v rfl rfl rfl rfl rfl (by simp only [evS, cond_tt, cond_ff, absV, depthV, Nat.reduceEqDiff, Nat.reduceLT, ↓reduceIte, Option.map_some, Option.bind_some, List.toList_toArray, len_str Tryz.underlying9, c2, c3]; rfl) ?_ | refine AOps.s rfl rfl rfl ?_ | refine AOps.u rfl rfl rfl rfl (by simp only [evS, cond_tt, cond_ff, absV, depthV, Nat.reduceEqDiff, Nat.reduceLT, ↓reduceIte, Option.map_some, Option.bind_some, List.toList_toArray, len_str Tryz.underlying9, c2, c3]; rfl) ?_))
        refine AOps.nil (AWp.ret ?_)
        rw [hs0] at hn
        have e24 : decide ((b :: l).length ≤ 24) = false := by simpa using h24
        (try simp only [OutOf, Then, Round, NoGoto]); refine leaves_plain (by rfl) (by rfl) (fun _ => rfl) (by rfl) ⟨?_, rfl⟩; rw [hn, e24]; rfl

end Go.Proofs

/- Seat r1: transfers: sizes, validity, equality. No conditions beyond those that each theorem states. -/
namespace Go.Proofs
open Go.Ev
set_option maxRecDepth 100000

structure Xf where
  fr : List Nat
  to : List Nat
  am : Int
  deriving DecidableEq

def Xf.cells (t : Xf) : List AV := [.str t.fr, .str t.to, .int .i64 t.am]

abbrev RdX (h : H) (v : AV) (ts : List Xf) : Prop := RdS h v 3 (ts.map Xf.cells)

def isAm (n : Int) : Bool := decide (0 ≤ n) && decide (n ≤ 1000000000000)
def Xf.ok (t : Xf) : Bool := nameN t.fr && (nameN t.to && (!decide (t.fr = t.to) && isAm t.am))
def Xf.few (t : Xf) : Bool := decide (t.fr.length ≤ 100) && decide (t.to.length ≤ 100)
def fewX (ts : List Xf) : Bool := decide (ts.length ≤ 60) && ts.all Xf.few

set_option maxHeartbeats 400000 in
theorem Tryz.isAm' (n : Int) (h : H) : ACalls Tryz.prog (.func 53) [.int .i64 n] h (fun v h' => v = .bool (isAm n) ∧ h' = h) := by
  unfold isAm
  refine ACalls.body (n := 9) Tryz.nogo Tryz.func53 rfl rfl ?_
  rw [argF1]
  cases e1 : decide (0 ≤ n) <;> cases e2 : decide (n ≤ 1000000000000)
  all_goals
    (repeat refine AWp.seq ?_); change AWp _ _ _ _ _; refine AWp.region ?_; (repeat (first | refine AOps.v rfl rfl rfl rfl rfl (by simp only [evS, cond_tt, cond_ff, absV, depthV, Nat.reduceEqDiff, Nat.reduceLT, ↓reduceIte, Option.map_some, Option.bind_some, List.toList_toArray]; rfl) ?_ | refine AOps.s rfl rfl rfl ?_ | refine AOps.u rfl rfl rfl rfl (by simp only [evS, cond_tt, cond_ff, absV, depthV, Nat.reduceEqDiff, Nat.reduceLT, ↓reduceIte, Option.map_some, Option.bind_some, List.toList_toArray]; rfl) ?_)); refine AOps.nil ?_
    (repeat refine AWp.seq ?_); change AWp _ _ _ _ _; refine AWp.region ?_; (repeat (first | refine AOps.v rfl rfl rfl rfl rfl (by simp only [evS, cond_tt, cond_ff, absV, depthV, Nat.reduceEqDiff, Nat.reduceLT, ↓reduceIte, Option.map_some, Option.bind_some, List.toList_toArray, e1, e2]; rfl) ?_ | refine AOps.s rfl rfl rfl ?_ | refine AOps.u rfl rfl rfl rfl (by simp only [evS, cond_tt, cond_ff, absV, depthV, Nat.reduceEqDiff, Nat.reduceLT, ↓reduceIte, Option.map_some, Option.bind_some, List.toList_toArray, e1, e2]; rfl) ?_)); refine AOps.nil ?_
    refine AWp.ret ?_
    (try simp only [OutOf, Then, Round, NoGoto]); refine leaves_plain (by rfl) (by rfl) (fun _ => rfl) (by rfl) ⟨?_, rfl⟩; rfl

set_option maxHeartbeats 400000 in
theorem Tryz.valid (t : Xf) (h1 : t.fr.length ≤ 1000000) (h2 : t.to.length ≤ 1000000) (h : H) : ACalls Tryz.prog (.func 26) [.agg t.cells] h (fun v h' => v = .bool t.ok ∧ h' = h) := by
  unfold Xf.ok Xf.cells
  refine ACalls.body (n := 23) Tryz.nogo Tryz.func26 rfl rfl ?_
  rw [argF1]
  cases e1 : nameN t.fr <;> cases e2 : nameN t.to <;> cases e3 : decide (t.fr = t.to) <;> cases e4 : isAm t.am
  all_goals
    (repeat refine AWp.seq ?_); change AWp _ _ _ _ _; refine AWp.region ?_; (repeat (first | refine AOps.v rfl rfl rfl rfl rfl (by simp only [evS, cond_tt, cond_ff, absV, depthV, Nat.reduceEqDiff, Nat.reduceLT, ↓reduceIte, Option.map_some, Option.bind_some, List.toList_toArray, load_agg Tryz.agg60 Tryz.size60, load_one Tryz.agg9, load_one Tryz.agg3, Tryz.fa60_0, Tryz.fa60_1, Tryz.fa60_2, len_slice Tryz.underlying56, len_str Tryz.underlying9, H.lay, rowO_put, rowA_cells, Nat.zero_add, Nat.add_zero]; rfl) ?_ | refine AOps.s rfl rfl rfl ?_ | refine AOps.u rfl rfl rfl rfl (by simp only [evS, cond_tt, cond_ff, absV, depthV, Nat.reduceEqDiff, Nat.reduceLT, ↓reduceIte, Option.map_some, Option.bind_some, List.toList_toArray, load_agg Tryz.agg60 Tryz.size60, load_one Tryz.agg9, load_one Tryz.agg3, Tryz.fa60_0, Tryz.fa60_1, Tryz.fa60_2, len_slice Tryz.underlying56, len_str Tryz.underlying9, H.lay, rowO_put, rowA_cells, Nat.zero_add, Nat.add_zero]; rfl) ?_)); refine AOps.nil ?_
    (repeat refine AWp.seq ?_); change AWp _ _ _ _ _; refine AWp.region ?_; (repeat (first | refine AOps.v rfl rfl rfl rfl rfl (by simp only [evS, cond_tt, cond_ff, absV, depthV, Nat.reduceEqDiff, Nat.reduceLT, ↓reduceIte, Option.map_some, Option.bind_some, List.toList_toArray, load_agg Tryz.agg60 Tryz.size60, load_one Tryz.agg9, load_one Tryz.agg3, Tryz.fa60_0, Tryz.fa60_1, Tryz.fa60_2, len_slice Tryz.underlying56, len_str Tryz.underlying9, H.lay, rowO_put, rowA_cells, Nat.zero_add, Nat.add_zero]; rfl) ?_ | refine AOps.s rfl rfl rfl ?_ | refine AOps.u rfl rfl rfl rfl (by simp only [evS, cond_tt, cond_ff, absV, depthV, Nat.reduceEqDiff, Nat.reduceLT, ↓reduceIte, Option.map_some, Option.bind_some, List.toList_toArray, load_agg Tryz.agg60 Tryz.size60, load_one Tryz.agg9, load_one Tryz.agg3, Tryz.fa60_0, Tryz.fa60_1, Tryz.fa60_2, len_slice Tryz.underlying56, len_str Tryz.underlying9, H.lay, rowO_put, rowA_cells, Nat.zero_add, Nat.add_zero]; rfl) ?_))
    refine AOps.c rfl rfl rfl rfl rfl (by simp only [callOf_val, callW_fn, evS, cond_tt, cond_ff, absV, depthV, Nat.reduceEqDiff, Nat.reduceLT, ↓reduceIte, Option.map_some, Option.bind_some, List.toList_toArray]; rfl) rfl (Tryz.name05 _ h1 _) ?_; rintro _ _ ⟨rfl, rfl⟩
    rw [e1]
    (repeat (first | refine AOps.v rfl rfl rfl rfl rfl (by simp only [evS, cond_tt, cond_ff, absV, depthV, Nat.reduceEqDiff, Nat.reduceLT, ↓reduceIte, Option.map_some, Option.bind_some, List.toList_toArray, load_agg Tryz.agg60 Tryz.size60, load_one Tryz.agg9, load_one Tryz.agg3, Tryz.fa60_0, Tryz.fa60_1, Tryz.fa60_2, len_slice Tryz.underlying56, len_str Tryz.underlying9, H.lay, rowO_put, rowA_cells, Nat.zero_add, Nat.add_zero]; rfl) ?_ | refine AOps.s rfl rfl rfl ?_ | refine AOps.u rfl rfl rfl rfl (by simp only [evS, cond_tt, cond_ff, absV, depthV, Nat.reduceEqDiff, Nat.reduceLT, ↓reduceIte, Option.map_some, Option.bind_some, List.toList_toArray, load_agg Tryz.agg60 Tryz.size60, load_one Tryz.agg9, load_one Tryz.agg3, Tryz.fa60_0, Tryz.fa60_1, Tryz.fa60_2, len_slice Tryz.underlying56, len_str Tryz.underlying9, H.lay, rowO_put, rowA_cells, Nat.zero_add, Nat.add_zero]; rfl) ?_))
    try
      refine AOps.c rfl rfl rfl rfl rfl (by simp only [callOf_val, callW_fn, evS, cond_tt, cond_ff, absV, depthV, Nat.reduceEqDiff, Nat.reduceLT, ↓reduceIte, Option.map_some, Option.bind_some, List.toList_toArray]; rfl) rfl (Tryz.name05 _ h2 _) ?_; rintro _ _ ⟨rfl, rfl⟩
      rw [e2]
      (repeat (first | refine AOps.v rfl rfl rfl rfl rfl (by simp only [evS, cond_tt, cond_ff, absV, depthV, Nat.reduceEqDiff, Nat.reduceLT, ↓reduceIte, Option.map_some, Option.bind_some, List.toList_toArray, load_agg Tryz.agg60 Tryz.size60, load_one Tryz.agg9, load_one Tryz.agg3, Tryz.fa60_0, Tryz.fa60_1, Tryz.fa60_2, len_slice Tryz.underlying56, len_str Tryz.underlying9, H.lay, rowO_put, rowA_cells, Nat.zero_add, Nat.add_zero, e3]; rfl) ?_ | refine AOps.s rfl rfl rfl ?_ | refine AOps.u rfl rfl rfl rfl (by simp only [evS, cond_tt, cond_ff, absV, depthV, Nat.reduceEqDiff, Nat.reduceLT, ↓reduceIte, Option.map_some, Option.bind_some, List.toList_toArray, load_agg Tryz.agg60 Tryz.size60, load_one Tryz.agg9, load_one Tryz.agg3, Tryz.fa60_0, Tryz.fa60_1, Tryz.fa60_2, len_slice Tryz.underlying56, len_str Tryz.underlying9, H.lay, rowO_put, rowA_cells, Nat.zero_add, Nat.add_zero, e3]; rfl) ?_))
    try
      refine AOps.c rfl rfl rfl rfl rfl (by simp only [callOf_val, callW_fn, evS, cond_tt, cond_ff, absV, depthV, Nat.reduceEqDiff, Nat.reduceLT, ↓reduceIte, Option.map_some, Option.bind_some, List.toList_toArray]; rfl) rfl (Tryz.isAm' _ _) ?_; rintro _ _ ⟨rfl, rfl⟩
      rw [e4]
      (repeat (first | refine AOps.v rfl rfl rfl rfl rfl (by simp only [evS, cond_tt, cond_ff, absV, depthV, Nat.reduceEqDiff, Nat.reduceLT, ↓reduceIte, Option.map_some, Option.bind_some, List.toList_toArray, load_agg Tryz.agg60 Tryz.size60, load_one Tryz.agg9, load_one Tryz.agg3, Tryz.fa60_0, Tryz.fa60_1, Tryz.fa60_2, len_slice Tryz.underlying56, len_str Tryz.underlying9, H.lay, rowO_put, rowA_cells, Nat.zero_add, Nat.add_zero]; rfl) ?_ | refine AOps.s rfl rfl rfl ?_ | refine AOps.u rfl rfl rfl rfl (by simp only [evS, cond_tt, cond_ff, absV, depthV, Nat.reduceEqDiff, Nat.reduceLT, ↓reduceIte, Option.map_some, Option.bind_some, List.toList_toArray, load_agg Tryz.agg60 Tryz.size60, load_one Tryz.agg9, load_one Tryz.agg3, Tryz.fa60_0, Tryz.fa60_1, Tryz.fa60_2, len_slice Tryz.underlying56, len_str Tryz.underlying9, H.lay, rowO_put, rowA_cells, Nat.zero_add, Nat.add_zero]; rfl) ?_))
    refine AOps.nil (AWp.ret ?_)
    (try simp only [OutOf, Then, Round, NoGoto]); refine leaves_plain (by rfl) (by rfl) (fun _ => rfl) (by rfl) ⟨?_, rfl⟩; rfl

end Go.Proofs

/- Seat r1: lists of transfers: sizes, equality, balances. No conditions beyond those that each theorem states. -/
namespace Go.Proofs
open Go.Ev
set_option maxRecDepth 100000

theorem rows_get (ts : List Xf) {i : Nat} {t : Xf} (h : ts[i]? = some t) : (ts.map Xf.cells)[i]? = some t.cells := by rw [List.getElem?_map, h]; rfl

/-- The cells of transfer i, as the code looks at them. -/
theorem cells3 {cs : List AV} {off : Nat} {ts : List Xf} (hc : ∀ (i : Nat) (r : List AV), (ts.map Xf.cells)[i]? = some r → ∀ k, k < 3 → cs[off + i * 3 + k]? = r[k]?) {i : Nat} {t : Xf} (h : ts[i]? = some t) :
    cs[off + i * 3]? = some (.str t.fr) ∧ cs[off + i * 3 + 1]? = some (.str t.to) ∧ cs[off + i * 3 + 2]? = some (.int .i64 t.am) :=
  ⟨hc i _ (rows_get ts h) 0 (by omega), hc i _ (rows_get ts h) 1 (by omega), hc i _ (rows_get ts h) 2 (by omega)⟩

theorem fewX_no {ts : List Xf} {i : Nat} {t : Xf} (h : ts[i]? = some t) (hf : t.few = false) : fewX ts = false := by
  unfold fewX
  have : ts.all Xf.few = false := by
    rw [List.all_eq_false]
    exact ⟨t, List.mem_of_getElem? h, by rw [hf]; simp⟩
  rw [this, Bool.and_false]

theorem fewX_yes {ts : List Xf} (hl : ts.length ≤ 60) (h : ∀ (i : Nat) (t : Xf), i < ts.length → ts[i]? = some t → t.few = true) : fewX ts = true := by
  unfold fewX
  have : ts.all Xf.few = true := by
    rw [List.all_eq_true]
    intro t ht
    obtain ⟨i, hi⟩ := List.mem_iff_getElem?.1 ht
    exact h i t (List.getElem?_eq_some_iff.1 hi).1 hi
  rw [this, Bool.and_true]; simpa using hl

set_option maxHeartbeats 400000 in
theorem Tryz.few (ts : List Xf) (v : AV) (h : H) (hv : RdX h v ts) : ACalls Tryz.prog (.func 19) [v] h (fun v h' => v = .bool (fewX ts) ∧ h' = h) := by
  refine ACalls.body (n := 34) Tryz.nogo Tryz.func19 rfl rfl ?_
  rw [argF1]
  obtain ⟨o, e, c, rfl⟩ := hv.len
  rw [List.length_map] at hv ⊢
  (repeat refine AWp.seq ?_); change AWp _ _ _ _ _; refine AWp.region ?_; (repeat (first | refine AOps.v rfl rfl rfl rfl rfl (by simp only [evS, cond_tt, cond_ff, absV, depthV, Nat.reduceEqDiff, Nat.reduceLT, ↓reduceIte, Option.map_some, Option.bind_some, List.toList_toArray]; rfl) ?_ | refine AOps.s rfl rfl rfl ?_ | refine AOps.u rfl rfl rfl rfl (by simp only [evS, cond_tt, cond_ff, absV, depthV, Nat.reduceEqDiff, Nat.reduceLT, ↓reduceIte, Option.map_some, Option.bind_some, List.toList_toArray]; rfl) ?_)); refine AOps.nil ?_
  (repeat refine AWp.seq ?_); change AWp _ _ _ _ _; refine AWp.region ?_; (repeat (first | refine AOps.v rfl rfl rfl rfl rfl (by simp only [evS, cond_tt, cond_ff, absV, depthV, Nat.reduceEqDiff, Nat.reduceLT, ↓reduceIte, Option.map_some, Option.bind_some, List.toList_toArray]; rfl) ?_ | refine AOps.s rfl rfl rfl ?_ | refine AOps.u rfl rfl rfl rfl (by simp only [evS, cond_tt, cond_ff, absV, depthV, Nat.reduceEqDiff, Nat.reduceLT, ↓reduceIte, Option.map_some, Option.bind_some, List.toList_toArray]; rfl) ?_)); refine AOps.nil ?_
  refine AWp.block (AWp.loop (fun m st => ∃ k : Nat, k ≤ ts.length ∧ m = ts.length - k ∧ (∀ (i : Nat) (t : Xf), i < k → ts[i]? = some t → t.few = true) ∧
    Fr st [(0, .slice o ts.length e c), (2, .bool false), (3, .int .i64 (k : Int))] 34 { h with low := h.next } []) ts.length ?_ ?_)
  · exact ⟨0, by omega, by omega, fun i b hi => by omega, rfl, rfl, rfl, rfl, rfl, rfl, trivial⟩
  rintro m st ⟨k, hk, rfl, hall, hF⟩
  obtain ⟨f, rfl⟩ := hF.open
  simp only [updL]
  by_cases h60 : ts.length ≤ 60
  · have c2 : decide ((ts.length : Int) ≤ 60) = true := by simp only [decide_eq_true_eq]; omega
    by_cases hlt : k < ts.length
    · have c1 : decide ((k : Int) < (ts.length : Int)) = true := by simp only [decide_eq_true_eq]; omega
      obtain ⟨t, ht⟩ : ∃ t, ts[k]? = some t := ⟨ts[k], List.getElem?_eq_getElem hlt⟩
      obtain ⟨id, off, cap, cs, hv', hid, hrow, hl, hch, hcell⟩ := hv.open (i := k) (by rw [List.length_map]; exact hlt)
      rw [List.length_map] at hv'
      cases hv'
      obtain ⟨k0, k1, k2⟩ := cells3 hcell ht
      (repeat refine AWp.seq ?_); change AWp _ _ _ _ _; refine AWp.region ?_; (repeat (first | refine AOps.v rfl rfl rfl rfl rfl (by simp only [evS, cond_tt, cond_ff, absV, depthV, Nat.reduceEqDiff, Nat.reduceLT, ↓reduceIte, Option.map_some, Option.bind_some, List.toList_toArray, load_agg Tryz.agg60 Tryz.size60, load_one Tryz.agg9, load_one Tryz.agg3, Tryz.fa60_0, Tryz.fa60_1, Tryz.fa60_2, len_slice Tryz.underlying56, len_str Tryz.underlying9, H.lay, rowO_put, rowA_cells, Nat.zero_add, Nat.add_zero, c1, c2]; rfl) ?_ | refine AOps.s rfl rfl rfl ?_ | refine AOps.u rfl rfl rfl rfl (by simp only [evS, cond_tt, cond_ff, absV, depthV, Nat.reduceEqDiff, Nat.reduceLT, ↓reduceIte, Option.map_some, Option.bind_some, List.toList_toArray, load_agg Tryz.agg60 Tryz.size60, load_one Tryz.agg9, load_one Tryz.agg3, Tryz.fa60_0, Tryz.fa60_1, Tryz.fa60_2, len_slice Tryz.underlying56, len_str Tryz.underlying9, H.lay, rowO_put, rowA_cells, Nat.zero_add, Nat.add_zero, c1, c2]; rfl) ?_)); refine AOps.nil ?_
      (repeat refine AWp.seq ?_); change AWp _ _ _ _ _; refine AWp.yes (by rfl) (by rfl) (AWp.skip ?_)
      (repeat refine AWp.seq ?_)
      refine AWp.block ?_
      cases e1 : decide (t.fr.length ≤ 100)
      · have e1' : decide ((100 : Int) < (t.fr.length : Int)) = true := by simp only [decide_eq_true_eq, decide_eq_false_iff_not] at e1 ⊢; omega
        (repeat refine AWp.seq ?_); change AWp _ _ _ _ _; refine AWp.region ?_; (repeat (first | refine AOps.v rfl rfl rfl rfl rfl (by simp only [evS, cond_tt, cond_ff, absV, depthV, Nat.reduceEqDiff, Nat.reduceLT, ↓reduceIte, Option.map_some, Option.bind_some, List.toList_toArray, load_agg Tryz.agg60 Tryz.size60, load_one Tryz.agg9, load_one Tryz.agg3, Tryz.fa60_0, Tryz.fa60_1, Tryz.fa60_2, len_slice Tryz.underlying56, len_str Tryz.underlying9, H.lay, rowO_put, rowA_cells, Nat.zero_add, Nat.add_zero, iaddr_slice Tryz.underlying56 Tryz.size60 hlt, hrow, k0, e1']; rfl) ?_ | refine AOps.s rfl rfl rfl ?_ | refine AOps.u rfl rfl rfl rfl (by simp only [evS, cond_tt, cond_ff, absV, depthV, Nat.reduceEqDiff, Nat.reduceLT, ↓reduceIte, Option.map_some, Option.bind_some, List.toList_toArray, load_agg Tryz.agg60 Tryz.size60, load_one Tryz.agg9, load_one Tryz.agg3, Tryz.fa60_0, Tryz.fa60_1, Tryz.fa60_2, len_slice Tryz.underlying56, len_str Tryz.underlying9, H.lay, rowO_put, rowA_cells, Nat.zero_add, Nat.add_zero, iaddr_slice Tryz.underlying56 Tryz.size60 hlt, hrow, k0, e1']; rfl) ?_)); refine AOps.nil ?_
        (repeat refine AWp.seq ?_); change AWp _ _ _ _ _; refine AWp.yes (by rfl) (by rfl) ?_
        (repeat refine AWp.seq ?_); change AWp _ _ _ _ _; refine AWp.region ?_; (repeat (first | refine AOps.v rfl rfl rfl rfl rfl (by simp only [evS, cond_tt, cond_ff, absV, depthV, Nat.reduceEqDiff, Nat.reduceLT, ↓reduceIte, Option.map_some, Option.bind_some, List.toList_toArray]; rfl) ?_ | refine AOps.s rfl rfl rfl ?_ | refine AOps.u rfl rfl rfl rfl (by simp only [evS, cond_tt, cond_ff, absV, depthV, Nat.reduceEqDiff, Nat.reduceLT, ↓reduceIte, Option.map_some, Option.bind_some, List.toList_toArray]; rfl) ?_)); refine AOps.nil ?_
        refine AWp.ret ?_
        (try simp only [OutOf, Then, Round, NoGoto]); refine leaves_plain (by rfl) (by rfl) (fun _ => rfl) (by rfl) ⟨?_, rfl⟩; rw [fewX_no ht (by unfold Xf.few; rw [e1]; rfl)]; rfl
      · have e1' : decide ((100 : Int) < (t.fr.length : Int)) = false := by simp only [decide_eq_true_eq, decide_eq_false_iff_not] at e1 ⊢; omega
        cases e2 : decide (t.to.length ≤ 100)
        · have e2' : decide ((100 : Int) < (t.to.length : Int)) = true := by simp only [decide_eq_true_eq, decide_eq_false_iff_not] at e2 ⊢; omega
          (repeat refine AWp.seq ?_); change AWp _ _ _ _ _; refine AWp.region ?_; (repeat (first | refine AOps.v rfl rfl rfl rfl rfl (by simp only [evS, cond_tt, cond_ff, absV, depthV, Nat.reduceEqDiff, Nat.reduceLT, ↓reduceIte, Option.map_some, Option.bind_some, List.toList_toArray, load_agg Tryz.agg60 Tryz.size60, load_one Tryz.agg9, load_one Tryz.agg3, Tryz.fa60_0, Tryz.fa60_1, Tryz.fa60_2, len_slice Tryz.underlying56, len_str Tryz.underlying9, H.lay, rowO_put, rowA_cells, Nat.zero_add, Nat.add_zero, iaddr_slice Tryz.underlying56 Tryz.size60 hlt, hrow, k0, k1, e1', e2']; rfl) ?_ | refine AOps.s rfl rfl rfl ?_ | refine AOps.u rfl rfl rfl rfl (by simp only [evS, cond_tt, cond_ff, absV, depthV, Nat.reduceEqDiff, Nat.reduceLT, ↓reduceIte, Option.map_some, Option.bind_some, List.toList_toArray, load_agg Tryz.agg60 Tryz.size60, load_one Tryz.agg9, load_one Tryz.agg3, Tryz.fa60_0, Tryz.fa60_1, Tryz.fa60_2, len_slice Tryz.underlying56, len_str Tryz.underlying9, H.lay, rowO_put, rowA_cells, Nat.zero_add, Nat.add_zero, iaddr_slice Tryz.underlying56 Tryz.size60 hlt, hrow, k0, k1, e1', e2']; rfl) ?_)); refine AOps.nil ?_
          (repeat refine AWp.seq ?_); change AWp _ _ _ _ _; refine AWp.yes (by rfl) (by rfl) ?_
          (repeat refine AWp.seq ?_); change AWp _ _ _ _ _; refine AWp.region ?_; (repeat (first | refine AOps.v rfl rfl rfl rfl rfl (by simp only [evS, cond_tt, cond_ff, absV, depthV, Nat.reduceEqDiff, Nat.reduceLT, ↓reduceIte, Option.map_some, Option.bind_some, List.toList_toArray]; rfl) ?_ | refine AOps.s rfl rfl rfl ?_ | refine AOps.u rfl rfl rfl rfl (by simp only [evS, cond_tt, cond_ff, absV, depthV, Nat.reduceEqDiff, Nat.reduceLT, ↓reduceIte, Option.map_some, Option.bind_some, List.toList_toArray]; rfl) ?_)); refine AOps.nil ?_
          refine AWp.ret ?_
          (try simp only [OutOf, Then, Round, NoGoto]); refine leaves_plain (by rfl) (by rfl) (fun _ => rfl) (by rfl) ⟨?_, rfl⟩; rw [fewX_no ht (by unfold Xf.few; rw [e2, Bool.and_false])]; rfl
        · have e2' : decide ((100 : Int) < (t.to.length : Int)) = false := by simp only [decide_eq_true_eq, decide_eq_false_iff_not] at e2 ⊢; omega
          (repeat refine AWp.seq ?_); change AWp _ _ _ _ _; refine AWp.region ?_; (repeat (first | refine AOps.v rfl rfl rfl rfl rfl (by simp only [evS, cond_tt, cond_ff, absV, depthV, Nat.reduceEqDiff, Nat.reduceLT, ↓reduceIte, Option.map_some, Option.bind_some, List.toList_toArray, load_agg Tryz.agg60 Tryz.size60, load_one Tryz.agg9, load_one Tryz.agg3, Tryz.fa60_0, Tryz.fa60_1, Tryz.fa60_2, len_slice Tryz.underlying56, len_str Tryz.underlying9, H.lay, rowO_put, rowA_cells, Nat.zero_add, Nat.add_zero, iaddr_slice Tryz.underlying56 Tryz.size60 hlt, hrow, k0, k1, e1', e2']; rfl) ?_ | refine AOps.s rfl rfl rfl ?_ | refine AOps.u rfl rfl rfl rfl (by simp only [evS, cond_tt, cond_ff, absV, depthV, Nat.reduceEqDiff, Nat.reduceLT, ↓reduceIte, Option.map_some, Option.bind_some, List.toList_toArray, load_agg Tryz.agg60 Tryz.size60, load_one Tryz.agg9, load_one Tryz.agg3, Tryz.fa60_0, Tryz.fa60_1, Tryz.fa60_2, len_slice Tryz.underlying56, len_str Tryz.underlying9, H.lay, rowO_put, rowA_cells, Nat.zero_add, Nat.add_zero, iaddr_slice Tryz.underlying56 Tryz.size60 hlt, hrow, k0, k1, e1', e2']; rfl) ?_)); refine AOps.nil ?_
          (repeat refine AWp.seq ?_); change AWp _ _ _ _ _; refine AWp.no (by rfl) (by rfl) (AWp.skip ?_)
          (repeat refine AWp.seq ?_); change AWp _ _ _ _ _; refine AWp.region ?_; (repeat (first | refine AOps.v rfl rfl rfl rfl rfl (by simp only [evS, cond_tt, cond_ff, absV, depthV, Nat.reduceEqDiff, Nat.reduceLT, ↓reduceIte, Option.map_some, Option.bind_some, List.toList_toArray, bin_add (show -9223372036854775808 ≤ (k : Int) + 1 ∧ (k : Int) + 1 ≤ 9223372036854775807 from ⟨by omega, by omega⟩)]; rfl) ?_ | refine AOps.s rfl rfl rfl ?_ | refine AOps.u rfl rfl rfl rfl (by simp only [evS, cond_tt, cond_ff, absV, depthV, Nat.reduceEqDiff, Nat.reduceLT, ↓reduceIte, Option.map_some, Option.bind_some, List.toList_toArray, bin_add (show -9223372036854775808 ≤ (k : Int) + 1 ∧ (k : Int) + 1 ≤ 9223372036854775807 from ⟨by omega, by omega⟩)]; rfl) ?_)); refine AOps.nil ?_
          refine ⟨ts.length - (k + 1), by omega, k + 1, hlt, rfl, fun i t' hi ht' => ?_, rfl, rfl, rfl, rfl, rfl, rfl, trivial⟩
          by_cases ee : i = k
          · subst ee; rw [ht] at ht'; cases ht'; unfold Xf.few; rw [e1, e2]; rfl
          · exact hall i t' (by omega) ht'
    · have hkk : k = ts.length := by omega
      subst hkk
      have c1 : decide ((ts.length : Int) < (ts.length : Int)) = false := by simp
      (repeat refine AWp.seq ?_); change AWp _ _ _ _ _; refine AWp.region ?_; (repeat (first | refine AOps.v rfl rfl rfl rfl rfl (by simp only [evS, cond_tt, cond_ff, absV, depthV, Nat.reduceEqDiff, Nat.reduceLT, ↓reduceIte, Option.map_some, Option.bind_some, List.toList_toArray, load_agg Tryz.agg60 Tryz.size60, load_one Tryz.agg9, load_one Tryz.agg3, Tryz.fa60_0, Tryz.fa60_1, Tryz.fa60_2, len_slice Tryz.underlying56, len_str Tryz.underlying9, H.lay, rowO_put, rowA_cells, Nat.zero_add, Nat.add_zero, c1]; rfl) ?_ | refine AOps.s rfl rfl rfl ?_ | refine AOps.u rfl rfl rfl rfl (by simp only [evS, cond_tt, cond_ff, absV, depthV, Nat.reduceEqDiff, Nat.reduceLT, ↓reduceIte, Option.map_some, Option.bind_some, List.toList_toArray, load_agg Tryz.agg60 Tryz.size60, load_one Tryz.agg9, load_one Tryz.agg3, Tryz.fa60_0, Tryz.fa60_1, Tryz.fa60_2, len_slice Tryz.underlying56, len_str Tryz.underlying9, H.lay, rowO_put, rowA_cells, Nat.zero_add, Nat.add_zero, c1]; rfl) ?_)); refine AOps.nil ?_
      (repeat refine AWp.seq ?_); change AWp _ _ _ _ _; refine AWp.no (by rfl) (by rfl) ?_
      refine AWp.exit ?_
      (repeat refine AWp.seq ?_); change AWp _ _ _ _ _; refine AWp.region ?_; (repeat (first | refine AOps.v rfl rfl rfl rfl rfl (by simp only [evS, cond_tt, cond_ff, absV, depthV, Nat.reduceEqDiff, Nat.reduceLT, ↓reduceIte, Option.map_some, Option.bind_some, List.toList_toArray, load_agg Tryz.agg60 Tryz.size60, load_one Tryz.agg9, load_one Tryz.agg3, Tryz.fa60_0, Tryz.fa60_1, Tryz.fa60_2, len_slice Tryz.underlying56, len_str Tryz.underlying9, H.lay, rowO_put, rowA_cells, Nat.zero_add, Nat.add_zero, c2]; rfl) ?_ | refine AOps.s rfl rfl rfl ?_ | refine AOps.u rfl rfl rfl rfl (by simp only [evS, cond_tt, cond_ff, absV, depthV, Nat.reduceEqDiff, Nat.reduceLT, ↓reduceIte, Option.map_some, Option.bind_some, List.toList_toArray, load_agg Tryz.agg60 Tryz.size60, load_one Tryz.agg9, load_one Tryz.agg3, Tryz.fa60_0, Tryz.fa60_1, Tryz.fa60_2, len_slice Tryz.underlying56, len_str Tryz.underlying9, H.lay, rowO_put, rowA_cells, Nat.zero_add, Nat.add_zero, c2]; rfl) ?_)); refine AOps.nil ?_
      refine AWp.ret ?_
      (try simp only [OutOf, Then, Round, NoGoto]); refine leaves_plain (by rfl) (by rfl) (fun _ => rfl) (by rfl) ⟨?_, rfl⟩; rw [fewX_yes h60 hall]; rfl
  · have c2 : decide ((ts.length : Int) ≤ 60) = false := by simp only [decide_eq_false_iff_not]; omega
    have hfx : fewX ts = false := by unfold fewX; simp [h60]
    by_cases hlt : k < ts.length
    · have c1 : decide ((k : Int) < (ts.length : Int)) = true := by simp only [decide_eq_true_eq]; omega
      (repeat refine AWp.seq ?_); change AWp _ _ _ _ _; refine AWp.region ?_; (repeat (first | refine AOps.v rfl rfl rfl rfl rfl (by simp only [evS, cond_tt, cond_ff, absV, depthV, Nat.reduceEqDiff, Nat.reduceLT, ↓reduceIte, Option.map_some, Option.bind_some, List.toList_toArray, load_agg Tryz.agg60 Tryz.size60, load_one Tryz.agg9, load_one Tryz.agg3, Tryz.fa60_0, Tryz.fa60_1, Tryz.fa60_2, len_slice Tryz.underlying56, len_str Tryz.underlying9, H.lay, rowO_put, rowA_cells, Nat.zero_add, Nat.add_zero, c1, c2]; rfl) ?_ | refine AOps.s rfl rfl rfl ?_ | refine AOps.u rfl rfl rfl rfl (by simp only [evS, cond_tt, cond_ff, absV, depthV, Nat.reduceEqDiff, Nat.reduceLT, ↓reduceIte, Option.map_some, Option.bind_some, List.toList_toArray, load_agg Tryz.agg60 Tryz.size60, load_one Tryz.agg9, load_one Tryz.agg3, Tryz.fa60_0, Tryz.fa60_1, Tryz.fa60_2, len_slice Tryz.underlying56, len_str Tryz.underlying9, H.lay, rowO_put, rowA_cells, Nat.zero_add, Nat.add_zero, c1, c2]; rfl) ?_)); refine AOps.nil ?_
      (repeat refine AWp.seq ?_); change AWp _ _ _ _ _; refine AWp.no (by rfl) (by rfl) ?_
      refine AWp.exit ?_
      (repeat refine AWp.seq ?_); change AWp _ _ _ _ _; refine AWp.region ?_; (repeat (first | refine AOps.v rfl rfl rfl rfl rfl (by simp only [evS, cond_tt, cond_ff, absV, depthV, Nat.reduceEqDiff, Nat.reduceLT, ↓reduceIte, Option.map_some, Option.bind_some, List.toList_toArray, load_agg Tryz.agg60 Tryz.size60, load_one Tryz.agg9, load_one Tryz.agg3, Tryz.fa60_0, Tryz.fa60_1, Tryz.fa60_2, len_slice Tryz.underlying56, len_str Tryz.underlying9, H.lay, rowO_put, rowA_cells, Nat.zero_add, Nat.add_zero, c2]; rfl) ?_ | refine AOps.s rfl rfl rfl ?_ | refine AOps.u rfl rfl rfl rfl (by simp only [evS, cond_tt, cond_ff, absV, depthV, Nat.reduceEqDiff, Nat.reduceLT, ↓reduceIte, Option.map_some, Option.bind_some, List.toList_toArray, load_agg Tryz.agg60 Tryz.size60, load_one Tryz.agg9, load_one Tryz.agg3, Tryz.fa60_0, Tryz.fa60_1, Tryz.fa60_2, len_slice Tryz.underlying56, len_str Tryz.underlying9, H.lay, rowO_put, rowA_cells, Nat.zero_add, Nat.add_zero, c2]; rfl) ?_)); refine AOps.nil ?_
      refine AWp.ret ?_
      (try simp only [OutOf, Then, Round, NoGoto]); refine leaves_plain (by rfl) (by rfl) (fun _ => rfl) (by rfl) ⟨?_, rfl⟩; rw [hfx]; rfl
    · have c1 : decide ((k : Int) < (ts.length : Int)) = false := by simp only [decide_eq_false_iff_not]; omega
      (repeat refine AWp.seq ?_); change AWp _ _ _ _ _; refine AWp.region ?_; (repeat (first | refine AOps.v rfl rfl rfl rfl rfl (by simp only [evS, cond_tt, cond_ff, absV, depthV, Nat.reduceEqDiff, Nat.reduceLT, ↓reduceIte, Option.map_some, Option.bind_some, List.toList_toArray, load_agg Tryz.agg60 Tryz.size60, load_one Tryz.agg9, load_one Tryz.agg3, Tryz.fa60_0, Tryz.fa60_1, Tryz.fa60_2, len_slice Tryz.underlying56, len_str Tryz.underlying9, H.lay, rowO_put, rowA_cells, Nat.zero_add, Nat.add_zero, c1]; rfl) ?_ | refine AOps.s rfl rfl rfl ?_ | refine AOps.u rfl rfl rfl rfl (by simp only [evS, cond_tt, cond_ff, absV, depthV, Nat.reduceEqDiff, Nat.reduceLT, ↓reduceIte, Option.map_some, Option.bind_some, List.toList_toArray, load_agg Tryz.agg60 Tryz.size60, load_one Tryz.agg9, load_one Tryz.agg3, Tryz.fa60_0, Tryz.fa60_1, Tryz.fa60_2, len_slice Tryz.underlying56, len_str Tryz.underlying9, H.lay, rowO_put, rowA_cells, Nat.zero_add, Nat.add_zero, c1]; rfl) ?_)); refine AOps.nil ?_
      (repeat refine AWp.seq ?_); change AWp _ _ _ _ _; refine AWp.no (by rfl) (by rfl) ?_
      refine AWp.exit ?_
      (repeat refine AWp.seq ?_); change AWp _ _ _ _ _; refine AWp.region ?_; (repeat (first | refine AOps.v rfl rfl rfl rfl rfl (by simp only [evS, cond_tt, cond_ff, absV, depthV, Nat.reduceEqDiff, Nat.reduceLT, ↓reduceIte, Option.map_some, Option.bind_some, List.toList_toArray, load_agg Tryz.agg60 Tryz.size60, load_one Tryz.agg9, load_one Tryz.agg3, Tryz.fa60_0, Tryz.fa60_1, Tryz.fa60_2, len_slice Tryz.underlying56, len_str Tryz.underlying9, H.lay, rowO_put, rowA_cells, Nat.zero_add, Nat.add_zero, c2]; rfl) ?_ | refine AOps.s rfl rfl rfl ?_ | refine AOps.u rfl rfl rfl rfl (by simp only [evS, cond_tt, cond_ff, absV, depthV, Nat.reduceEqDiff, Nat.reduceLT, ↓reduceIte, Option.map_some, Option.bind_some, List.toList_toArray, load_agg Tryz.agg60 Tryz.size60, load_one Tryz.agg9, load_one Tryz.agg3, Tryz.fa60_0, Tryz.fa60_1, Tryz.fa60_2, len_slice Tryz.underlying56, len_str Tryz.underlying9, H.lay, rowO_put, rowA_cells, Nat.zero_add, Nat.add_zero, c2]; rfl) ?_)); refine AOps.nil ?_
      refine AWp.ret ?_
      (try simp only [OutOf, Then, Round, NoGoto]); refine leaves_plain (by rfl) (by rfl) (fun _ => rfl) (by rfl) ⟨?_, rfl⟩; rw [hfx]; rfl

end Go.Proofs

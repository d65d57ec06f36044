/- Seat r1: the examples of chapter 43, run with tables. No conditions beyond those that each theorem states. -/
import Derived.Test.YthfdoggncbcmjaaGreatBa
import Derived.Test.YthfdoggncbcmjaaGreatGh
import Derived.Shelf.SlGeneric
import Derived.Shelf.SortM.Plain
import Derived.Shelf.SortM.SortNone
import Derived.Ground.SlgmProg
import Derived.Test.YthfdoggncbcmjaaGreatProg

set_option linter.unusedSimpArgs false
set_option linter.unusedVariables false
set_option linter.unusedSectionVars false

namespace Go.Proofs
open Go.Ev Go.RowKit
set_option maxRecDepth 100000

def sD (s : List Nat) : DV := .fl (.str s)
def iD (n : Int) : DV := .fl (.int .i64 n)
def evD (op day : Int) (part kind into slot : List Nat) (lo hi : Int) : List DV := [iD op, iD day, sD part, sD kind, sD into, sD slot, sD [], sD [], iD lo, iD hi, iD 0, iD 0, iD 0, iD 0]
def sA : List Nat := [97]
def sC : List Nat := [99]
def sAxle : List Nat := [97, 120, 108, 101]
def sCart : List Nat := [99, 97, 114, 116]
def ev1 : List DV := evD 1 10 sA sAxle [] [] 0 0
def ev2 : List DV := evD 1 10 sC sCart [] [] 0 0
def ev3 : List DV := evD 2 11 sA [] sC sAxle 0 0
def ev4 : List DV := evD 4 20 sC [] [] [] 40 40
def ev5 : List DV := evD 4 20 sC [] [] [] 60 60
def rpD (n : Nat) (cs : List DV) : List DV := [.ag [.sl false n 14 cs, .fl (.bool false)]]
def catD : List DV := [.ag [.sl false 2 3 [sD sAxle, .fl (.bool false), .sl true 0 0 [], sD sCart, .fl (.bool true), .sl false 1 3 [sD sAxle, .sl false 1 1 [sD sAxle], iD 1]]]]
def frmD : List DV := [.ag [iD 2, iD 0, .sl true 0 0 []]]

noncomputable def exs0 : EX := [(65, .name), (136, .name), (146, .clone)]

noncomputable def tb105 : List (List DV × AV) := [([.ag ev1], .bool true), ([.ag ev2], .bool true), ([.ag ev3], .bool true), ([.ag ev4], .bool true), ([.ag ev5], .bool true)]
theorem ev105_1 : ends (evVF Tryz.prog exs0 300 60 (.func 83) (canonL [.ag ev1] 0).1 (hpR (canonL [.ag ev1] 0).2)) (.bool true) = true := by kernel_rfl
theorem ev105_2 : ends (evVF Tryz.prog exs0 300 60 (.func 83) (canonL [.ag ev2] 0).1 (hpR (canonL [.ag ev2] 0).2)) (.bool true) = true := by kernel_rfl
theorem ev105_3 : ends (evVF Tryz.prog exs0 300 60 (.func 83) (canonL [.ag ev3] 0).1 (hpR (canonL [.ag ev3] 0).2)) (.bool true) = true := by kernel_rfl
theorem ev105_4 : ends (evVF Tryz.prog exs0 300 60 (.func 83) (canonL [.ag ev4] 0).1 (hpR (canonL [.ag ev4] 0).2)) (.bool true) = true := by kernel_rfl
theorem ev105_5 : ends (evVF Tryz.prog exs0 300 60 (.func 83) (canonL [.ag ev5] 0).1 (hpR (canonL [.ag ev5] 0).2)) (.bool true) = true := by kernel_rfl
theorem Tryz.x105 : XOne Tryz.prog 83 (.deep tb105) := XOne.deep fun x hx => by
  simp only [tb105, List.mem_cons, List.not_mem_nil, or_false] at hx
  rcases hx with rfl | rfl | rfl | rfl | rfl
  · exact ⟨rfl, deep_ev Tryz.nogo Tryz.exs ev105_1⟩
  · exact ⟨rfl, deep_ev Tryz.nogo Tryz.exs ev105_2⟩
  · exact ⟨rfl, deep_ev Tryz.nogo Tryz.exs ev105_3⟩
  · exact ⟨rfl, deep_ev Tryz.nogo Tryz.exs ev105_4⟩
  · exact ⟨rfl, deep_ev Tryz.nogo Tryz.exs ev105_5⟩

noncomputable def exs1 : EX := (83, .deep tb105) :: exs0
theorem Tryz.exs1 : ExOK Tryz.prog exs1 := .cons Tryz.x105 Tryz.exs

noncomputable def tb57 : List (List DV × AV) := [(rpD 1 ev1, .bool true), (rpD 1 ev2, .bool true), (rpD 1 ev3, .bool true), (rpD 2 (ev4 ++ ev5), .bool true)]
theorem ev57_1 : ends (evVF Tryz.prog exs1 300 60 (.func 36) (canonL (rpD 1 ev1) 0).1 (hpR (canonL (rpD 1 ev1) 0).2)) (.bool true) = true := by kernel_rfl
theorem ev57_2 : ends (evVF Tryz.prog exs1 300 60 (.func 36) (canonL (rpD 1 ev2) 0).1 (hpR (canonL (rpD 1 ev2) 0).2)) (.bool true) = true := by kernel_rfl
theorem ev57_3 : ends (evVF Tryz.prog exs1 300 60 (.func 36) (canonL (rpD 1 ev3) 0).1 (hpR (canonL (rpD 1 ev3) 0).2)) (.bool true) = true := by kernel_rfl
theorem ev57_4 : ends (evVF Tryz.prog exs1 300 60 (.func 36) (canonL (rpD 2 (ev4 ++ ev5)) 0).1 (hpR (canonL (rpD 2 (ev4 ++ ev5)) 0).2)) (.bool true) = true := by kernel_rfl
theorem Tryz.x57 : XOne Tryz.prog 36 (.deep tb57) := XOne.deep fun x hx => by
  simp only [tb57, List.mem_cons, List.not_mem_nil, or_false] at hx
  rcases hx with rfl | rfl | rfl | rfl
  · exact ⟨rfl, deep_ev Tryz.nogo Tryz.exs1 ev57_1⟩
  · exact ⟨rfl, deep_ev Tryz.nogo Tryz.exs1 ev57_2⟩
  · exact ⟨rfl, deep_ev Tryz.nogo Tryz.exs1 ev57_3⟩
  · exact ⟨rfl, deep_ev Tryz.nogo Tryz.exs1 ev57_4⟩

noncomputable def tb110 : List (List DV × AV) := [(rpD 1 ev1, .int .i64 1), (rpD 1 ev2, .int .i64 1), (rpD 1 ev3, .int .i64 1), (rpD 2 (ev4 ++ ev5), .int .i64 2)]
noncomputable def exs2 : EX := (36, .deep tb57) :: exs1
theorem Tryz.exs2 : ExOK Tryz.prog exs2 := .cons Tryz.x57 Tryz.exs1
theorem ev110_1 : ends (evVF Tryz.prog exs2 300 60 (.func 50) (canonL (rpD 1 ev1) 0).1 (hpR (canonL (rpD 1 ev1) 0).2)) (.int .i64 1) = true := by kernel_rfl
theorem ev110_2 : ends (evVF Tryz.prog exs2 300 60 (.func 50) (canonL (rpD 1 ev2) 0).1 (hpR (canonL (rpD 1 ev2) 0).2)) (.int .i64 1) = true := by kernel_rfl
theorem ev110_3 : ends (evVF Tryz.prog exs2 300 60 (.func 50) (canonL (rpD 1 ev3) 0).1 (hpR (canonL (rpD 1 ev3) 0).2)) (.int .i64 1) = true := by kernel_rfl
theorem ev110_4 : ends (evVF Tryz.prog exs2 300 60 (.func 50) (canonL (rpD 2 (ev4 ++ ev5)) 0).1 (hpR (canonL (rpD 2 (ev4 ++ ev5)) 0).2)) (.int .i64 2) = true := by kernel_rfl
theorem Tryz.x110 : XOne Tryz.prog 50 (.deep tb110) := XOne.deep fun x hx => by
  simp only [tb110, List.mem_cons, List.not_mem_nil, or_false] at hx
  rcases hx with rfl | rfl | rfl | rfl
  · exact ⟨rfl, deep_ev Tryz.nogo Tryz.exs2 ev110_1⟩
  · exact ⟨rfl, deep_ev Tryz.nogo Tryz.exs2 ev110_2⟩
  · exact ⟨rfl, deep_ev Tryz.nogo Tryz.exs2 ev110_3⟩
  · exact ⟨rfl, deep_ev Tryz.nogo Tryz.exs2 ev110_4⟩

noncomputable def tb92 : List (List DV × AV) := [(catD, .bool true)]
theorem ev92_1 : ends (evVF Tryz.prog exs2 300 60 (.func 51) (canonL catD 0).1 (hpR (canonL catD 0).2)) (.bool true) = true := by kernel_rfl
theorem Tryz.x92 : XOne Tryz.prog 51 (.deep tb92) := XOne.deep fun x hx => by
  simp only [tb92, List.mem_cons, List.not_mem_nil, or_false] at hx
  subst hx
  exact ⟨rfl, deep_ev Tryz.nogo Tryz.exs2 ev92_1⟩
noncomputable def tb93 : List (List DV × AV) := [(frmD, .bool true)]
theorem ev93_1 : ends (evVF Tryz.prog exs2 300 60 (.func 52) (canonL frmD 0).1 (hpR (canonL frmD 0).2)) (.bool true) = true := by kernel_rfl
theorem Tryz.x93 : XOne Tryz.prog 52 (.deep tb93) := XOne.deep fun x hx => by
  simp only [tb93, List.mem_cons, List.not_mem_nil, or_false] at hx
  subst hx
  exact ⟨rfl, deep_ev Tryz.nogo Tryz.exs2 ev93_1⟩

noncomputable def exs3 : EX := (51, .deep tb92) :: (50, .deep tb110) :: (52, .deep tb93) :: exs2
theorem Tryz.exs3 : ExOK Tryz.prog exs3 := .cons Tryz.x92 (.cons Tryz.x110 (.cons Tryz.x93 Tryz.exs2))

end Go.Proofs

/-
  DERIVED: THE SHELF's CONTRACTS AT THIS DUMP, IN PLAIN WORDS (tools/lay-plain.mjs out of 'TzcShelf.lean', which tools/lay-shelf.mjs wrote): THE SAME DECLARATIONS UNDER THE SAME NAMES: 'import', 'namespace', 'open', 'def', 'theorem' AND NOTHING ELSE: no command of the shelf's: FOR A HAND-IN. Each laying: the table of numbers ('.._ren') and one theorem, a field a fact of the dump's own or the kernel's comparison; each contract: ONE APPLICATION.
-/
namespace Go.Proofs
open Go.Shelf
def Tryz.sortM6_ren : Go.Shelf.Ren := ⟨fun | 6 => 127 | 8 => 186 | 9 => 185 | 19 => 244 | 20 => 245 | 21 => 235 | 22 => 236 | 23 => 237 | 24 => 238 | 25 => 239 | 26 => 240 | 27 => 241 | 28 => 242 | 29 => 243 | 36 => 265 | 31 => 266 | 32 => 267 | 37 => 268 | 38 => 269 | 39 => 226 | 41 => 284 | n => n, fun | 27 => 57 | 29 => 9 | 3 => 3 | 32 => 246 | 26 => 57 | 0 => 0 | 44 => 296 | 46 => 298 | 4 => 4 | 36 => 289 | 35 => 288 | 41 => 113 | 5 => 5 | 9 => 9 | 53 => 307 | 57 => 311 | 63 => 321 | 64 => 322 | n => n, fun | n => n⟩
theorem Tryz.sortM6 : Go.Proofs.SlLaysM.n6 Tryz.prog Tryz.sortM6_ren := {
  mixed := by kernel_rfl
  f6 := ⟨Tryz.f127.name, by decide, Tryz.func127.trans (congrArg some (by kernel_rfl))⟩
  f8 := Tryz.func186.trans (congrArg some (by kernel_rfl))
  f9 := ⟨Tryz.f185.name, by decide, Tryz.func185.trans (congrArg some (by kernel_rfl))⟩
  f19 := Tryz.func244.trans (congrArg some (by kernel_rfl))
  f20 := Tryz.func245.trans (congrArg some (by kernel_rfl))
  f21 := ⟨Tryz.f235.name, by decide, Tryz.func235.trans (congrArg some (by kernel_rfl))⟩
  f22 := ⟨Tryz.f236.name, by decide, Tryz.func236.trans (congrArg some (by kernel_rfl))⟩
  f23 := ⟨Tryz.f237.name, by decide, Tryz.func237.trans (congrArg some (by kernel_rfl))⟩
  f24 := ⟨Tryz.f238.name, by decide, Tryz.func238.trans (congrArg some (by kernel_rfl))⟩
  f25 := ⟨Tryz.f239.name, by decide, Tryz.func239.trans (congrArg some (by kernel_rfl))⟩
  f26 := ⟨Tryz.f240.name, by decide, Tryz.func240.trans (congrArg some (by kernel_rfl))⟩
  f27 := ⟨Tryz.f241.name, by decide, Tryz.func241.trans (congrArg some (by kernel_rfl))⟩
  f28 := ⟨Tryz.f242.name, by decide, Tryz.func242.trans (congrArg some (by kernel_rfl))⟩
  f29 := ⟨Tryz.f243.name, by decide, Tryz.func243.trans (congrArg some (by kernel_rfl))⟩
  f31 := Tryz.func266.trans (congrArg some (by kernel_rfl))
  f32 := Tryz.func267.trans (congrArg some (by kernel_rfl))
  f36 := ⟨Tryz.f265.name, by decide, Tryz.func265.trans (congrArg some (by kernel_rfl))⟩
  f37 := ⟨Tryz.f268.name, by decide, Tryz.func268.trans (congrArg some (by kernel_rfl))⟩
  f38 := ⟨Tryz.f269.name, by decide, Tryz.func269.trans (congrArg some (by kernel_rfl))⟩
  f39 := ⟨Tryz.f226.name, by decide, Tryz.func226.trans (congrArg some (by kernel_rfl))⟩
  f41 := ⟨Tryz.f284.name, by decide, Tryz.func284.trans (congrArg some (by kernel_rfl))⟩
  t0 := Tryz.underlying0
  a0 := Tryz.isAgg0
  z0 := Tryz.sizeOf0
  v0 := Tryz.zeroValue0
  t3 := Tryz.underlying3
  a3 := Tryz.isAgg3
  z3 := Tryz.sizeOf3
  v3 := Tryz.zeroValue3
  t4 := Tryz.underlying4
  a4 := Tryz.isAgg4
  z4 := Tryz.sizeOf4
  v4 := Tryz.zeroValue4
  t5 := Tryz.underlying5
  a5 := Tryz.isAgg5
  z5 := Tryz.sizeOf5
  v5 := Tryz.zeroValue5
  t9 := Tryz.underlying9
  a9 := Tryz.isAgg9
  z9 := Tryz.sizeOf9
  v9 := Tryz.zeroValue9
  t26 := Tryz.underlying57
  a26 := Tryz.isAgg57
  z26 := Tryz.sizeOf57
  v26 := Tryz.zeroValue57
  t27 := Tryz.underlying57
  a27 := Tryz.isAgg57
  z27 := Tryz.sizeOf57
  v27 := Tryz.zeroValue57
  t29 := Tryz.underlying9
  a29 := Tryz.isAgg9
  z29 := Tryz.sizeOf9
  v29 := Tryz.zeroValue9
  t32 := Tryz.underlying246
  a32 := Tryz.isAgg246
  z32 := Tryz.sizeOf246
  v32 := Tryz.zeroValue246
  t35 := Tryz.underlying288
  a35 := Tryz.isAgg288
  z35 := Tryz.sizeOf288
  v35 := Tryz.zeroValue288
  t36 := Tryz.underlying289
  a36 := Tryz.isAgg289
  z36 := Tryz.sizeOf289
  v36 := Tryz.zeroValue289
  t41 := Tryz.underlying113
  a41 := Tryz.isAgg113
  z41 := Tryz.sizeOf113
  v41 := Tryz.zeroValue113
  t44 := Tryz.underlying296
  a44 := Tryz.isAgg296
  z44 := Tryz.sizeOf296
  v44 := Tryz.zeroValue296
  t46 := Tryz.underlying298
  a46 := Tryz.isAgg298
  z46 := Tryz.sizeOf298
  v46 := Tryz.zeroValue298
  t53 := Tryz.underlying307
  a53 := Tryz.isAgg307
  z53 := Tryz.sizeOf307
  v53 := Tryz.zeroValue307
  t57 := Tryz.underlying311
  a57 := Tryz.isAgg311
  z57 := Tryz.sizeOf311
  v57 := Tryz.zeroValue311
  t63 := Tryz.underlying321
  a63 := Tryz.isAgg321
  z63 := Tryz.sizeOf321
  v63 := Tryz.zeroValue321
  t64 := Tryz.underlying322
  a64 := Tryz.isAgg322
  z64 := Tryz.sizeOf322
  v64 := Tryz.zeroValue322 }
end Go.Proofs

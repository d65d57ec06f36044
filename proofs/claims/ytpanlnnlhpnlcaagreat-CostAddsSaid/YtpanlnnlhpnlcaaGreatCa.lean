/-
  DERIVED: THE SHELF's CONTRACTS AT THIS DUMP, IN PLAIN WORDS (tools/lay-plain.mjs out of 'TryzShelf.lean', which tools/lay-shelf.mjs wrote): THE SAME DECLARATIONS UNDER THE SAME NAMES: 'import', 'namespace', 'open', 'def', 'theorem' AND NOTHING ELSE: no command of the shelf's: FOR A HAND-IN. Each laying: the table of numbers ('.._ren') and one theorem, a field a fact of the dump's own or the kernel's comparison; each contract: ONE APPLICATION.
-/
import Derived.Ground.GgsProg
import Derived.Shelf.GgSortFunc.Tiny
import Derived.Shelf.SlSortFuncK.WholeK
import Derived.Test.YtpanlnnlhpnlcaaGreatProg
import Derived.Test.YtpanlnnlhpnlcaaGreatSb
import Derived.Test.YtpanlnnlhpnlcaaGreatGh
import Derived.Test.YtpanlnnlhpnlcaaGreatSa
import Derived.Test.YtpanlnnlhpnlcaaGreatGg
import Derived.ProofKit
import Derived.Shelf.SlGeneric
import Derived.Shelf.SortM.Plain
import Derived.Shelf.SortM.SortNone
import Derived.Ground.SlgmProg

set_option linter.unusedSimpArgs false
set_option linter.unusedVariables false
set_option linter.unusedSectionVars false

namespace Go.Proofs
open Go.Shelf
def Tryz.laysGg6_ren : Go.Shelf.Ren := ⟨fun | 6 => 88 | 10 => 129 | 11 => 130 | 12 => 131 | 13 => 83 | 14 => 132 | 24 => 125 | 25 => 126 | 26 => 190 | 27 => 191 | 28 => 192 | 29 => 193 | 30 => 194 | 31 => 195 | 32 => 196 | 33 => 197 | 34 => 235 | 35 => 236 | 36 => 237 | 37 => 238 | 38 => 239 | 39 => 266 | n => n, fun | 20 => 20 | 26 => 165 | 35 => 212 | 0 => 0 | 37 => 214 | 3 => 3 | 41 => 159 | 44 => 219 | 49 => 205 | 51 => 207 | 4 => 4 | 54 => 277 | 53 => 276 | 58 => 185 | 5 => 5 | 9 => 9 | 60 => 329 | 64 => 270 | 66 => 355 | 67 => 327 | 17 => 17 | 32 => 209 | 33 => 210 | 82 => 383 | 12 => 12 | 75 => 376 | 76 => 377 | 77 => 378 | 78 => 379 | 79 => 380 | 80 => 381 | n => n, fun | n => n⟩
theorem Tryz.laysGg6 : Go.Proofs.LaysGg.n6 Tryz.prog Tryz.laysGg6_ren := {
  mixed := by kernel_rfl
  f6 := Tryz.func88.trans (congrArg some (by kernel_rfl))
  f10 := Tryz.func129.trans (congrArg some (by kernel_rfl))
  f11 := Tryz.func130.trans (congrArg some (by kernel_rfl))
  f12 := Tryz.func131.trans (congrArg some (by kernel_rfl))
  f13 := Tryz.func83.trans (congrArg some (by kernel_rfl))
  f14 := Tryz.func132.trans (congrArg some (by kernel_rfl))
  f24 := Tryz.func125.trans (congrArg some (by kernel_rfl))
  f25 := Tryz.func126.trans (congrArg some (by kernel_rfl))
  f26 := Tryz.func190.trans (congrArg some (by kernel_rfl))
  f27 := Tryz.func191.trans (congrArg some (by kernel_rfl))
  f28 := Tryz.func192.trans (congrArg some (by kernel_rfl))
  f29 := Tryz.func193.trans (congrArg some (by kernel_rfl))
  f30 := Tryz.func194.trans (congrArg some (by kernel_rfl))
  f31 := Tryz.func195.trans (congrArg some (by kernel_rfl))
  f32 := Tryz.func196.trans (congrArg some (by kernel_rfl))
  f33 := Tryz.func197.trans (congrArg some (by kernel_rfl))
  f34 := Tryz.func235.trans (congrArg some (by kernel_rfl))
  f35 := Tryz.func236.trans (congrArg some (by kernel_rfl))
  f36 := Tryz.func237.trans (congrArg some (by kernel_rfl))
  f37 := Tryz.func238.trans (congrArg some (by kernel_rfl))
  f38 := Tryz.func239.trans (congrArg some (by kernel_rfl))
  f39 := Tryz.func266.trans (congrArg some (by kernel_rfl))
  t0 := Tryz.underlying0
  a0 := Tryz.isAgg0
  z0 := Tryz.sizeOf0
  v0 := Tryz.zeroValue0
  i0 := by kernel_rfl
  t3 := Tryz.underlying3
  a3 := Tryz.isAgg3
  z3 := Tryz.sizeOf3
  v3 := Tryz.zeroValue3
  i3 := by kernel_rfl
  t4 := Tryz.underlying4
  a4 := Tryz.isAgg4
  z4 := Tryz.sizeOf4
  v4 := Tryz.zeroValue4
  i4 := by kernel_rfl
  t5 := Tryz.underlying5
  a5 := Tryz.isAgg5
  z5 := Tryz.sizeOf5
  v5 := Tryz.zeroValue5
  i5 := by kernel_rfl
  t9 := Tryz.underlying9
  a9 := Tryz.isAgg9
  z9 := Tryz.sizeOf9
  v9 := Tryz.zeroValue9
  i9 := by kernel_rfl
  t12 := Tryz.underlying12
  a12 := Tryz.isAgg12
  z12 := Tryz.sizeOf12
  v12 := Tryz.zeroValue12
  i12 := by kernel_rfl
  t17 := Tryz.underlying17
  a17 := Tryz.isAgg17
  z17 := Tryz.sizeOf17
  v17 := Tryz.zeroValue17
  i17 := by kernel_rfl
  t20 := Tryz.underlying20
  a20 := Tryz.isAgg20
  z20 := Tryz.sizeOf20
  v20 := Tryz.zeroValue20
  i20 := by kernel_rfl
  t26 := Tryz.underlying165
  a26 := Tryz.isAgg165
  z26 := Tryz.sizeOf165
  v26 := Tryz.zeroValue165
  i26 := by kernel_rfl
  t32 := Tryz.underlying209
  a32 := Tryz.isAgg209
  z32 := Tryz.sizeOf209
  v32 := Tryz.zeroValue209
  i32 := by kernel_rfl
  t33 := Tryz.underlying210
  a33 := Tryz.isAgg210
  z33 := Tryz.sizeOf210
  v33 := Tryz.zeroValue210
  i33 := by kernel_rfl
  t35 := Tryz.underlying212
  a35 := Tryz.isAgg212
  z35 := Tryz.sizeOf212
  v35 := Tryz.zeroValue212
  i35 := by kernel_rfl
  t37 := Tryz.underlying214
  a37 := Tryz.isAgg214
  z37 := Tryz.sizeOf214
  v37 := Tryz.zeroValue214
  i37 := by kernel_rfl
  t41 := Tryz.underlying159
  a41 := Tryz.isAgg159
  z41 := Tryz.sizeOf159
  v41 := Tryz.zeroValue159
  i41 := by kernel_rfl
  t44 := Tryz.underlying219
  a44 := Tryz.isAgg219
  z44 := Tryz.sizeOf219
  v44 := Tryz.zeroValue219
  i44 := by kernel_rfl
  t49 := Tryz.underlying205
  a49 := Tryz.isAgg205
  z49 := Tryz.sizeOf205
  v49 := Tryz.zeroValue205
  i49 := by kernel_rfl
  t51 := Tryz.underlying207
  a51 := Tryz.isAgg207
  z51 := Tryz.sizeOf207
  v51 := Tryz.zeroValue207
  i51 := by kernel_rfl
  t53 := Tryz.underlying276
  a53 := Tryz.isAgg276
  z53 := Tryz.sizeOf276
  v53 := Tryz.zeroValue276
  i53 := by kernel_rfl
  t54 := Tryz.underlying277
  a54 := Tryz.isAgg277
  z54 := Tryz.sizeOf277
  v54 := Tryz.zeroValue277
  i54 := by kernel_rfl
  t58 := Tryz.underlying185
  a58 := Tryz.isAgg185
  z58 := Tryz.sizeOf185
  v58 := Tryz.zeroValue185
  i58 := by kernel_rfl
  t60 := Tryz.underlying329
  a60 := Tryz.isAgg329
  z60 := Tryz.sizeOf329
  v60 := Tryz.zeroValue329
  i60 := by kernel_rfl
  t64 := Tryz.underlying270
  a64 := Tryz.isAgg270
  z64 := Tryz.sizeOf270
  v64 := Tryz.zeroValue270
  i64 := by kernel_rfl
  t66 := Tryz.underlying355
  a66 := Tryz.isAgg355
  z66 := Tryz.sizeOf355
  v66 := Tryz.zeroValue355
  i66 := by kernel_rfl
  t67 := Tryz.underlying327
  a67 := Tryz.isAgg327
  z67 := Tryz.sizeOf327
  v67 := Tryz.zeroValue327
  i67 := by kernel_rfl
  t75 := Tryz.underlying376
  a75 := Tryz.isAgg376
  z75 := Tryz.sizeOf376
  v75 := Tryz.zeroValue376
  i75 := by kernel_rfl
  t76 := Tryz.underlying377
  a76 := Tryz.isAgg377
  z76 := Tryz.sizeOf377
  v76 := Tryz.zeroValue377
  i76 := by kernel_rfl
  t77 := Tryz.underlying378
  a77 := Tryz.isAgg378
  z77 := Tryz.sizeOf378
  v77 := Tryz.zeroValue378
  i77 := by kernel_rfl
  t78 := Tryz.underlying379
  a78 := Tryz.isAgg379
  z78 := Tryz.sizeOf379
  v78 := Tryz.zeroValue379
  i78 := by kernel_rfl
  t79 := Tryz.underlying380
  a79 := Tryz.isAgg380
  z79 := Tryz.sizeOf380
  v79 := Tryz.zeroValue380
  i79 := by kernel_rfl
  t80 := Tryz.underlying381
  a80 := Tryz.isAgg381
  z80 := Tryz.sizeOf381
  v80 := Tryz.zeroValue381
  i80 := by kernel_rfl
  t82 := Tryz.underlying383
  a82 := Tryz.isAgg383
  z82 := Tryz.sizeOf383
  v82 := Tryz.zeroValue383
  i82 := by kernel_rfl }
end Go.Proofs

/- Seat r1: the examples of chapter 44, run. No conditions beyond those that each theorem states. -/
namespace Go.Proofs
open Go.Ev Go.RowKit
set_option maxRecDepth 100000

theorem xname_of {P : Program} {f : FuncId} (hc : ∀ s : List Nat, s.length ≤ 1000000 → (∀ b ∈ s, b < 256) → ∀ h, ACalls P (.func f) [.str s] h (fun v h' => v = .bool (nameN s) ∧ h' = h)) : XOne P f .name := by
  intro args h a h' hx σ w args' hv hr
  have hshape : ∃ s, args = [.str s] ∧ Nat.ble s.length 1000000 = true ∧ a = .bool (nameN s) ∧ h' = h := by
    unfold xA at hx
    split at hx <;> first
      | (obtain ⟨h1, h2⟩ := cond_some hx; cases h2; exact ⟨_, rfl, h1, rfl, rfl⟩)
      | simp_all
  obtain ⟨s, rfl, hl, rfl, rfl⟩ := hshape
  have hb : ∀ b ∈ s, b < 256 := by
    obtain ⟨x, rfl, hx⟩ := args1 hv
    cases hx with
    | str hs =>
      intro b hb
      rw [← hs] at hb
      obtain ⟨u, _, rfl⟩ := List.mem_map.1 hb
      exact u.toNat_lt
  refine (hc s (bleN hl) hb _ σ w args' hv hr).mono ?_
  rintro v w' ⟨a', h'', ⟨rfl, rfl⟩, rest⟩
  exact ⟨_, _, List.mem_singleton.2 rfl, rest⟩

theorem Tryz.xname48 : XOne Tryz.prog 48 .name := xname_of fun s h1 h2 h => Tryz.lexName s h1 h2 h
theorem Tryz.xname52 : XOne Tryz.prog 52 .name := xname_of fun s h1 _ h => Tryz.name05 s h1 h

theorem Tryz.info56' : Tryz.prog.info? 56 = some Tryz.t56 := by kernel_rfl
theorem Tryz.info60' : Tryz.prog.info? 60 = some Tryz.t60 := by kernel_rfl

theorem Tryz.xsort : XOne Tryz.prog 88 (.sort1 [56]) := XOne.sort1 Tryz.nogo Tryz.func88 (by kernel_rfl) (by
  intro t ht o l c lf la lb w h1 h2
  rw [List.mem_singleton.1 ht]
  have hf := fun f hf => Any.sort_Slice_tiny Tryz.laysGg6 56 60 Tryz.t56 Tryz.t60 Tryz.info56' (by kernel_rfl) (by kernel_rfl) Tryz.info60' 25 (fun _ => by kernel_rfl) o l c h1 f hf lf la lb w
  have h01 : l = 0 ∨ l = 1 := by omega
  refine Calls.mono (hf (if l = 0 then 181 else 182) (by rcases h01 with e | e <;> rw [e] <;> kernel_rfl)) ?_
  rintro e w' ⟨rfl, os, rfl⟩
  exact ⟨rfl, rfl, rfl, rfl, by rw [Go.Sort.size_grow]; omega, fun k hk => by simp [Go.Sort.grow, Array.getElem?_append, hk]⟩)

theorem Tryz.exs : ExOK Tryz.prog [(48, .name), (52, .name), (170, .clone), (127, .cmp), (88, .sort1 [56])] := .cons Tryz.xname48 (.cons Tryz.xname52 (.cons Tryz.xclone (.cons Tryz.xcmp (.cons Tryz.xsort .nil))))

theorem Tryz.head44_ev : ends (evVF Tryz.prog [(48, .name), (52, .name), (170, .clone), (127, .cmp), (88, .sort1 [56])] 300 60 (.func 23) [] hz) (.bool true) = true := by kernel_rfl

theorem Tryz.xhead44 : XOne Tryz.prog 23 (.const (.bool true)) :=
  XOne.const Tryz.nogo Tryz.exs Tryz.func23 (by kernel_rfl) rfl (by rw [← evVF_eq]; exact Tryz.head44_ev)

theorem Tryz.head44 (h : H) : ACalls Tryz.prog (.func 23) [] h (fun v h' => v = .bool true ∧ h' = h) := .of_x Tryz.xhead44 rfl

end Go.Proofs

/- Seat r1: the examples of chapter 43, run with tables. No conditions beyond those that each theorem states. -/
namespace Go.Proofs
open Go.Ev Go.RowKit
set_option maxRecDepth 100000

def sD (s : List Nat) : DV := .fl (.str s)
def iD (n : Int) : DV := .fl (.int .i64 n)
def evD (op day : Int) (part kind into slot : List Nat) (lo hi : Int) : List DV := [iD op, iD day, sD part, sD kind, sD into, sD slot, sD [], sD [], iD lo, iD hi, iD 0, iD 0, iD 0, iD 0]
def sA : List Nat := [97]
def sC : List Nat := [99]
def sAxle : List Nat := [97, 120, 108, 101]
def sCart : List Nat := [99, 97, 114, 116]
def ev1 : List DV := evD 1 10 sA sAxle [] [] 0 0
def ev2 : List DV := evD 1 10 sC sCart [] [] 0 0
def ev3 : List DV := evD 2 11 sA [] sC sAxle 0 0
def ev4 : List DV := evD 4 20 sC [] [] [] 40 40
def ev5 : List DV := evD 4 20 sC [] [] [] 60 60
def rpD (n : Nat) (cs : List DV) : List DV := [.ag [.sl false n 14 cs, .fl (.bool false)]]
def catD : List DV := [.ag [.sl false 2 3 [sD sAxle, .fl (.bool false), .sl true 0 0 [], sD sCart, .fl (.bool true), .sl false 1 3 [sD sAxle, .sl false 1 1 [sD sAxle], iD 1]]]]
def frmD : List DV := [.ag [iD 2, iD 0, .sl true 0 0 []]]

noncomputable def exs0 : EX := [(48, .name), (52, .name), (170, .clone), (127, .cmp), (88, .sort1 [56])]

noncomputable def tb105 : List (List DV × AV) := [([.ag ev1], .bool true), ([.ag ev2], .bool true), ([.ag ev3], .bool true), ([.ag ev4], .bool true), ([.ag ev5], .bool true)]
theorem ev105_1 : ends (evVF Tryz.prog exs0 300 60 (.func 105) (canonL [.ag ev1] 0).1 (hpR (canonL [.ag ev1] 0).2)) (.bool true) = true := by kernel_rfl
theorem ev105_2 : ends (evVF Tryz.prog exs0 300 60 (.func 105) (canonL [.ag ev2] 0).1 (hpR (canonL [.ag ev2] 0).2)) (.bool true) = true := by kernel_rfl
theorem ev105_3 : ends (evVF Tryz.prog exs0 300 60 (.func 105) (canonL [.ag ev3] 0).1 (hpR (canonL [.ag ev3] 0).2)) (.bool true) = true := by kernel_rfl
theorem ev105_4 : ends (evVF Tryz.prog exs0 300 60 (.func 105) (canonL [.ag ev4] 0).1 (hpR (canonL [.ag ev4] 0).2)) (.bool true) = true := by kernel_rfl
theorem ev105_5 : ends (evVF Tryz.prog exs0 300 60 (.func 105) (canonL [.ag ev5] 0).1 (hpR (canonL [.ag ev5] 0).2)) (.bool true) = true := by kernel_rfl
theorem Tryz.x105 : XOne Tryz.prog 105 (.deep tb105) := XOne.deep fun x hx => by
  simp only [tb105, List.mem_cons, List.not_mem_nil, or_false] at hx
  rcases hx with rfl | rfl | rfl | rfl | rfl
  · exact ⟨rfl, deep_ev Tryz.nogo Tryz.exs ev105_1⟩
  · exact ⟨rfl, deep_ev Tryz.nogo Tryz.exs ev105_2⟩
  · exact ⟨rfl, deep_ev Tryz.nogo Tryz.exs ev105_3⟩
  · exact ⟨rfl, deep_ev Tryz.nogo Tryz.exs ev105_4⟩
  · exact ⟨rfl, deep_ev Tryz.nogo Tryz.exs ev105_5⟩

noncomputable def exs1 : EX := (105, .deep tb105) :: exs0
theorem Tryz.exs1 : ExOK Tryz.prog exs1 := .cons Tryz.x105 Tryz.exs

noncomputable def tb57 : List (List DV × AV) := [(rpD 1 ev1, .bool true), (rpD 1 ev2, .bool true), (rpD 1 ev3, .bool true), (rpD 2 (ev4 ++ ev5), .bool true)]
theorem ev57_1 : ends (evVF Tryz.prog exs1 300 60 (.func 57) (canonL (rpD 1 ev1) 0).1 (hpR (canonL (rpD 1 ev1) 0).2)) (.bool true) = true := by kernel_rfl
theorem ev57_2 : ends (evVF Tryz.prog exs1 300 60 (.func 57) (canonL (rpD 1 ev2) 0).1 (hpR (canonL (rpD 1 ev2) 0).2)) (.bool true) = true := by kernel_rfl
theorem ev57_3 : ends (evVF Tryz.prog exs1 300 60 (.func 57) (canonL (rpD 1 ev3) 0).1 (hpR (canonL (rpD 1 ev3) 0).2)) (.bool true) = true := by kernel_rfl
theorem ev57_4 : ends (evVF Tryz.prog exs1 300 60 (.func 57) (canonL (rpD 2 (ev4 ++ ev5)) 0).1 (hpR (canonL (rpD 2 (ev4 ++ ev5)) 0).2)) (.bool true) = true := by kernel_rfl
theorem Tryz.x57 : XOne Tryz.prog 57 (.deep tb57) := XOne.deep fun x hx => by
  simp only [tb57, List.mem_cons, List.not_mem_nil, or_false] at hx
  rcases hx with rfl | rfl | rfl | rfl
  · exact ⟨rfl, deep_ev Tryz.nogo Tryz.exs1 ev57_1⟩
  · exact ⟨rfl, deep_ev Tryz.nogo Tryz.exs1 ev57_2⟩
  · exact ⟨rfl, deep_ev Tryz.nogo Tryz.exs1 ev57_3⟩
  · exact ⟨rfl, deep_ev Tryz.nogo Tryz.exs1 ev57_4⟩

noncomputable def tb110 : List (List DV × AV) := [(rpD 1 ev1, .int .i64 1), (rpD 1 ev2, .int .i64 1), (rpD 1 ev3, .int .i64 1), (rpD 2 (ev4 ++ ev5), .int .i64 2)]
noncomputable def exs2 : EX := (57, .deep tb57) :: exs1
theorem Tryz.exs2 : ExOK Tryz.prog exs2 := .cons Tryz.x57 Tryz.exs1
theorem ev110_1 : ends (evVF Tryz.prog exs2 300 60 (.func 110) (canonL (rpD 1 ev1) 0).1 (hpR (canonL (rpD 1 ev1) 0).2)) (.int .i64 1) = true := by kernel_rfl
theorem ev110_2 : ends (evVF Tryz.prog exs2 300 60 (.func 110) (canonL (rpD 1 ev2) 0).1 (hpR (canonL (rpD 1 ev2) 0).2)) (.int .i64 1) = true := by kernel_rfl
theorem ev110_3 : ends (evVF Tryz.prog exs2 300 60 (.func 110) (canonL (rpD 1 ev3) 0).1 (hpR (canonL (rpD 1 ev3) 0).2)) (.int .i64 1) = true := by kernel_rfl
theorem ev110_4 : ends (evVF Tryz.prog exs2 300 60 (.func 110) (canonL (rpD 2 (ev4 ++ ev5)) 0).1 (hpR (canonL (rpD 2 (ev4 ++ ev5)) 0).2)) (.int .i64 2) = true := by kernel_rfl
theorem Tryz.x110 : XOne Tryz.prog 110 (.deep tb110) := XOne.deep fun x hx => by
  simp only [tb110, List.mem_cons, List.not_mem_nil, or_false] at hx
  rcases hx with rfl | rfl | rfl | rfl
  · exact ⟨rfl, deep_ev Tryz.nogo Tryz.exs2 ev110_1⟩
  · exact ⟨rfl, deep_ev Tryz.nogo Tryz.exs2 ev110_2⟩
  · exact ⟨rfl, deep_ev Tryz.nogo Tryz.exs2 ev110_3⟩
  · exact ⟨rfl, deep_ev Tryz.nogo Tryz.exs2 ev110_4⟩

noncomputable def tb92 : List (List DV × AV) := [(catD, .bool true)]
theorem ev92_1 : ends (evVF Tryz.prog exs2 300 60 (.func 92) (canonL catD 0).1 (hpR (canonL catD 0).2)) (.bool true) = true := by kernel_rfl
theorem Tryz.x92 : XOne Tryz.prog 92 (.deep tb92) := XOne.deep fun x hx => by
  simp only [tb92, List.mem_cons, List.not_mem_nil, or_false] at hx
  subst hx
  exact ⟨rfl, deep_ev Tryz.nogo Tryz.exs2 ev92_1⟩
noncomputable def tb93 : List (List DV × AV) := [(frmD, .bool true)]
theorem ev93_1 : ends (evVF Tryz.prog exs2 300 60 (.func 93) (canonL frmD 0).1 (hpR (canonL frmD 0).2)) (.bool true) = true := by kernel_rfl
theorem Tryz.x93 : XOne Tryz.prog 93 (.deep tb93) := XOne.deep fun x hx => by
  simp only [tb93, List.mem_cons, List.not_mem_nil, or_false] at hx
  subst hx
  exact ⟨rfl, deep_ev Tryz.nogo Tryz.exs2 ev93_1⟩

noncomputable def exs3 : EX := (92, .deep tb92) :: (110, .deep tb110) :: (93, .deep tb93) :: exs2
theorem Tryz.exs3 : ExOK Tryz.prog exs3 := .cons Tryz.x92 (.cons Tryz.x110 (.cons Tryz.x93 Tryz.exs2))

end Go.Proofs

/- Seat r1: a list of transfers as an argument of a law. No conditions beyond those that each theorem states. -/
namespace Go.Proofs
open Go.Ev Go.RowKit Go.ChangeShapes Go.WideShapes Go.ChangeAt Go.Deep

set_option maxRecDepth 100000

theorem three {α : Type} : ∀ {l : List α}, l.length = 3 → ∃ a b c, l = [a, b, c]
  | [a, b, c], _ => ⟨a, b, c, rfl⟩

section
variable {H : Type} {enc : TypeId × Value → H} {W : World}

def RowX (r : List AV) : Prop := ∃ t : Xf, r = t.cells ∧ ((∀ x ∈ t.fr, x < 256) ∧ ∀ x ∈ t.to, x < 256) ∧ -9223372036854775808 ≤ t.am ∧ t.am ≤ 9223372036854775807

theorem Tryz.cof60 : Tryz.prog.cellsOf 60 = 3 := by kernel_rfl
theorem Tryz.cof9 : Tryz.prog.cellsOf 9 = 1 := by kernel_rfl
theorem Tryz.cof3 : Tryz.prog.cellsOf 3 = 1 := by kernel_rfl

theorem Tryz.row60 (n : Nat) (cs : List Value) (y : DataW H × List MemPlace) (h : DataW.trod enc Tryz.prog W 0 (fun _ => true) true n 60 cs = some y) :
    ∃ r : List AV, RowX r ∧ r.length = cs.length ∧ ∀ (k : Nat) (a : AV) (u : Value), r[k]? = some a → cs[k]? = some u → ∀ σ : Sg, V σ a u := by
  obtain ⟨y0, y1, y2, m, _, hl, h0, h1, h2⟩ := trod_struct3 Tryz.underlying60 h
  rw [Tryz.cof60] at hl
  obtain ⟨c0, c1, c2, rfl⟩ := three hl
  · simp only [Tryz.cof9, Tryz.cof3, List.drop_zero, List.drop_succ_cons, List.take_succ_cons, List.take_zero] at h0 h1 h2
    obtain ⟨s0, e0, _⟩ := DataW.trod_string Tryz.underlying9 h0
    obtain ⟨s1, e1, _⟩ := DataW.trod_string Tryz.underlying9 h1
    obtain ⟨n2, e2, _, wf2⟩ := DataW.trod_int Tryz.underlying3 h2
    simp only [List.cons.injEq, and_true] at e0 e1 e2
    subst e0; subst e1; subst e2
    refine ⟨(Xf.mk (s0.data.toList.map (·.toNat)) (s1.data.toList.map (·.toNat)) n2).cells, ⟨_, rfl, ⟨bytes_lt s0, bytes_lt s1⟩, by simpa [Lit.wf, IntKind.min, IntKind.max, IntKind.signed, IntKind.bits] using wf2⟩, rfl, ?_⟩
    intro k a u ha hu σ
    match k with
    | 0 => simp [Xf.cells] at ha hu; subst ha; subst hu; exact str_V σ s0
    | 1 => simp [Xf.cells] at ha hu; subst ha; subst hu; exact str_V σ s1
    | 2 => simp [Xf.cells] at ha hu; subst ha; subst hu; exact .int _ _
    | k + 3 => simp [Xf.cells] at ha

theorem rowsX {rows : List (List AV)} (h : ∀ r ∈ rows, RowX r) : ∃ ts : List Xf, rows = ts.map Xf.cells ∧ ∀ t ∈ ts, ((∀ x ∈ t.fr, x < 256) ∧ ∀ x ∈ t.to, x < 256) ∧ -9223372036854775808 ≤ t.am ∧ t.am ≤ 9223372036854775807 := by
  induction rows with
  | nil => exact ⟨[], rfl, fun t ht => (List.not_mem_nil ht).elim⟩
  | cons r rows ih =>
    obtain ⟨ts, rfl, hts⟩ := ih fun r hr => h r (List.mem_cons_of_mem _ hr)
    obtain ⟨t, rfl, ht⟩ := h r (List.mem_cons_self ..)
    refine ⟨t :: ts, rfl, fun u hu => ?_⟩
    rcases List.mem_cons.1 hu with rfl | hu
    · exact ht
    · exact hts u hu

/-- A list of transfers. -/
structure ArgX (W : World) (v : Value) (g : Nat → AV) (x : Plc × Option (List AV)) (ts : List Xf) : Prop where
  rel : ∀ (σ : Sg) (id : Nat), σ id = some x.1 → V σ (g id) v
  rds : ∀ (h : Ev.H) (id : Nat), id < h.next → h.objs.get id = x.2.map .ro → RdX h (g id) ts
  mem : InMem W x
  row : ∀ t ∈ ts, (∀ x ∈ t.fr, x < 256) ∧ ∀ x ∈ t.to, x < 256
  rng : ∀ t ∈ ts, -9223372036854775808 ≤ t.am ∧ t.am ≤ 9223372036854775807
  top : ∀ id n, eqTop (n + 1) (g id) (g id) = true

theorem argX {v : Value} {base : Nat} {d : DataW H} {ps : List MemPlace} (hval : Value.okWide Tryz.prog W .any base 56 v) (hd : DataW.Trod enc Tryz.prog W 0 (fun _ => true) true 56 v d ps) : ∃ g x ts, ArgX W v g x ts := by
  obtain ⟨a, n, c, rfl⟩ := okWide_slice Tryz.underlying56 hval
  obtain ⟨g, x, rows, hs⟩ := Slc.of (R := RowX) rfl Tryz.underlying56 Tryz.cof60 (by decide) hd Tryz.row60
  obtain ⟨ts, rfl, hts⟩ := rowsX hs.row
  exact ⟨g, x, ts, hs.rel, hs.rds, hs.mem, fun t ht => (hts t ht).1, fun t ht => (hts t ht).2, hs.top⟩
end
end Go.Proofs

/- Seat r1: a law of two lists of transfers. No conditions beyond those that each theorem states. -/
namespace Go.Proofs.YtpanlnnlhpnlcaaGreat
open Go.Proofs Go.Ev Go.ChangeShapes Go.WideShapes Go.ChangeAt Go.RowKit

set_option maxRecDepth 100000

theorem ownK : ownKnob Tryz.prog.godebug = none := by kernel_rfl
theorem outL : laidOutB Tryz.prog = true := by kernel_rfl

theorem sgL_at {l : ArgL} {i : Nat} {x : Plc × Option (List AV)} (h : l[i]? = some x) : sgL l i = some x.1 := by unfold sgL; rw [h]; rfl

/-- Two lists of transfers as the arguments of a law. -/
theorem two_run {f : FuncId} {fn : Func} (hf : Tryz.prog.funcs[f]? = some fn) (hb : fn.body.isSome = true) {W : World} {v0 v1 : Value} {g0 g1 : Nat → AV} {x0 x1 : Plc × Option (List AV)} {ts0 ts1 : List Xf} (h0 : ArgX W v0 g0 x0 ts0) (h1 : ArgX W v1 g1 x1 ts1)
    (hlaw : ∀ (h : Ev.H), RdX h (g0 0) ts0 → RdX h (g1 1) ts1 → ACalls Tryz.prog (.func f) [g0 0, g1 1] h (fun r h' => r = .bool true ∧ h' = h)) : Calls Tryz.prog f #[v0, v1] W fun e W' => e = .returned (.bool true) ∧ Below W.heap.size W W' := by
  refine law_run Tryz.nogo hf hb (l := [x0, x1]) (args := [g0 0, g1 1]) ?_ ?_ (hlaw _ (h0.rds _ 0 (show 0 < 2 from by decide) (by rw [hpL_get]; rfl)) (h1.rds _ 1 (show 1 < 2 from by decide) (by rw [hpL_get]; rfl)))
  · intro x hx
    rcases List.mem_cons.1 hx with rfl | hx
    · exact h0.mem
    · rw [List.mem_singleton.1 hx]; exact h1.mem
  · exact .cons (h0.rel _ 0 (sgL_at rfl)) (.cons (h1.rel _ 1 (sgL_at rfl)) .nil)

/-- Two lists of transfers and an integer as the arguments of a law. -/
theorem three_run {f : FuncId} {fn : Func} (hf : Tryz.prog.funcs[f]? = some fn) (hb : fn.body.isSome = true) {W : World} {v0 v1 : Value} {k : IntKind} {n : Int} {g0 g1 : Nat → AV} {x0 x1 : Plc × Option (List AV)} {ts0 ts1 : List Xf} (h0 : ArgX W v0 g0 x0 ts0) (h1 : ArgX W v1 g1 x1 ts1)
    (hlaw : ∀ (h : Ev.H), RdX h (g0 0) ts0 → RdX h (g1 1) ts1 → ACalls Tryz.prog (.func f) [g0 0, g1 1, .int k n] h (fun r h' => r = .bool true ∧ h' = h)) : Calls Tryz.prog f #[v0, v1, .int k n] W fun e W' => e = .returned (.bool true) ∧ Below W.heap.size W W' := by
  refine law_run Tryz.nogo hf hb (l := [x0, x1]) (args := [g0 0, g1 1, .int k n]) ?_ ?_ (hlaw _ (h0.rds _ 0 (show 0 < 2 from by decide) (by rw [hpL_get]; rfl)) (h1.rds _ 1 (show 1 < 2 from by decide) (by rw [hpL_get]; rfl)))
  · intro x hx
    rcases List.mem_cons.1 hx with rfl | hx
    · exact h0.mem
    · rw [List.mem_singleton.1 hx]; exact h1.mem
  · exact .cons (h0.rel _ 0 (sgL_at rfl)) (.cons (h1.rel _ 1 (sgL_at rfl)) (.cons (.int _ _) .nil))

end Go.Proofs.YtpanlnnlhpnlcaaGreat

/-
  DERIVED: THE SHELF's CONTRACTS AT THIS DUMP, IN PLAIN WORDS (tools/lay-plain.mjs out of 'TzcShelf.lean', which tools/lay-shelf.mjs wrote): THE SAME DECLARATIONS UNDER THE SAME NAMES: 'import', 'namespace', 'open', 'def', 'theorem' AND NOTHING ELSE: no command of the shelf's: FOR A HAND-IN. Each laying: the table of numbers ('.._ren') and one theorem, a field a fact of the dump's own or the kernel's comparison; each contract: ONE APPLICATION.
-/
namespace Go.Proofs
open Go.Shelf
def Tryz.sortM6_ren : Go.Shelf.Ren := ⟨fun | 6 => 113 | 8 => 83 | 9 => 172 | 19 => 125 | 20 => 126 | 21 => 224 | 22 => 225 | 23 => 226 | 24 => 227 | 25 => 228 | 26 => 229 | 27 => 230 | 28 => 231 | 29 => 232 | 36 => 263 | 31 => 176 | 32 => 177 | 37 => 264 | 38 => 265 | 39 => 245 | 41 => 277 | n => n, fun | 27 => 73 | 29 => 9 | 3 => 3 | 32 => 159 | 26 => 73 | 0 => 0 | 44 => 205 | 46 => 207 | 4 => 4 | 36 => 199 | 35 => 198 | 41 => 185 | 5 => 5 | 9 => 9 | 53 => 266 | 57 => 270 | 63 => 326 | 64 => 327 | n => n, fun | n => n⟩
theorem Tryz.sortM6 : Go.Proofs.SlLaysM.n6 Tryz.prog Tryz.sortM6_ren := {
  mixed := by kernel_rfl
  f6 := ⟨Tryz.f113.name, by decide, Tryz.func113.trans (congrArg some (by kernel_rfl))⟩
  f8 := Tryz.func83.trans (congrArg some (by kernel_rfl))
  f9 := ⟨Tryz.f172.name, by decide, Tryz.func172.trans (congrArg some (by kernel_rfl))⟩
  f19 := Tryz.func125.trans (congrArg some (by kernel_rfl))
  f20 := Tryz.func126.trans (congrArg some (by kernel_rfl))
  f21 := ⟨Tryz.f224.name, by decide, Tryz.func224.trans (congrArg some (by kernel_rfl))⟩
  f22 := ⟨Tryz.f225.name, by decide, Tryz.func225.trans (congrArg some (by kernel_rfl))⟩
  f23 := ⟨Tryz.f226.name, by decide, Tryz.func226.trans (congrArg some (by kernel_rfl))⟩
  f24 := ⟨Tryz.f227.name, by decide, Tryz.func227.trans (congrArg some (by kernel_rfl))⟩
  f25 := ⟨Tryz.f228.name, by decide, Tryz.func228.trans (congrArg some (by kernel_rfl))⟩
  f26 := ⟨Tryz.f229.name, by decide, Tryz.func229.trans (congrArg some (by kernel_rfl))⟩
  f27 := ⟨Tryz.f230.name, by decide, Tryz.func230.trans (congrArg some (by kernel_rfl))⟩
  f28 := ⟨Tryz.f231.name, by decide, Tryz.func231.trans (congrArg some (by kernel_rfl))⟩
  f29 := ⟨Tryz.f232.name, by decide, Tryz.func232.trans (congrArg some (by kernel_rfl))⟩
  f31 := Tryz.func176.trans (congrArg some (by kernel_rfl))
  f32 := Tryz.func177.trans (congrArg some (by kernel_rfl))
  f36 := ⟨Tryz.f263.name, by decide, Tryz.func263.trans (congrArg some (by kernel_rfl))⟩
  f37 := ⟨Tryz.f264.name, by decide, Tryz.func264.trans (congrArg some (by kernel_rfl))⟩
  f38 := ⟨Tryz.f265.name, by decide, Tryz.func265.trans (congrArg some (by kernel_rfl))⟩
  f39 := ⟨Tryz.f245.name, by decide, Tryz.func245.trans (congrArg some (by kernel_rfl))⟩
  f41 := ⟨Tryz.f277.name, by decide, Tryz.func277.trans (congrArg some (by kernel_rfl))⟩
  t0 := Tryz.underlying0
  a0 := Tryz.isAgg0
  z0 := Tryz.sizeOf0
  v0 := Tryz.zeroValue0
  t3 := Tryz.underlying3
  a3 := Tryz.isAgg3
  z3 := Tryz.sizeOf3
  v3 := Tryz.zeroValue3
  t4 := Tryz.underlying4
  a4 := Tryz.isAgg4
  z4 := Tryz.sizeOf4
  v4 := Tryz.zeroValue4
  t5 := Tryz.underlying5
  a5 := Tryz.isAgg5
  z5 := Tryz.sizeOf5
  v5 := Tryz.zeroValue5
  t9 := Tryz.underlying9
  a9 := Tryz.isAgg9
  z9 := Tryz.sizeOf9
  v9 := Tryz.zeroValue9
  t26 := Tryz.underlying73
  a26 := Tryz.isAgg73
  z26 := Tryz.sizeOf73
  v26 := Tryz.zeroValue73
  t27 := Tryz.underlying73
  a27 := Tryz.isAgg73
  z27 := Tryz.sizeOf73
  v27 := Tryz.zeroValue73
  t29 := Tryz.underlying9
  a29 := Tryz.isAgg9
  z29 := Tryz.sizeOf9
  v29 := Tryz.zeroValue9
  t32 := Tryz.underlying159
  a32 := Tryz.isAgg159
  z32 := Tryz.sizeOf159
  v32 := Tryz.zeroValue159
  t35 := Tryz.underlying198
  a35 := Tryz.isAgg198
  z35 := Tryz.sizeOf198
  v35 := Tryz.zeroValue198
  t36 := Tryz.underlying199
  a36 := Tryz.isAgg199
  z36 := Tryz.sizeOf199
  v36 := Tryz.zeroValue199
  t41 := Tryz.underlying185
  a41 := Tryz.isAgg185
  z41 := Tryz.sizeOf185
  v41 := Tryz.zeroValue185
  t44 := Tryz.underlying205
  a44 := Tryz.isAgg205
  z44 := Tryz.sizeOf205
  v44 := Tryz.zeroValue205
  t46 := Tryz.underlying207
  a46 := Tryz.isAgg207
  z46 := Tryz.sizeOf207
  v46 := Tryz.zeroValue207
  t53 := Tryz.underlying266
  a53 := Tryz.isAgg266
  z53 := Tryz.sizeOf266
  v53 := Tryz.zeroValue266
  t57 := Tryz.underlying270
  a57 := Tryz.isAgg270
  z57 := Tryz.sizeOf270
  v57 := Tryz.zeroValue270
  t63 := Tryz.underlying326
  a63 := Tryz.isAgg326
  z63 := Tryz.sizeOf326
  v63 := Tryz.zeroValue326
  t64 := Tryz.underlying327
  a64 := Tryz.isAgg327
  z64 := Tryz.sizeOf327
  v64 := Tryz.zeroValue327 }
end Go.Proofs

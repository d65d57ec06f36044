/-
  DERIVED: THE SHELF's CONTRACTS AT THIS DUMP, IN PLAIN WORDS (tools/lay-plain.mjs out of 'TryzShelf.lean', which tools/lay-shelf.mjs wrote): THE SAME DECLARATIONS UNDER THE SAME NAMES: 'import', 'namespace', 'open', 'def', 'theorem' AND NOTHING ELSE: no command of the shelf's: FOR A HAND-IN. Each laying: the table of numbers ('.._ren') and one theorem, a field a fact of the dump's own or the kernel's comparison; each contract: ONE APPLICATION.
-/
import Derived.Ground.GgsProg
import Derived.Shelf.GgSortFunc.Tiny
import Derived.Shelf.SlSortFuncK.WholeK
import Derived.Test.YtpanlnnlhpnlcaaGreatProg
import Derived.Test.YtpanlnnlhpnlcaaGreatGe
import Derived.WalkKit
import Derived.WalkSpells
import Derived.WalkLawsBesides
import Derived.Deep.QuietTactic
import Derived.BigQuiet
import Derived.Test.YtpanlnnlhpnlcaaGreatSc
import Derived.Test.YtpanlnnlhpnlcaaGreatGg

set_option linter.unusedSimpArgs false
set_option linter.unusedVariables false
set_option linter.unusedSectionVars false

namespace Go.Proofs
open Go.Shelf
def Tryz.laysGg6_ren : Go.Shelf.Ren := ⟨fun | 6 => 88 | 10 => 129 | 11 => 130 | 12 => 131 | 13 => 83 | 14 => 132 | 24 => 125 | 25 => 126 | 26 => 190 | 27 => 191 | 28 => 192 | 29 => 193 | 30 => 194 | 31 => 195 | 32 => 196 | 33 => 197 | 34 => 235 | 35 => 236 | 36 => 237 | 37 => 238 | 38 => 239 | 39 => 266 | n => n, fun | 20 => 20 | 26 => 165 | 35 => 212 | 0 => 0 | 37 => 214 | 3 => 3 | 41 => 159 | 44 => 219 | 49 => 205 | 51 => 207 | 4 => 4 | 54 => 277 | 53 => 276 | 58 => 185 | 5 => 5 | 9 => 9 | 60 => 329 | 64 => 270 | 66 => 355 | 67 => 327 | 17 => 17 | 32 => 209 | 33 => 210 | 82 => 383 | 12 => 12 | 75 => 376 | 76 => 377 | 77 => 378 | 78 => 379 | 79 => 380 | 80 => 381 | n => n, fun | n => n⟩
theorem Tryz.laysGg6 : Go.Proofs.LaysGg.n6 Tryz.prog Tryz.laysGg6_ren := {
  mixed := by kernel_rfl
  f6 := Tryz.func88.trans (congrArg some (by kernel_rfl))
  f10 := Tryz.func129.trans (congrArg some (by kernel_rfl))
  f11 := Tryz.func130.trans (congrArg some (by kernel_rfl))
  f12 := Tryz.func131.trans (congrArg some (by kernel_rfl))
  f13 := Tryz.func83.trans (congrArg some (by kernel_rfl))
  f14 := Tryz.func132.trans (congrArg some (by kernel_rfl))
  f24 := Tryz.func125.trans (congrArg some (by kernel_rfl))
  f25 := Tryz.func126.trans (congrArg some (by kernel_rfl))
  f26 := Tryz.func190.trans (congrArg some (by kernel_rfl))
  f27 := Tryz.func191.trans (congrArg some (by kernel_rfl))
  f28 := Tryz.func192.trans (congrArg some (by kernel_rfl))
  f29 := Tryz.func193.trans (congrArg some (by kernel_rfl))
  f30 := Tryz.func194.trans (congrArg some (by kernel_rfl))
  f31 := Tryz.func195.trans (congrArg some (by kernel_rfl))
  f32 := Tryz.func196.trans (congrArg some (by kernel_rfl))
  f33 := Tryz.func197.trans (congrArg some (by kernel_rfl))
  f34 := Tryz.func235.trans (congrArg some (by kernel_rfl))
  f35 := Tryz.func236.trans (congrArg some (by kernel_rfl))
  f36 := Tryz.func237.trans (congrArg some (by kernel_rfl))
  f37 := Tryz.func238.trans (congrArg some (by kernel_rfl))
  f38 := Tryz.func239.trans (congrArg some (by kernel_rfl))
  f39 := Tryz.func266.trans (congrArg some (by kernel_rfl))
  t0 := Tryz.underlying0
  a0 := Tryz.isAgg0
  z0 := Tryz.sizeOf0
  v0 := Tryz.zeroValue0
  i0 := by kernel_rfl
  t3 := Tryz.underlying3
  a3 := Tryz.isAgg3
  z3 := Tryz.sizeOf3
  v3 := Tryz.zeroValue3
  i3 := by kernel_rfl
  t4 := Tryz.underlying4
  a4 := Tryz.isAgg4
  z4 := Tryz.sizeOf4
  v4 := Tryz.zeroValue4
  i4 := by kernel_rfl
  t5 := Tryz.underlying5
  a5 := Tryz.isAgg5
  z5 := Tryz.sizeOf5
  v5 := Tryz.zeroValue5
  i5 := by kernel_rfl
  t9 := Tryz.underlying9
  a9 := Tryz.isAgg9
  z9 := Tryz.sizeOf9
  v9 := Tryz.zeroValue9
  i9 := by kernel_rfl
  t12 := Tryz.underlying12
  a12 := Tryz.isAgg12
  z12 := Tryz.sizeOf12
  v12 := Tryz.zeroValue12
  i12 := by kernel_rfl
  t17 := Tryz.underlying17
  a17 := Tryz.isAgg17
  z17 := Tryz.sizeOf17
  v17 := Tryz.zeroValue17
  i17 := by kernel_rfl
  t20 := Tryz.underlying20
  a20 := Tryz.isAgg20
  z20 := Tryz.sizeOf20
  v20 := Tryz.zeroValue20
  i20 := by kernel_rfl
  t26 := Tryz.underlying165
  a26 := Tryz.isAgg165
  z26 := Tryz.sizeOf165
  v26 := Tryz.zeroValue165
  i26 := by kernel_rfl
  t32 := Tryz.underlying209
  a32 := Tryz.isAgg209
  z32 := Tryz.sizeOf209
  v32 := Tryz.zeroValue209
  i32 := by kernel_rfl
  t33 := Tryz.underlying210
  a33 := Tryz.isAgg210
  z33 := Tryz.sizeOf210
  v33 := Tryz.zeroValue210
  i33 := by kernel_rfl
  t35 := Tryz.underlying212
  a35 := Tryz.isAgg212
  z35 := Tryz.sizeOf212
  v35 := Tryz.zeroValue212
  i35 := by kernel_rfl
  t37 := Tryz.underlying214
  a37 := Tryz.isAgg214
  z37 := Tryz.sizeOf214
  v37 := Tryz.zeroValue214
  i37 := by kernel_rfl
  t41 := Tryz.underlying159
  a41 := Tryz.isAgg159
  z41 := Tryz.sizeOf159
  v41 := Tryz.zeroValue159
  i41 := by kernel_rfl
  t44 := Tryz.underlying219
  a44 := Tryz.isAgg219
  z44 := Tryz.sizeOf219
  v44 := Tryz.zeroValue219
  i44 := by kernel_rfl
  t49 := Tryz.underlying205
  a49 := Tryz.isAgg205
  z49 := Tryz.sizeOf205
  v49 := Tryz.zeroValue205
  i49 := by kernel_rfl
  t51 := Tryz.underlying207
  a51 := Tryz.isAgg207
  z51 := Tryz.sizeOf207
  v51 := Tryz.zeroValue207
  i51 := by kernel_rfl
  t53 := Tryz.underlying276
  a53 := Tryz.isAgg276
  z53 := Tryz.sizeOf276
  v53 := Tryz.zeroValue276
  i53 := by kernel_rfl
  t54 := Tryz.underlying277
  a54 := Tryz.isAgg277
  z54 := Tryz.sizeOf277
  v54 := Tryz.zeroValue277
  i54 := by kernel_rfl
  t58 := Tryz.underlying185
  a58 := Tryz.isAgg185
  z58 := Tryz.sizeOf185
  v58 := Tryz.zeroValue185
  i58 := by kernel_rfl
  t60 := Tryz.underlying329
  a60 := Tryz.isAgg329
  z60 := Tryz.sizeOf329
  v60 := Tryz.zeroValue329
  i60 := by kernel_rfl
  t64 := Tryz.underlying270
  a64 := Tryz.isAgg270
  z64 := Tryz.sizeOf270
  v64 := Tryz.zeroValue270
  i64 := by kernel_rfl
  t66 := Tryz.underlying355
  a66 := Tryz.isAgg355
  z66 := Tryz.sizeOf355
  v66 := Tryz.zeroValue355
  i66 := by kernel_rfl
  t67 := Tryz.underlying327
  a67 := Tryz.isAgg327
  z67 := Tryz.sizeOf327
  v67 := Tryz.zeroValue327
  i67 := by kernel_rfl
  t75 := Tryz.underlying376
  a75 := Tryz.isAgg376
  z75 := Tryz.sizeOf376
  v75 := Tryz.zeroValue376
  i75 := by kernel_rfl
  t76 := Tryz.underlying377
  a76 := Tryz.isAgg377
  z76 := Tryz.sizeOf377
  v76 := Tryz.zeroValue377
  i76 := by kernel_rfl
  t77 := Tryz.underlying378
  a77 := Tryz.isAgg378
  z77 := Tryz.sizeOf378
  v77 := Tryz.zeroValue378
  i77 := by kernel_rfl
  t78 := Tryz.underlying379
  a78 := Tryz.isAgg379
  z78 := Tryz.sizeOf379
  v78 := Tryz.zeroValue379
  i78 := by kernel_rfl
  t79 := Tryz.underlying380
  a79 := Tryz.isAgg380
  z79 := Tryz.sizeOf380
  v79 := Tryz.zeroValue380
  i79 := by kernel_rfl
  t80 := Tryz.underlying381
  a80 := Tryz.isAgg381
  z80 := Tryz.sizeOf381
  v80 := Tryz.zeroValue381
  i80 := by kernel_rfl
  t82 := Tryz.underlying383
  a82 := Tryz.isAgg383
  z82 := Tryz.sizeOf383
  v82 := Tryz.zeroValue383
  i82 := by kernel_rfl }
end Go.Proofs

/- Seat r1: the comparison that transfers are sorted by, walked with the kit's own tactics. No conditions beyond those that each theorem states. -/
namespace Go.Proofs
open Go.Ev Go.RowKit

def ltB (a b c d : ByteArray) : Bool := Op.bytesLess a.toList c.toList || (a.toList == c.toList && Op.bytesLess b.toList d.toList)

set_option maxRecDepth 100000 in
set_option maxHeartbeats 2000000 in
theorem Tryz.lessA (blk off c Bs bo size : Nat) (W : World) (Gf Gt : Nat → ByteArray) (hs : W.cell? ⟨Bs, bo, none⟩ = some (.slice (some ⟨blk, off, none⟩) size c))
    (hc1 : ∀ t, t < size → W.cell? ⟨blk, off + t * 3, none⟩ = some (.string (Gf t))) (i j : Nat) (hi : i < size) (hj : j < size) (_hsz : size < 4611686018427387904)
    (hl : Op.bytesLess (Gf i).toList (Gf j).toList = true) :
    Calls Tryz.prog 89 #[.int .i64 i, .int .i64 j, .pointer (some ⟨Bs, bo, none⟩)] W fun e w' => e = .returned (.bool true) ∧ ∃ q, w' = W.drewN q := by
  have ci := hc1 i hi
  have cj := hc1 j hj
  clear hc1
  go_enter Tryz.func89, Tryz.ntmps89
  go_wp2
  go_quiet (fail)
  go_wp2
  go_ret
  exact ⟨rfl, nq, rfl⟩

set_option maxRecDepth 100000 in
set_option maxHeartbeats 2000000 in
theorem Tryz.lessB (blk off c Bs bo size : Nat) (W : World) (Gf Gt : Nat → ByteArray) (hs : W.cell? ⟨Bs, bo, none⟩ = some (.slice (some ⟨blk, off, none⟩) size c))
    (hc1 : ∀ t, t < size → W.cell? ⟨blk, off + t * 3, none⟩ = some (.string (Gf t))) (i j : Nat) (hi : i < size) (hj : j < size) (_hsz : size < 4611686018427387904)
    (hl : Op.bytesLess (Gf i).toList (Gf j).toList = false) (he : ((Gf i).toList == (Gf j).toList) = false) :
    Calls Tryz.prog 89 #[.int .i64 i, .int .i64 j, .pointer (some ⟨Bs, bo, none⟩)] W fun e w' => e = .returned (.bool false) ∧ ∃ q, w' = W.drewN q := by
  have ci := hc1 i hi
  have cj := hc1 j hj
  clear hc1
  go_enter Tryz.func89, Tryz.ntmps89
  go_wp2
  go_quiet (fail)
  go_wp2
  go_ret
  exact ⟨rfl, nq, rfl⟩

set_option maxRecDepth 100000 in
set_option maxHeartbeats 2000000 in
theorem Tryz.lessC (blk off c Bs bo size : Nat) (W : World) (Gf Gt : Nat → ByteArray) (hs : W.cell? ⟨Bs, bo, none⟩ = some (.slice (some ⟨blk, off, none⟩) size c))
    (hc1 : ∀ t, t < size → W.cell? ⟨blk, off + t * 3, none⟩ = some (.string (Gf t))) (hc2 : ∀ t, t < size → W.cell? ⟨blk, off + t * 3 + 1, none⟩ = some (.string (Gt t))) (i j : Nat) (hi : i < size) (hj : j < size) (_hsz : size < 4611686018427387904)
    (hl : Op.bytesLess (Gf i).toList (Gf j).toList = false) (he : ((Gf i).toList == (Gf j).toList) = true) :
    Calls Tryz.prog 89 #[.int .i64 i, .int .i64 j, .pointer (some ⟨Bs, bo, none⟩)] W fun e w' => e = .returned (.bool (Op.bytesLess (Gt i).toList (Gt j).toList)) ∧ ∃ q, w' = W.drewN q := by
  have ci := hc1 i hi
  have cj := hc1 j hj
  have ci2 := hc2 i hi
  have cj2 := hc2 j hj
  clear hc1 hc2
  go_enter Tryz.func89, Tryz.ntmps89
  go_wp2
  go_quiet (fail)
  go_wp2
  go_ret
  exact ⟨rfl, nq, rfl⟩

theorem Tryz.less (blk off c Bs bo size : Nat) (W : World) (Gf Gt : Nat → ByteArray) (hs : W.cell? ⟨Bs, bo, none⟩ = some (.slice (some ⟨blk, off, none⟩) size c))
    (hc1 : ∀ t, t < size → W.cell? ⟨blk, off + t * 3, none⟩ = some (.string (Gf t))) (hc2 : ∀ t, t < size → W.cell? ⟨blk, off + t * 3 + 1, none⟩ = some (.string (Gt t))) (i j : Nat) (hi : i < size) (hj : j < size) (hsz : size < 4611686018427387904) :
    Calls Tryz.prog 89 #[.int .i64 i, .int .i64 j, .pointer (some ⟨Bs, bo, none⟩)] W fun e w' => e = .returned (.bool (ltB (Gf i) (Gt i) (Gf j) (Gt j))) ∧ ∃ q, w' = W.drewN q := by
  unfold ltB
  cases hl : Op.bytesLess (Gf i).toList (Gf j).toList
  · cases he : ((Gf i).toList == (Gf j).toList)
    · exact Tryz.lessB blk off c Bs bo size W Gf Gt hs hc1 i j hi hj hsz hl he
    · exact Tryz.lessC blk off c Bs bo size W Gf Gt hs hc1 hc2 i j hi hj hsz hl he
  · exact Tryz.lessA blk off c Bs bo size W Gf Gt hs hc1 i j hi hj hsz hl

end Go.Proofs

/- Seat r1: sort.Slice, as sums.transfers calls it. No conditions beyond those that each theorem states. -/
namespace Go.Proofs
open Go.Ev Go.RowKit Go.Shelf Go.Lib Go.Sort
set_option maxRecDepth 100000

/-! ### The order of transfers -/

theorem ltX_irrefl (a : Xf) : ltX a a = false := by unfold ltX; simp [ltL_irrefl]
theorem ltX_trans {a b c : Xf} (h1 : ltX a b = true) (h2 : ltX b c = true) : ltX a c = true := by
  unfold ltX at *
  simp only [Bool.or_eq_true, Bool.and_eq_true, decide_eq_true_eq] at *
  rcases h1 with h1 | ⟨h1, g1⟩
  · rcases h2 with h2 | ⟨h2, _⟩
    · exact .inl (ltL_trans h1 h2)
    · exact .inl (h2 ▸ h1)
  · rcases h2 with h2 | ⟨h2, g2⟩
    · exact .inl (h1 ▸ h2)
    · exact .inr ⟨h1.trans h2, ltL_trans g1 g2⟩
theorem ltX_tri (a b : Xf) : ltX a b = true ∨ (a.fr = b.fr ∧ a.to = b.to) ∨ ltX b a = true := by
  unfold ltX
  simp only [Bool.or_eq_true, Bool.and_eq_true, decide_eq_true_eq]
  rcases ltL_tri a.fr b.fr with h | h | h
  · exact .inl (.inl h)
  · rcases ltL_tri a.to b.to with g | g | g
    · exact .inl (.inr ⟨h, g⟩)
    · exact .inr (.inl ⟨h, g⟩)
    · exact .inr (.inr (.inr ⟨h.symm, g⟩))
  · exact .inr (.inr (.inl h))
theorem ltX_congr {a b : Xf} (h1 : a.fr = b.fr) (h2 : a.to = b.to) (c : Xf) : ltX a c = ltX b c ∧ ltX c a = ltX c b := by
  unfold ltX; rw [h1, h2]; exact ⟨rfl, rfl⟩
theorem ltX_asymm {a b : Xf} (h : ltX a b = true) : ltX b a = false := by
  cases hb : ltX b a
  · rfl
  · have := ltX_trans h hb
    rw [ltX_irrefl] at this; cases this

/-! ### As they lie in memory -/

abbrev TX := ByteArray × ByteArray × Int
def encT (x : TX) : List Value := [.string x.1, .string x.2.1, .int .i64 x.2.2]
def xfT (x : TX) : Xf := ⟨bytesN x.1, bytesN x.2.1, x.2.2⟩
def ltT (x y : TX) : Bool := ltX (xfT x) (xfT y)

theorem swoT : SWO ltT where
  irrefl := fun x => ltX_irrefl _
  trans := fun x y z h1 h2 => ltX_trans h1 h2
  ntrans := fun x y z h1 h2 => by
    unfold ltT at *
    cases h : ltX (xfT x) (xfT z)
    · rfl
    · rcases ltX_tri (xfT x) (xfT y) with g | ⟨g1, g2⟩ | g
      · rw [g] at h1; cases h1
      · rw [(ltX_congr g1 g2 _).1, h2] at h; cases h
      · have := ltX_trans g h
        rw [h2] at this; cases this

theorem ltB_T (x y : TX) : ltB x.1 x.2.1 y.1 y.2.1 = ltT x y := by
  unfold ltB ltT ltX xfT bytesN
  simp only [ByteArray.toList_eq]
  have e1 : ∀ a b : List UInt8, Op.bytesLess a b = ltL (a.map (·.toNat)) (b.map (·.toNat)) := fun a b => (ltL_bytes a b).symm
  have e2 : ∀ a b : List UInt8, (a == b) = decide (a.map (·.toNat) = b.map (·.toNat)) := fun a b => by
    by_cases h : a = b
    · subst h; simp
    · have : ¬ a.map (·.toNat) = b.map (·.toNat) := fun he => h (List.map_inj_right (fun x y => UInt8.toNat_inj.1) |>.1 he)
      simp [h, this]
  rw [e1, e1, e2]

theorem Tryz.info56 : Tryz.prog.info? 56 = some Tryz.t56 := by kernel_rfl

theorem swpK (n : Nat) (h2 : 2 ≤ n) : Lib.swapperK n Tryz.t60 25 = 9 := by
  have a : Tryz.t60.hasPointers = true := by kernel_rfl
  have b : Tryz.t60.bytes = 40 := by kernel_rfl
  have c : (n == 0) = false := by simp; omega
  have d : (n == 1) = false := by simp; omega
  simp [Lib.swapperK, a, b, c, d]

def rdS : Option Value → ByteArray
  | some (.string s) => s
  | _ => ByteArray.empty
def rdI : Option Value → Int
  | some (.int _ n) => n
  | _ => 0
/-- What lies in memory at element i. -/
def rdT (c : Array Value) (d i : Nat) : TX := (rdS c[d + i * 3]?, rdS c[d + i * 3 + 1]?, rdI c[d + i * 3 + 2]?)

theorem rdT_spec {σ : Sg} {c : Array Value} {d : Nat} {ts : List Xf} (hV : ∀ (i : Nat) (a : AV), (ts.map Xf.cells).flatten[i]? = some a → ∃ v, c[d + i]? = some v ∧ V σ a v) {i : Nat} {t : Xf} (ht : ts[i]? = some t) :
    xfT (rdT c d i) = t ∧ ∀ k, k < 3 → c[d + i * 3 + k]? = some (encT (rdT c d i))[k]! := by
  have hw : ∀ r ∈ ts.map Xf.cells, r.length = 3 := by intro r hr; obtain ⟨t, _, rfl⟩ := List.mem_map.1 hr; rfl
  have hg := rows_get ts ht
  have h0 := flat_at hw hg (k := 0) (by omega)
  have h1 := flat_at hw hg (k := 1) (by omega)
  have h2 := flat_at hw hg (k := 2) (by omega)
  obtain ⟨v0, g0, V0⟩ := hV _ _ (h0.trans (show t.cells[0]? = some (.str t.fr) from rfl))
  obtain ⟨v1, g1, V1⟩ := hV _ _ (h1.trans (show t.cells[1]? = some (.str t.to) from rfl))
  obtain ⟨v2, g2, V2⟩ := hV _ _ (h2.trans (show t.cells[2]? = some (.int .i64 t.am) from rfl))
  rw [Nat.add_zero] at g0
  rw [← Nat.add_assoc] at g1 g2
  cases V0 with
  | @str _ s0 e0 => cases V1 with
    | @str _ s1 e1 => cases V2
                      have hrd : rdT c d i = (s0, s1, t.am) := by unfold rdT; rw [g0, g1, g2]; rfl
                      rw [hrd]
                      refine ⟨?_, fun k hk => ?_⟩
                      · unfold xfT bytesN; simp only [e0, e1]
                      · match k, hk with
                        | 0, _ => rw [Nat.add_zero]; exact g0
                        | 1, _ => exact g1
                        | 2, _ => exact g2

theorem one_encT (x : TX) : ∀ v ∈ encT x, v.oneCell' = true := by
  intro v hv
  simp [encT] at hv
  rcases hv with rfl | rfl | rfl <;> rfl

set_option maxHeartbeats 1000000 in
theorem Tryz.sortX : SortSaid := by
  intro ts v Z cid h hout hcell hcZ hlen σ w args' hv hr
  obtain ⟨x, y, rfl, hx, hy⟩ := args2 hv
  have hV := hx
  cases hx with
  | @iface _ _ sv hsv =>
  cases hy with
  | @fn _ _ _ fs' cs' hfy k1 k2 k3 k4 =>
  have hfs : fs' = #[] := by
    have : fs'.size = 0 := by rw [← k1]; rfl
    exact Array.eq_empty_of_size_eq_zero this
  subst hfs
  have hcs : ∃ x, cs' = #[x] ∧ V σ (.ptr (some (cid, 0))) x := by
    have hl : VL σ [.ptr (some (cid, 0))] cs'.toList := ⟨by simpa using k3, fun i a v p q => k4 i a v p (by simpa using q)⟩
    obtain ⟨x, l, e, h1, h2⟩ := hl.inv_cons
    have := h2.inv_nil; subst this
    exact ⟨x, Array.ext' e, h1⟩
  obtain ⟨bx, rfl, hbx⟩ := hcs
  cases hbx with
  | @ptr _ _ pc hpc =>
  rw [callFunc_enter Tryz.nogo Tryz.func88 (by rfl)]
  by_cases h1 : ts.length ≤ 1
  · have htiny : ∃ (p : Option Addr) (n c : Nat), sv = .slice p n c ∧ n = ts.length := by
      rcases hout.2 with ⟨e, e2⟩ | ⟨id, fam, x, y, hne, e2, _⟩
      · subst e2
        cases hsv with
        | sliceN hl => exact ⟨none, 0, 0, rfl, by rw [← List.length_map (f := Xf.cells), e]; rfl⟩
      · subst e2
        cases hsv with
        | slice hs hl hrr hcc ha => exact ⟨_, _, _, rfl, by rw [List.length_map]⟩
    obtain ⟨p, n, c, rfl, rfl⟩ := htiny
    have hf := fun f hf => Any.sort_Slice_tiny Tryz.laysGg6 56 60 Tryz.t56 Tryz.t60 Tryz.info56 (by kernel_rfl) (by kernel_rfl) Tryz.info60 25 (fun _ => by kernel_rfl) p ts.length c h1 f hf (.func 89) #[] #[.pointer (some ⟨pc.b, pc.d + 0, none⟩)] w
    have h01 : ts.length = 0 ∨ ts.length = 1 := by omega
    refine Calls.mono (hf (if ts.length = 0 then 181 else 182) (by rcases h01 with e | e <;> rw [e] <;> kernel_rfl)) ?_
    rintro e w' ⟨rfl, os, rfl⟩
    have hb : Below w.heap.size w (grow w os) := ⟨rfl, rfl, rfl, by rw [size_grow]; omega, fun k hk => by simp [grow, Array.getElem?_append, hk]⟩
    have hk := below_keep hr hb
    refine ⟨_, rfl, .tup [], h, ⟨rfl, ts, .refl _, ?_, hout, Over.refl _ _⟩, σ, V.und, hk.1, hk.2⟩
    match ts, h1 with
    | [], _ => exact List.Pairwise.nil
    | [a], _ => exact List.pairwise_singleton _ _
  · rcases hout.2 with ⟨e, _⟩ | ⟨id, fam, fx, fy, hne, e2, ho, hfx, hxy, z1, z2, z3, z4, l1, l2, l3, l4⟩
    · have := congrArg List.length e
      simp at this; rw [this] at h1; simp at h1
    subst e2
    rw [List.length_map] at hsv
    cases hsv with
    | @slice _ _ _ _ _ a p c hs hl hrr hcc ha =>
    have ha : a = ⟨p.b, p.d + 0, none⟩ := ha.resolve_right (by omega)
    subst ha
    obtain ⟨q, carr, et, hq, hb, hsz, hlen', hVc⟩ := hr.cells ho
    rw [hs] at hq; cases hq
    have hfl : (ts.map Xf.cells).flatten.length = ts.length * 3 := by
      have := flat_len (s := 3) hout.1
      rw [List.length_map] at this; exact this
    -- the cell of the captured variable lies elsewhere
    have hpb : pc.b ≠ p.b := by
      intro e
      have hsep := hr.sep cid id _ _ pc p (by omega) hcell ho hpc hs e
      rcases hsep with ⟨_, _, f, e1, e2⟩ | ⟨_, _, e1, _⟩
      · cases e1; cases e2; omega
      · cases e1
    have hpcl := hr.lt hcell hpc
    have hpl := hr.lt ho hs
    obtain ⟨q2, c2, et2, hq2, hb2, hsz2, hlen2, hVc2⟩ := hr.cells hcell
    rw [hpc] at hq2; cases hq2
    obtain ⟨bv, hbv, hbV⟩ := hVc2 0 _ rfl
    have hbv' : ∃ c', bv = .slice (some ⟨p.b, p.d + 0, none⟩) ts.length c' := by
      rw [List.length_map] at hbV
      cases hbV with
      | @slice _ _ _ _ _ a' p' c' hs' hl' _ _ ha' =>
        rw [hs] at hs'; cases hs'
        exact ⟨c', by rw [ha'.resolve_right (by omega)]⟩
    obtain ⟨c', rfl⟩ := hbv'
    -- what the row holds
    let d : Array TX := Array.ofFn (n := ts.length) fun i => rdT carr p.d i.1
    have hdsz : d.size = ts.length := by simp [d]
    have hdi : ∀ i, i < ts.length → d[i]! = rdT carr p.d i := fun i hi => by
      rw [getElem!_pos d i (by rw [hdsz]; exact hi)]; simp [d]
    have hspec : ∀ i, i < ts.length → ts[i]? = some (xfT (rdT carr p.d i)) ∧ ∀ k, k < 3 → carr[p.d + i * 3 + k]? = some (encT (rdT carr p.d i))[k]! := fun i hi =>
      have g := rdT_spec hVc (List.getElem?_eq_getElem hi)
      ⟨by rw [List.getElem?_eq_getElem hi, g.1], g.2⟩
    have hH : HoldsK encT 3 w p.b (p.d + 0) d := by
      intro j hj
      rw [size_flatK, hdsz] at hj
      have hi : j / 3 < ts.length := by omega
      have hk : j % 3 < 3 := by omega
      rw [get_flatK _ _ _ _ (by rw [hdsz]; exact hj), hdi _ hi]
      have := (hspec _ hi).2 _ hk
      refine ⟨?_, frozen_of hb⟩
      rw [cell_of hb, show p.d + 0 + j = p.d + j / 3 * 3 + j % 3 by omega]
      exact this
    have hcellb : w.cell? ⟨pc.b, pc.d + 0, none⟩ = some (.slice (some ⟨p.b, p.d + 0, none⟩) ts.length c') := by rw [cell_of hb2]; exact hbv
    have hless : LessReadsK Tryz.prog 89 #[.pointer (some ⟨pc.b, pc.d + 0, none⟩)] encT 3 ltT p.b (p.d + 0) d.size w := by
      intro m os dk hdk i j hi hj
      have e : sortWorldK encT 3 w p.b (p.d + 0) m dk os = putRowK encT 3 (grow (Sort.ahead w m) os) p.b (p.d + 0) dk := by
        unfold sortWorldK; rw [putRowK_grow _ _ (Sort.ahead w m) _ p.b (p.d + 0) _ hpl]
      have hHg : HoldsK encT 3 (grow (Sort.ahead w m) os) p.b (p.d + 0) d := holdsK_grow _ _ _ _ p.b (p.d + 0) d hpl (holdsK_ahead _ _ _ _ _ _ _ hH)
      have hHd := holdsK_putRowK encT 3 _ p.b (p.d + 0) d dk hHg hdk
      have hl := Tryz.less p.b (p.d + 0) c' pc.b (pc.d + 0) d.size (sortWorldK encT 3 w p.b (p.d + 0) m dk os) (fun t => dk[t]!.1) (fun t => dk[t]!.2.1)
        (by rw [e, cell?_putRowK_other _ _ _ p.b (p.d + 0) dk _ hpb, cell?_grow _ _ _ (by exact hpcl)]; exact (by rw [hdsz]; exact hcellb))
        (fun t ht => by rw [e]; exact (hHd.cell (i := t) (c := 0) (by omega) (by omega)).1) (fun t ht => by rw [e]; exact (hHd.cell (i := t) (c := 1) (by omega) (by omega)).1) i j hi hj (by rw [hdsz]; omega)
      rw [ltB_T] at hl
      exact hl
    have hmain := Any.sort_Slice_cells_sorted Tryz.laysGg6 56 60 Tryz.t56 Tryz.t60 Tryz.info56 (by kernel_rfl) (by kernel_rfl) Tryz.info60 25 (fun _ => by kernel_rfl) encT 3 (fun _ => rfl) (by kernel_rfl) (fun _ => by kernel_rfl)
      one_encT ltT swoT 89 #[.pointer (some ⟨pc.b, pc.d + 0, none⟩)] (enters_of Tryz.func89 (by kernel_rfl) rfl) p.b (p.d + 0) c d (by rw [hdsz]; omega) (by rw [hdsz]; omega) 189 (by rw [swpK _ (by rw [hdsz]; omega)]; kernel_rfl) false
      (fun args W => run_callFunc_extern Tryz.func189 (by kernel_rfl) (by kernel_rfl) (by kernel_rfl) (e := Extern.ReflectliteSwapper.swap false) (by kernel_rfl) args W) w hless hH hpl
    rw [hdsz] at hmain
    refine Calls.mono hmain ?_
    rintro e w' ⟨rfl, d', n, os, ⟨hp1, _, hp3⟩, hsorted, rfl⟩
    rw [hdsz] at hp1
    have hdl : d.toList.map xfT = ts := by
      apply List.ext_getElem?
      intro i
      by_cases hi : i < ts.length
      · rw [List.getElem?_map, Array.getElem?_toList, Array.getElem?_eq_getElem (by rw [hdsz]; exact hi), Option.map_some, (hspec i hi).1]
        congr 2
        have := hdi i hi
        rw [getElem!_pos d i (by rw [hdsz]; exact hi)] at this
        exact this
      · rw [List.getElem?_eq_none (by simp [hdsz]; omega), List.getElem?_eq_none (by omega)]
    have hex : ∀ a : Array TX, a.size = ts.length → (a.extract 0 ts.length).toList = a.toList := fun a ha => by
      rw [Array.toList_extract, List.extract_eq_take_drop, List.drop_zero, Nat.sub_zero, List.take_of_length_le (by simp [ha])]
    rw [hex _ hp1, hex _ hdsz] at hp3
    have hperm : (d'.toList.map xfT).Perm ts := by rw [← hdl]; exact hp3.map _
    have hsx : SortedX (d'.toList.map xfT) := by
      unfold SortedX
      rw [List.pairwise_iff_getElem]
      intro i j hi hj hij
      rw [List.length_map, Array.length_toList] at hi hj
      have := hsorted i j (Nat.zero_le _) hij (by omega)
      rw [getElem!_pos d' j hj, getElem!_pos d' i hi] at this
      simp only [List.getElem_map, Array.getElem_toList]
      exact this
    have hlen2 : (d'.toList.map xfT).length = ts.length := by rw [List.length_map, Array.length_toList, hp1]
    have hw3 : ∀ r ∈ (d'.toList.map xfT).map Xf.cells, r.length = 3 := by intro r hr; obtain ⟨t, _, rfl⟩ := List.mem_map.1 hr; rfl
    have hb1 : (putRowK encT 3 (Sort.ahead w n) p.b (p.d + 0) d').heap[p.b]? = some (.cells (putCells _root_.id (p.d + 0) (flatK encT 3 d') carr) et (0, 0)) := by
      unfold putRowK putRow mapBlock
      simp only [Array.getElem?_modify, if_true]
      rw [show (Sort.ahead w n).heap[p.b]? = some (.cells carr et (0, 0)) from hb]
      rfl
    have hoth : ∀ b, b ≠ p.b → (putRowK encT 3 (Sort.ahead w n) p.b (p.d + 0) d').heap[b]? = w.heap[b]? := fun b hbb => by
      unfold putRowK putRow mapBlock
      simp only [Array.getElem?_modify]
      rw [if_neg (fun e => hbb e.symm)]; rfl
    have hVn : ∀ (i : Nat) (a : AV), ((d'.toList.map xfT).map Xf.cells).flatten[i]? = some a → ∃ v, (putCells _root_.id (p.d + 0) (flatK encT 3 d') carr)[p.d + i]? = some v ∧ V σ a v := by
      intro i a hia
      have hil : i < ts.length * 3 := by
        have := idx_lt hia
        rw [flat_len hw3, List.length_map, hlen2] at this; exact this
      have hj : i / 3 < d'.size := by omega
      have hrow : ((d'.toList.map xfT).map Xf.cells)[i / 3]? = some (xfT d'[i / 3]!).cells := by
        rw [List.getElem?_map, List.getElem?_map, Array.getElem?_toList, Array.getElem?_eq_getElem hj, getElem!_pos d' _ hj]; rfl
      have hat := flat_at hw3 hrow (k := i % 3) (by omega)
      rw [show i / 3 * 3 + i % 3 = i by omega, hia] at hat
      have hcl : p.d + i < carr.size := by omega
      have hput : (putCells _root_.id (p.d + 0) (flatK encT 3 d') carr)[p.d + i]? = some ((encT d'[i / 3]!)[i % 3]!) := by
        unfold putCells
        rw [Array.getElem?_mapIdx, Array.getElem?_eq_getElem hcl, Option.map_some, if_pos ⟨by omega, by rw [size_flatK]; omega⟩]
        rw [show p.d + i - (p.d + 0) = i by omega, get_flatK _ _ _ _ (by omega)]
        rfl
      refine ⟨_, hput, ?_⟩
      generalize d'[i / 3]! = x at hat
      have h3 : i % 3 = 0 ∨ i % 3 = 1 ∨ i % 3 = 2 := by omega
      rcases h3 with e | e | e <;> rw [e] at hat ⊢
      · cases hat; exact .str rfl
      · cases hat; exact .str rfl
      · cases hat; exact .int _ _
    obtain ⟨r1, r2⟩ := hr.rewrite ho hs (cs' := ((d'.toList.map xfT).map Xf.cells).flatten) (by rw [flat_len hw3, List.length_map, hlen2, hfl]) hb hb1 (by unfold putCells; rw [Array.size_mapIdx]) hVn hoth (by unfold putRowK putRow mapBlock; simp [Sort.ahead]) rfl rfl rfl
    have hbel : Below (putRowK encT 3 (Sort.ahead w n) p.b (p.d + 0) d').heap.size (putRowK encT 3 (Sort.ahead w n) p.b (p.d + 0) d') (grow (putRowK encT 3 (Sort.ahead w n) p.b (p.d + 0) d') os) :=
      ⟨rfl, rfl, rfl, by rw [size_grow]; omega, fun k hk => by unfold grow; simp only; rw [Array.getElem?_append_left hk]⟩
    have hkeep := below_keep r1 hbel
    obtain ⟨ao1, ao2⟩ := alone_over (id := id) hfx z2 z3 z4
    have hne' : (d'.toList.map xfT).map Xf.cells ≠ [] := by
      intro e
      have := congrArg List.length e
      rw [List.length_map, hlen2] at this
      simp at this; rw [this] at h1; simp at h1
    refine ⟨_, rfl, .tup [], _, ⟨rfl, d'.toList.map xfT, hperm, hsx, ⟨hw3, .inr ⟨id, fam, id, id, hne', ?_, ?_, ?_, .inl rfl, z1, z1, z1, z4, ?_, ?_, ?_, ?_⟩⟩, ?_⟩, σ, V.und, hkeep.1, r2.trans hkeep.2⟩
    · rw [List.length_map, List.length_map, hlen2]
    · exact put_same _ _ _
    · exact alone_fam hfx
    · show id < (h.alone id fam).next; rw [ao2]; exact l1
    · show id < (h.alone id fam).next; rw [ao2]; exact l1
    · show id < (h.alone id fam).next; rw [ao2]; exact l1
    · show fam < (h.alone id fam).next; rw [ao2]; exact l4
    · refine ao1.trans ⟨Nat.le_refl _, fun j hj => put_other _ _ (by omega), fun _ _ => rfl, fun hl => minN_left (by omega)⟩

end Go.Proofs

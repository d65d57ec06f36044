/- Seat r1: the examples of chapter 45, run. No conditions beyond those that each theorem states. -/
import Derived.Test.YtpanlnnlhpnlcaaGreatSe
import Derived.Shelf.SlGeneric
import Derived.Shelf.SlLaysF0
import Derived.Shelf.Small.Strs
import Derived.Shelf.Small.Bits
import Derived.Ground.SlsfProg
import Derived.Ground.NamesProg
import Derived.Test.YtpanlnnlhpnlcaaGreatProg
import Derived.Test.YtpanlnnlhpnlcaaGreatSi
import Derived.Test.YtpanlnnlhpnlcaaGreatSd
import Derived.Test.YtpanlnnlhpnlcaaGreatGg
import Derived.Shelf.SlSortCmp.WholeK

set_option linter.unusedSimpArgs false
set_option linter.unusedVariables false
set_option linter.unusedSectionVars false

namespace Go.Proofs
open Go.Ev Go.RowKit
set_option maxRecDepth 100000

theorem Tryz.head45_ev : ends (evVF Tryz.prog [(48, .name), (52, .name), (170, .clone), (127, .cmp), (88, .sort1 [56])] 300 60 (.func 18) [] hz) (.bool true) = true := by kernel_rfl

theorem Tryz.xhead45 : XOne Tryz.prog 18 (.const (.bool true)) :=
  XOne.const Tryz.nogo Tryz.exs Tryz.func18 (by kernel_rfl) rfl (by rw [← evVF_eq]; exact Tryz.head45_ev)

theorem Tryz.head45 (h : H) : ACalls Tryz.prog (.func 18) [] h (fun v h' => v = .bool true ∧ h' = h) := .of_x Tryz.xhead45 rfl

end Go.Proofs

/-
  DERIVED: THE SHELF's CONTRACTS AT THIS DUMP, IN PLAIN WORDS (tools/lay-plain.mjs out of 'TzbShelf.lean', which tools/lay-shelf.mjs wrote): THE SAME DECLARATIONS UNDER THE SAME NAMES: 'import', 'namespace', 'open', 'def', 'theorem' AND NOTHING ELSE: no command of the shelf's: FOR A HAND-IN. Each laying: the table of numbers ('.._ren') and one theorem, a field a fact of the dump's own or the kernel's comparison; each contract: ONE APPLICATION.
-/
namespace Go.Proofs
open Go.Shelf
def Tryz.sortS6_ren : Go.Shelf.Ren := ⟨fun | 6 => 43 | 15 => 83 | 14 => 82 | 28 => 125 | 29 => 126 | 20 => 117 | 21 => 118 | 22 => 119 | 23 => 120 | 24 => 121 | 25 => 122 | 26 => 123 | 27 => 124 | 46 => 175 | 47 => 176 | 48 => 177 | 49 => 178 | 50 => 179 | 57 => 233 | n => n, fun | 22 => 31 | 24 => 36 | 25 => 117 | 3 => 3 | 39 => 159 | 0 => 0 | 53 => 205 | 55 => 207 | 4 => 4 | 46 => 199 | 45 => 198 | 50 => 185 | 5 => 5 | 9 => 9 | 66 => 266 | 70 => 270 | 76 => 326 | 77 => 327 | n => n, fun | n => n⟩
theorem Tryz.sortS6 : Go.Proofs.SlLaysF0.n6 Tryz.prog Tryz.sortS6_ren := {
  mixed := by kernel_rfl
  f6 := ⟨Tryz.f43.name, by decide, Tryz.func43.trans (congrArg some (by kernel_rfl))⟩
  f14 := ⟨Tryz.f82.name, by decide, Tryz.func82.trans (congrArg some (by kernel_rfl))⟩
  f15 := Tryz.func83.trans (congrArg some (by kernel_rfl))
  f20 := ⟨Tryz.f117.name, by decide, Tryz.func117.trans (congrArg some (by kernel_rfl))⟩
  f21 := ⟨Tryz.f118.name, by decide, Tryz.func118.trans (congrArg some (by kernel_rfl))⟩
  f22 := ⟨Tryz.f119.name, by decide, Tryz.func119.trans (congrArg some (by kernel_rfl))⟩
  f23 := ⟨Tryz.f120.name, by decide, Tryz.func120.trans (congrArg some (by kernel_rfl))⟩
  f24 := ⟨Tryz.f121.name, by decide, Tryz.func121.trans (congrArg some (by kernel_rfl))⟩
  f25 := ⟨Tryz.f122.name, by decide, Tryz.func122.trans (congrArg some (by kernel_rfl))⟩
  f26 := ⟨Tryz.f123.name, by decide, Tryz.func123.trans (congrArg some (by kernel_rfl))⟩
  f27 := ⟨Tryz.f124.name, by decide, Tryz.func124.trans (congrArg some (by kernel_rfl))⟩
  f28 := Tryz.func125.trans (congrArg some (by kernel_rfl))
  f29 := Tryz.func126.trans (congrArg some (by kernel_rfl))
  f46 := ⟨Tryz.f175.name, by decide, Tryz.func175.trans (congrArg some (by kernel_rfl))⟩
  f47 := Tryz.func176.trans (congrArg some (by kernel_rfl))
  f48 := Tryz.func177.trans (congrArg some (by kernel_rfl))
  f49 := ⟨Tryz.f178.name, by decide, Tryz.func178.trans (congrArg some (by kernel_rfl))⟩
  f50 := ⟨Tryz.f179.name, by decide, Tryz.func179.trans (congrArg some (by kernel_rfl))⟩
  f57 := ⟨Tryz.f233.name, by decide, Tryz.func233.trans (congrArg some (by kernel_rfl))⟩
  t0 := Tryz.underlying0
  a0 := Tryz.isAgg0
  z0 := Tryz.sizeOf0
  v0 := Tryz.zeroValue0
  t3 := Tryz.underlying3
  a3 := Tryz.isAgg3
  z3 := Tryz.sizeOf3
  v3 := Tryz.zeroValue3
  t4 := Tryz.underlying4
  a4 := Tryz.isAgg4
  z4 := Tryz.sizeOf4
  v4 := Tryz.zeroValue4
  t5 := Tryz.underlying5
  a5 := Tryz.isAgg5
  z5 := Tryz.sizeOf5
  v5 := Tryz.zeroValue5
  t9 := Tryz.underlying9
  a9 := Tryz.isAgg9
  z9 := Tryz.sizeOf9
  v9 := Tryz.zeroValue9
  t22 := Tryz.underlying31
  a22 := Tryz.isAgg31
  z22 := Tryz.sizeOf31
  v22 := Tryz.zeroValue31
  t25 := Tryz.underlying117
  a25 := Tryz.isAgg117
  z25 := Tryz.sizeOf117
  v25 := Tryz.zeroValue117
  t39 := Tryz.underlying159
  a39 := Tryz.isAgg159
  z39 := Tryz.sizeOf159
  v39 := Tryz.zeroValue159
  t45 := Tryz.underlying198
  a45 := Tryz.isAgg198
  z45 := Tryz.sizeOf198
  v45 := Tryz.zeroValue198
  t46 := Tryz.underlying199
  a46 := Tryz.isAgg199
  z46 := Tryz.sizeOf199
  v46 := Tryz.zeroValue199
  t50 := Tryz.underlying185
  a50 := Tryz.isAgg185
  z50 := Tryz.sizeOf185
  v50 := Tryz.zeroValue185
  t53 := Tryz.underlying205
  a53 := Tryz.isAgg205
  z53 := Tryz.sizeOf205
  v53 := Tryz.zeroValue205
  t55 := Tryz.underlying207
  a55 := Tryz.isAgg207
  z55 := Tryz.sizeOf207
  v55 := Tryz.zeroValue207
  t66 := Tryz.underlying266
  a66 := Tryz.isAgg266
  z66 := Tryz.sizeOf266
  v66 := Tryz.zeroValue266
  t70 := Tryz.underlying270
  a70 := Tryz.isAgg270
  z70 := Tryz.sizeOf270
  v70 := Tryz.zeroValue270
  t76 := Tryz.underlying326
  a76 := Tryz.isAgg326
  z76 := Tryz.sizeOf326
  v76 := Tryz.zeroValue326
  t77 := Tryz.underlying327
  a77 := Tryz.isAgg327
  z77 := Tryz.sizeOf327
  v77 := Tryz.zeroValue327 }
def Tryz.lays106_ren : Go.Shelf.Ren := ⟨fun | 106 => 45 | 213 => 84 | 265 => 127 | n => n, fun | 9 => 9 | 3 => 3 | n => n, fun | n => n⟩
theorem Tryz.lays106 : Go.Proofs.Lays.n106 Tryz.prog Tryz.lays106_ren := {
  mixed := by kernel_rfl
  f106 := Tryz.func45.trans (congrArg some (by kernel_rfl))
  f213 := Tryz.func84.trans (congrArg some (by kernel_rfl))
  f265 := Tryz.func127.trans (congrArg some (by kernel_rfl))
  t3 := Tryz.underlying3
  a3 := Tryz.isAgg3
  z3 := Tryz.sizeOf3
  v3 := Tryz.zeroValue3
  t9 := Tryz.underlying9
  a9 := Tryz.isAgg9
  z9 := Tryz.sizeOf9
  v9 := Tryz.zeroValue9 }
end Go.Proofs

/- Seat r1: slices.SortFunc, as audit.Net calls it. No conditions beyond those that each theorem states. -/
namespace Go.Proofs
open Go.Ev Go.RowKit Go.Shelf Go.Lib Go.Sort
set_option maxRecDepth 100000

abbrev TS := ByteArray × Int
def encS (x : TS) : List Value := [.string x.1, .int .i64 x.2]
def shT (x : TS) : Sh := ⟨bytesN x.1, x.2⟩
def cfS (x y : TS) : Int := Lib.compareBytes x.1.data.toList y.1.data.toList

theorem ltOf_S (x y : TS) : ltOf cfS x y = ltL (shT x).pt (shT y).pt := by
  unfold ltOf cfS shT bytesN
  rw [cmp_nat]
  simp only
  cases ltL (List.map (·.toNat) x.1.data.toList) (List.map (·.toNat) y.1.data.toList)
  · cases eqL (List.map (·.toNat) x.1.data.toList) (List.map (·.toNat) y.1.data.toList) <;> rfl
  · rfl

theorem swoS : SWO (ltOf cfS) where
  irrefl := fun x => by rw [ltOf_S]; exact ltL_irrefl _
  trans := fun x y z h1 h2 => by rw [ltOf_S] at *; exact ltL_trans h1 h2
  ntrans := fun x y z h1 h2 => by
    rw [ltOf_S] at *
    cases h : ltL (shT x).pt (shT z).pt
    · rfl
    · rcases ltL_tri (shT x).pt (shT y).pt with g | g | g
      · rw [g] at h1; cases h1
      · rw [g, h2] at h; cases h
      · have := ltL_trans g h
        rw [h2] at this; cases this

set_option maxHeartbeats 1000000 in
theorem Tryz.closure44 (x y : TS) (W : World) : Calls Tryz.prog 44 #[.agg #[.string x.1, .int .i64 x.2], .agg #[.string y.1, .int .i64 y.2]] W fun e w' => e = .returned (.int .i64 (cfS x y)) ∧ ∃ q os', w' = grow (W.drewN q) os' := by
  unfold cfS
  have hcon := fun W' => Any.strings_Compare Tryz.lays106 x.1 y.1 W'
  change ∀ W', Calls Tryz.prog 45 _ _ _ at hcon
  generalize Lib.compareBytes x.1.data.toList y.1.data.toList = r at hcon ⊢
  go_enter Tryz.func44, Tryz.ntmps44
  go_wp2_with (go_at_call 45; refine (hcon _).mono ?_; rintro e w' ⟨rfl, rfl⟩)
  go_ret
  exact ⟨rfl, 0, _, by rw [alloc_eq_grow, alloc_eq_grow, grow_grow]; rfl⟩

theorem Tryz.cmpLays44 (blk off size : Nat) (w : World) : CmpLays Tryz.prog 44 #[] encS 2 cfS blk off size w :=
  fun _ _ _ _ x y => Tryz.closure44 x y _

theorem one_encS (x : TS) : ∀ v ∈ encS x, v.oneCell' = true := by
  intro v hv
  simp [encS] at hv
  rcases hv with rfl | rfl <;> rfl

/-- What lies in memory at element i. -/
def rdTS (c : Array Value) (d i : Nat) : TS := (rdS c[d + i * 2]?, rdI c[d + i * 2 + 1]?)

theorem rdTS_spec {σ : Sg} {c : Array Value} {d : Nat} {ts : List Sh} (hV : ∀ (i : Nat) (a : AV), (ts.map Sh.cells).flatten[i]? = some a → ∃ v, c[d + i]? = some v ∧ V σ a v) {i : Nat} {t : Sh} (ht : ts[i]? = some t) :
    shT (rdTS c d i) = t ∧ ∀ k, k < 2 → c[d + i * 2 + k]? = some (encS (rdTS c d i))[k]! := by
  have hw : ∀ r ∈ ts.map Sh.cells, r.length = 2 := by intro r hr; obtain ⟨t, _, rfl⟩ := List.mem_map.1 hr; rfl
  have hg := rowsS_get ts ht
  have h0 := flat_at hw hg (k := 0) (by omega)
  have h1 := flat_at hw hg (k := 1) (by omega)
  obtain ⟨v0, g0, V0⟩ := hV _ _ (h0.trans (show t.cells[0]? = some (.str t.pt) from rfl))
  obtain ⟨v1, g1, V1⟩ := hV _ _ (h1.trans (show t.cells[1]? = some (.int .i64 t.am) from rfl))
  rw [Nat.add_zero] at g0
  rw [← Nat.add_assoc] at g1
  cases V0 with
  | @str _ s0 e0 =>
    cases V1
    have hrd : rdTS c d i = (s0, t.am) := by unfold rdTS; rw [g0, g1]; rfl
    rw [hrd]
    refine ⟨?_, fun k hk => ?_⟩
    · unfold shT bytesN; simp only [e0]
    · match k, hk with
      | 0, _ => rw [Nat.add_zero]; exact g0
      | 1, _ => exact g1

theorem Tryz.sort0_ev : ends (evV Tryz.prog [] 60 20 (.func 43) [.slice none 0 0 (some 0), .fn (.func 44) [] []] hz) (.tup []) = true := by kernel_rfl

theorem Tryz.sort0 {σ : Sg} {h : Ev.H} {w : World} (hr : HR σ h w) : Calls Tryz.prog 43 #[.slice none 0 0, .func (.func 44) #[] #[]] w fun e w' => e = .returned (.tuple #[]) ∧ Below w.heap.size w w' := by
  obtain ⟨l, hl, hall⟩ := ends_spec Tryz.sort0_ev
  have hVL : VL (fun _ => none) [.slice none 0 0 (some 0), .fn (.func 44) [] []] (#[.slice none 0 0, .func (.func 44) #[] #[]] : Array Value).toList :=
    .cons (.sliceN rfl) (.cons (.fn (by intro l e; cases e) rfl (by intro i a v h1; simp at h1) rfl (by intro i a v h1; simp at h1)) .nil)
  have hfine := (evV_ok Tryz.nogo (drawOk_all Tryz.prog) ExOK.nil 60 20).func 43 _ hz l hl (fun _ => none) w #[.slice none 0 0, .func (.func 44) #[] #[]] hVL (hz_HR w)
  rw [callFunc_enter Tryz.nogo Tryz.func43 (by rfl)] at hfine
  refine Calls.mono hfine fun e w' ⟨x, he, a, h', hm, σ', hV, hr', hE⟩ => ⟨?_, ext_below hE⟩
  have : a = .tup [] := hall _ hm
  subst this
  cases hV with
  | @tup _ vs h1 h2 =>
    have : vs = #[] := Array.eq_empty_of_size_eq_zero h1.symm
    subst this
    exact he

set_option maxHeartbeats 1000000 in
theorem Tryz.sortS : SortSaidS := by
  intro ts v Z h hout hlen σ w args' hv hr
  obtain ⟨x, y, rfl, hx, hy⟩ := args2 hv
  cases hy with
  | @fn _ _ _ fs' cs' hfy k1 k2 k3 k4 =>
  have hfs : fs' = #[] := Array.eq_empty_of_size_eq_zero (by rw [← k1]; rfl)
  have hcs : cs' = #[] := Array.eq_empty_of_size_eq_zero (by rw [← k3]; rfl)
  subst hfs; subst hcs
  rw [callFunc_enter Tryz.nogo Tryz.func43 (by rfl)]
  rcases hout.2 with ⟨e, e2⟩ | ⟨id, fam, fx, fy, hne, e2, ho, hfx, hxy, z1, z2, z3, z4, l1, l2, l3, l4⟩
  · subst e2
    have hts : ts = [] := by simpa using e
    subst hts
    cases hx with
    | sliceN hl =>
      refine Calls.mono (Tryz.sort0 hr) fun e w' ⟨he, hb⟩ => ?_
      have hk := below_keep hr hb
      exact ⟨_, he, .tup [], h, ⟨rfl, [], .refl _, List.Pairwise.nil, hout, Over.refl _ _⟩, σ, V.und, hk.1, hk.2⟩
  · subst e2
    have hpos : 0 < ts.length := by
      cases ts with
      | nil => exact absurd rfl hne
      | cons => exact Nat.succ_pos _
    rw [List.length_map] at hx
    cases hx with
    | @slice _ _ _ _ _ a p c hs hl hrr hcc ha =>
    have ha : a = ⟨p.b, p.d + 0, none⟩ := ha.resolve_right (by omega)
    subst ha
    obtain ⟨q, carr, et, hq, hb, hsz, hlen', hVc⟩ := hr.cells ho
    rw [hs] at hq; cases hq
    have hfl : (ts.map Sh.cells).flatten.length = ts.length * 2 := by
      have := flat_len (s := 2) hout.1
      rw [List.length_map] at this; exact this
    have hpl := hr.lt ho hs
    let d : Array TS := Array.ofFn (n := ts.length) fun i => rdTS carr p.d i.1
    have hdsz : d.size = ts.length := by simp [d]
    have hdi : ∀ i, i < ts.length → d[i]! = rdTS carr p.d i := fun i hi => by
      rw [getElem!_pos d i (by rw [hdsz]; exact hi)]; simp [d]
    have hspec : ∀ i, i < ts.length → ts[i]? = some (shT (rdTS carr p.d i)) ∧ ∀ k, k < 2 → carr[p.d + i * 2 + k]? = some (encS (rdTS carr p.d i))[k]! := fun i hi =>
      have g := rdTS_spec hVc (List.getElem?_eq_getElem hi)
      ⟨by rw [List.getElem?_eq_getElem hi, g.1], g.2⟩
    have hH : HoldsK encS 2 w p.b (p.d + 0) d := by
      intro j hj
      rw [size_flatK, hdsz] at hj
      have hi : j / 2 < ts.length := by omega
      have hk : j % 2 < 2 := by omega
      rw [get_flatK _ _ _ _ (by rw [hdsz]; exact hj), hdi _ hi]
      have := (hspec _ hi).2 _ hk
      refine ⟨?_, frozen_of hb⟩
      rw [cell_of hb, show p.d + 0 + j = p.d + j / 2 * 2 + j % 2 by omega]
      exact this
    have hmain := AnyQ.slices_SortFunc Tryz.sortS6 2 Tryz.isAgg36 Tryz.sizeOf36 encS (fun _ => rfl) one_encS cfS swoS 44 #[] p.b (p.d + 0) c d w (enters_of Tryz.func44 (by kernel_rfl) rfl)
      (Tryz.cmpLays44 p.b (p.d + 0) d.size w) hH hpl (by rw [hdsz]; omega)
    rw [hdsz] at hmain
    change Calls Tryz.prog 43 _ _ _ at hmain
    refine Calls.mono hmain ?_
    rintro e w' ⟨rfl, d', n, os, ⟨hp1, _, hp3⟩, hsorted, rfl⟩
    rw [hdsz] at hp1
    unfold sortWorldK
    have hdl : d.toList.map shT = ts := by
      apply List.ext_getElem?
      intro i
      by_cases hi : i < ts.length
      · rw [List.getElem?_map, Array.getElem?_toList, Array.getElem?_eq_getElem (by rw [hdsz]; exact hi), Option.map_some, (hspec i hi).1]
        congr 2
        have := hdi i hi
        rw [getElem!_pos d i (by rw [hdsz]; exact hi)] at this
        exact this
      · rw [List.getElem?_eq_none (by simp [hdsz]; omega), List.getElem?_eq_none (by omega)]
    have hex : ∀ a : Array TS, a.size = ts.length → (a.extract 0 ts.length).toList = a.toList := fun a ha => by
      rw [Array.toList_extract, List.extract_eq_take_drop, List.drop_zero, Nat.sub_zero, List.take_of_length_le (by simp [ha])]
    rw [hex _ hp1, hex _ hdsz] at hp3
    have hperm : (d'.toList.map shT).Perm ts := by rw [← hdl]; exact hp3.map _
    have hsx : SortedS (d'.toList.map shT) := by
      unfold SortedS
      rw [List.pairwise_iff_getElem]
      intro i j hi hj hij
      rw [List.length_map, Array.length_toList] at hi hj
      have := hsorted i j (Nat.zero_le _) hij (by omega)
      rw [getElem!_pos d' j hj, getElem!_pos d' i hi, ltOf_S] at this
      simp only [List.getElem_map, Array.getElem_toList]
      exact this
    have hlen2 : (d'.toList.map shT).length = ts.length := by rw [List.length_map, Array.length_toList, hp1]
    have hw3 : ∀ r ∈ (d'.toList.map shT).map Sh.cells, r.length = 2 := by intro r hr; obtain ⟨t, _, rfl⟩ := List.mem_map.1 hr; rfl
    have hb1 : (putRowK encS 2 (Sort.ahead w n) p.b (p.d + 0) d').heap[p.b]? = some (.cells (putCells _root_.id (p.d + 0) (flatK encS 2 d') carr) et (0, 0)) := by
      unfold putRowK putRow mapBlock
      simp only [Array.getElem?_modify, if_true]
      rw [show (Sort.ahead w n).heap[p.b]? = some (.cells carr et (0, 0)) from hb]
      rfl
    have hoth : ∀ b, b ≠ p.b → (putRowK encS 2 (Sort.ahead w n) p.b (p.d + 0) d').heap[b]? = w.heap[b]? := fun b hbb => by
      unfold putRowK putRow mapBlock
      simp only [Array.getElem?_modify]
      rw [if_neg (fun e => hbb e.symm)]; rfl
    have hVn : ∀ (i : Nat) (a : AV), ((d'.toList.map shT).map Sh.cells).flatten[i]? = some a → ∃ v, (putCells _root_.id (p.d + 0) (flatK encS 2 d') carr)[p.d + i]? = some v ∧ V σ a v := by
      intro i a hia
      have hil : i < ts.length * 2 := by
        have := idx_lt hia
        rw [flat_len hw3, List.length_map, hlen2] at this; exact this
      have hj : i / 2 < d'.size := by omega
      have hrow : ((d'.toList.map shT).map Sh.cells)[i / 2]? = some (shT d'[i / 2]!).cells := by
        rw [List.getElem?_map, List.getElem?_map, Array.getElem?_toList, Array.getElem?_eq_getElem hj, getElem!_pos d' _ hj]; rfl
      have hat := flat_at hw3 hrow (k := i % 2) (by omega)
      rw [show i / 2 * 2 + i % 2 = i by omega, hia] at hat
      have hcl : p.d + i < carr.size := by omega
      have hput : (putCells _root_.id (p.d + 0) (flatK encS 2 d') carr)[p.d + i]? = some ((encS d'[i / 2]!)[i % 2]!) := by
        unfold putCells
        rw [Array.getElem?_mapIdx, Array.getElem?_eq_getElem hcl, Option.map_some, if_pos ⟨by omega, by rw [size_flatK]; omega⟩]
        rw [show p.d + i - (p.d + 0) = i by omega, get_flatK _ _ _ _ (by omega)]
        rfl
      refine ⟨_, hput, ?_⟩
      generalize d'[i / 2]! = x at hat
      have h3 : i % 2 = 0 ∨ i % 2 = 1 := by omega
      rcases h3 with e | e <;> rw [e] at hat ⊢
      · cases hat; exact .str rfl
      · cases hat; exact .int _ _
    obtain ⟨r1, r2⟩ := hr.rewrite ho hs (cs' := ((d'.toList.map shT).map Sh.cells).flatten) (by rw [flat_len hw3, List.length_map, hlen2, hfl]) hb hb1 (by unfold putCells; rw [Array.size_mapIdx]) hVn hoth (by unfold putRowK putRow mapBlock; simp [Sort.ahead]) rfl rfl rfl
    have hbel : Below (putRowK encS 2 (Sort.ahead w n) p.b (p.d + 0) d').heap.size (putRowK encS 2 (Sort.ahead w n) p.b (p.d + 0) d') (grow (putRowK encS 2 (Sort.ahead w n) p.b (p.d + 0) d') os) :=
      ⟨rfl, rfl, rfl, by rw [size_grow]; omega, fun k hk => by unfold grow; simp only; rw [Array.getElem?_append_left hk]⟩
    have hkeep := below_keep r1 hbel
    obtain ⟨ao1, ao2⟩ := alone_over (id := id) hfx z2 z3 z4
    have hne' : (d'.toList.map shT).map Sh.cells ≠ [] := by
      intro e
      have := congrArg List.length e
      rw [List.length_map, hlen2] at this
      simp at this; rw [this] at hpos; simp at hpos
    refine ⟨_, rfl, .tup [], _, ⟨rfl, d'.toList.map shT, hperm, hsx, ⟨hw3, .inr ⟨id, fam, id, id, hne', ?_, ?_, ?_, .inl rfl, z1, z1, z1, z4, ?_, ?_, ?_, ?_⟩⟩, ?_⟩, σ, V.und, hkeep.1, r2.trans hkeep.2⟩
    · rw [List.length_map, List.length_map, hlen2]
    · exact put_same _ _ _
    · exact alone_fam hfx
    · show id < (h.alone id fam).next; rw [ao2]; exact l1
    · show id < (h.alone id fam).next; rw [ao2]; exact l1
    · show id < (h.alone id fam).next; rw [ao2]; exact l1
    · show fam < (h.alone id fam).next; rw [ao2]; exact l4
    · refine ao1.trans ⟨Nat.le_refl _, fun j hj => put_other _ _ (by omega), fun _ _ => rfl, fun hl => minN_left (by omega)⟩

end Go.Proofs

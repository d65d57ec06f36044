/- CostMatchesReference returns true at every input, and each argument reads behind the call as it read before. No conditions. -/
import Derived.Test.YthfdoggncbcmjaaGreatDb
import Derived.ProofKit
import Derived.SizedLaws
import Derived.Carry
import Derived.Test.YthfdoggncbcmjaaGreatRows

set_option linter.unusedSimpArgs false
set_option linter.unusedVariables false
set_option linter.unusedSectionVars false

namespace Go.Proofs.YthfdoggncbcmjaaGreat
open Go.Proofs Go.Ev Go.ChangeShapes Go.WideShapes Go.ChangeAt Go.RowKit

set_option maxRecDepth 100000

theorem ty22 : tyOf Tryz.prog 12 22 = some (.sl (.st wyTy)) := by kernel_rfl
theorem ty25 : tyOf Tryz.prog 12 25 = some (.st [.sl (.st ptTy)]) := by kernel_rfl
theorem ty27a : tyOf Tryz.prog 12 27 = some (.st coTy) := by kernel_rfl
theorem params3 : Tryz.f3.params.toList = [22, 25, 27] := by kernel_rfl
theorem reachA : reachBytes ≤ 1000000000000000 := by decide

theorem matches_lifted (os : Os) (started : os.Started) (H : Type) (enc : TypeId × Value → H) :
    ReturnsInHanded {} Tryz.checked os 3 .any (Rows.costMatchesReferenceSpec.pre6 enc Tryz.prog Tryz.f3 Rows.costMatchesReferenceRow.domain false) (Rows.costMatchesReferenceSpec.post enc Tryz.prog Tryz.f3 false true false false) := by
  refine returnsInHanded_of_change_sized (C := Tryz.checked) ownK started (by kernel_rfl) Tryz.func3
    (ChangeSpec.witness6 (enc := enc) (C := Tryz.checked) false ⟨#[], #[.slice none 0 0, .agg #[.slice none 0 0], .agg #[.string ⟨#[]⟩, .string ⟨#[]⟩, .int .i64 0, .int .i64 0]], []⟩ 8 (by kernel_rfl) (by kernel_rfl) (by kernel_rfl) (by kernel_rfl)) ?_
  intro W base args ds gs before hval0 hW _ hwt0 _
  have hval : ∀ (j : Nat) t v, Tryz.f3.params[j]? = some t → args[j]? = some v → Value.okWide Tryz.prog W .any base t v := hval0
  have hW' := hW
  obtain ⟨p, q, hA0, hV, rfl, hfz, hnd⟩ := hW
  have hA : DataW.TrodAll enc Tryz.prog W 0 (fun _ => true) true Tryz.f3.params.toList args.toList ds p := hA0
  rw [params3] at hA
  obtain ⟨v0, v1, v2, d0, d1, d2, p0, p1, p2, rfl, rfl, rfl, h0, h1, h2⟩ := trodAll_three hA
  obtain ⟨rfl, rfl⟩ := trodVars_none hV
  have hwt1 : (DataW.weightsEach Tryz.prog (Tryz.f3.params.toList ++ Rows.costMatchesReferenceSpec.plain.varTypes Tryz.prog) ([d0, d1, d2] ++ [])).all (· ≤ reachBytes) = true := hwt0
  have hwt : ∀ {j : Nat} {t : TypeId} {d : DataW H}, (Tryz.f3.params.toList ++ Rows.costMatchesReferenceSpec.plain.varTypes Tryz.prog)[j]? = some t → ([d0, d1, d2] ++ [])[j]? = some d → ∀ x ∈ d.weights Tryz.prog t, x ≤ reachBytes := by
    intro j t d ht hd x hx
    have := List.all_eq_true.1 hwt1 x (DataW.weights_mem_each ht hd x hx)
    simpa using this
  obtain ⟨y0, o0, w0⟩ := arg_deep ty22 (hval 0 22 v0 (by kernel_rfl) rfl) h0 (hwt (j := 0) (by kernel_rfl) rfl)
  obtain ⟨y1, o1, w1⟩ := arg_deep ty25 (hval 1 25 v1 (by kernel_rfl) rfl) h1 (hwt (j := 1) (by kernel_rfl) rfl)
  obtain ⟨y2, o2, w2⟩ := arg_deep ty27a (hval 2 27 v2 (by kernel_rfl) rfl) h2 (hwt (j := 2) (by kernel_rfl) rfl)
  have oz : okT reachBytes (.sl (.st wyTy)) [y0] := o0
  rw [okT] at oz
  obtain ⟨n0, rows0, e0, b0, ok0⟩ := oz
  simp only [List.cons.injEq, and_true] at e0
  subst e0
  obtain ⟨e1, rfl, o1z⟩ := o1
  obtain ⟨n1, rows1, r1, rfl, b1, ok1, o1'⟩ := okTs_sl o1z
  have := okTs_nil o1'
  subst this
  obtain ⟨e2, rfl, o2⟩ := o2
  have hwd : WdL W [.sl n0 rows0.length (Ty.st wyTy).size rows0.flatten, .ag [.sl n1 rows1.length (Ty.st ptTy).size rows1.flatten], .ag e2] (#[v0, v1, v2] : Array Value).toList := by
    rw [WdL_cons]; refine ⟨_, _, rfl, w0, ?_⟩
    rw [WdL_cons]; refine ⟨_, _, rfl, w1, ?_⟩
    rw [WdL_cons]; refine ⟨_, _, rfl, w2, ?_⟩
    rw [WdL_nil]
  refine (law_deep Tryz.nogo Tryz.func3 rfl hwd fun h us hd => ?_).mono fun e W' ⟨he, hb⟩ => ?_
  · rw [DpL_cons] at hd
    obtain ⟨a0, _, rfl, k0, hd⟩ := hd
    rw [DpL_cons] at hd
    obtain ⟨a1, _, rfl, k1, hd⟩ := hd
    rw [DpL_cons] at hd
    obtain ⟨a2, _, rfl, k2, hd⟩ := hd
    rw [DpL_nil] at hd
    subst hd
    rw [Dp_ag] at k1 k2
    obtain ⟨_, rfl, k1⟩ := k1
    obtain ⟨_, rfl, k2⟩ := k2
    rw [DpL_cons] at k1
    obtain ⟨pv, _, rfl, k1, hd⟩ := k1
    rw [DpL_nil] at hd
    subst hd
    obtain ⟨ws, hwl, hrd0, hok0, _, _, htop0⟩ := Dp.slice (e := 5) Wy.cells (fun w => (w.kind.length ≤ 1000000000000000 ∧ w.maker.length ≤ 1000000000000000) ∧ ((∀ b ∈ w.kind, b < 256) ∧ ∀ b ∈ w.maker, b < 256)) (fun _ => rfl) (fun r hr us hd => wy_of reachA (by have := ok0 r hr; rw [okT] at this; exact this) hd) k0
    obtain ⟨ps, hpl, hrd1, hok1, hpv1, _, _⟩ := Dp.slice (e := 14) Pt.cells (PtOk h) (fun _ => rfl) (fun r hr us hd => pt_of reachA (by have := ok1 r hr; rw [okT] at this; exact this) hd) k1
    obtain ⟨c, rfl, x5, x6⟩ := co_of reachA o2 k2
    have := reachA
    exact Tryz.matches ws ps c (fun w hw => (hok0 w hw).1) (fun w hw => (hok0 w hw).2) x5 x6 (by omega) a0 pv h hrd0 htop0 hrd1 hpv1 hok1
  subst he
  have hlt : ∀ x ∈ p0 ++ p1 ++ p2, x.block < W.heap.size := fun x hx => by simpa using hW'.lt x (by simpa using hx)
  have k0 := Below.trod outL (by kernel_rfl) (of_decide_eq_true (by kernel_rfl)) h0 hb (fun x hx => hlt x (by simp [hx]))
  have k1 := Below.trod outL (by kernel_rfl) (of_decide_eq_true (by kernel_rfl)) h1 hb (fun x hx => hlt x (by simp [hx]))
  have k2 := Below.trod outL (by kernel_rfl) (of_decide_eq_true (by kernel_rfl)) h2 hb (fun x hx => hlt x (by simp [hx]))
  exact ⟨_, rfl, _, _, _, [], _, [], hW', trodAll_mk1 (shut_bool Tryz.underlying4 true), trodAll_mk3 k0 k1 k2, rfl, hb.frame _, fun h => by cases h⟩

theorem costMatchesReference_holds : Rows.CostMatchesReferenceSaid :=
  OpenClaim.holds_of_wide 3 Tryz.f3 rfl rfl rfl rfl rfl rfl rfl ⟨rfl, rfl, rfl, rfl, rfl⟩ rfl rfl rfl rfl rfl (by kernel_rfl) Tryz.func3 (by kernel_rfl)
    (of_decide_eq_true (by kernel_rfl)) (by unfold Func.isWrapper; first | (rw [if_pos (by decide +kernel)]; kernel_rfl) | (rw [if_neg (by decide +kernel)]; exact ⟨rfl, rfl⟩))
    (fun os started H enc _ => matches_lifted os started H enc)

end Go.Proofs.YthfdoggncbcmjaaGreat

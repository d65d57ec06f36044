/- CostAges returns true at every input, and each argument reads behind the call as it read before. No conditions. -/
import Derived.Test.YtpanlnnlhpnlcaaGreatCf
import Derived.Test.YtpanlnnlhpnlcaaGreatCa
import Derived.SizedLaws
import Derived.Carry
import Derived.Test.YtpanlnnlhpnlcaaGreatRows

set_option linter.unusedSimpArgs false
set_option linter.unusedVariables false
set_option linter.unusedSectionVars false

namespace Go.Proofs.YtpanlnnlhpnlcaaGreat
open Go.Proofs Go.Ev Go.ChangeShapes Go.WideShapes Go.ChangeAt Go.RowKit

set_option maxRecDepth 100000

theorem ty49 : tyOf Tryz.prog 12 49 = some (.st wyTy) := by kernel_rfl
theorem ty43 : tyOf Tryz.prog 12 43 = some (.st ptTy) := by kernel_rfl
theorem ty27 : tyOf Tryz.prog 12 27 = some (.st coTy) := by kernel_rfl
theorem params4 : Tryz.f4.params.toList = [49, 43, 43, 27] := by kernel_rfl
theorem reachK : reachBytes ≤ 1000000000000000 := by decide

theorem ages_lifted (os : Os) (started : os.Started) (H : Type) (enc : TypeId × Value → H) :
    ReturnsInHanded {} Tryz.checked os 4 .any (Rows.costAgesSpec.pre6 enc Tryz.prog Tryz.f4 Rows.costAgesRow.domain false) (Rows.costAgesSpec.post enc Tryz.prog Tryz.f4 false true false false) := by
  refine returnsInHanded_of_change_sized (C := Tryz.checked) ownK started (by kernel_rfl) Tryz.func4
    (ChangeSpec.witness6 (enc := enc) (C := Tryz.checked) false ⟨#[], #[.agg #[.string ⟨#[]⟩, .string ⟨#[]⟩, .int .i64 0, .int .i64 0, .int .i64 0],
      .agg #[.string ⟨#[]⟩, .string ⟨#[]⟩, .string ⟨#[]⟩, .string ⟨#[]⟩, .int .i64 0, .int .i64 0, .bool false, .slice none 0 0, .int .i64 0, .int .i64 0, .int .i64 0, .int .i64 0, .int .i64 0, .int .i64 0],
      .agg #[.string ⟨#[]⟩, .string ⟨#[]⟩, .string ⟨#[]⟩, .string ⟨#[]⟩, .int .i64 0, .int .i64 0, .bool false, .slice none 0 0, .int .i64 0, .int .i64 0, .int .i64 0, .int .i64 0, .int .i64 0, .int .i64 0],
      .agg #[.string ⟨#[]⟩, .string ⟨#[]⟩, .int .i64 0, .int .i64 0]], []⟩ 8 (by kernel_rfl) (by kernel_rfl) (by kernel_rfl) (by kernel_rfl)) ?_
  intro W base args ds gs before hval0 hW _ hwt0 _
  have hval : ∀ (j : Nat) t v, Tryz.f4.params[j]? = some t → args[j]? = some v → Value.okWide Tryz.prog W .any base t v := hval0
  have hW' := hW
  obtain ⟨p, q, hA0, hV, rfl, hfz, hnd⟩ := hW
  have hA : DataW.TrodAll enc Tryz.prog W 0 (fun _ => true) true Tryz.f4.params.toList args.toList ds p := hA0
  rw [params4] at hA
  obtain ⟨v0, v1, v2, v3, d0, d1, d2, d3, p0, p1, p2, p3, rfl, rfl, rfl, h0, h1, h2, h3⟩ := trodAll_four hA
  obtain ⟨rfl, rfl⟩ := trodVars_none hV
  have hwt1 : (DataW.weightsEach Tryz.prog (Tryz.f4.params.toList ++ Rows.costAgesSpec.plain.varTypes Tryz.prog) ([d0, d1, d2, d3] ++ [])).all (· ≤ reachBytes) = true := hwt0
  have hwt : ∀ {j : Nat} {t : TypeId} {d : DataW H}, (Tryz.f4.params.toList ++ Rows.costAgesSpec.plain.varTypes Tryz.prog)[j]? = some t → ([d0, d1, d2, d3] ++ [])[j]? = some d → ∀ x ∈ d.weights Tryz.prog t, x ≤ reachBytes := by
    intro j t d ht hd x hx
    have := List.all_eq_true.1 hwt1 x (DataW.weights_mem_each ht hd x hx)
    simpa using this
  obtain ⟨y0, o0, w0⟩ := arg_deep ty49 (hval 0 49 v0 (by kernel_rfl) rfl) h0 (hwt (j := 0) (by kernel_rfl) rfl)
  obtain ⟨y1, o1, w1⟩ := arg_deep ty43 (hval 1 43 v1 (by kernel_rfl) rfl) h1 (hwt (j := 1) (by kernel_rfl) rfl)
  obtain ⟨y2, o2, w2⟩ := arg_deep ty43 (hval 2 43 v2 (by kernel_rfl) rfl) h2 (hwt (j := 2) (by kernel_rfl) rfl)
  obtain ⟨y3, o3, w3⟩ := arg_deep ty27 (hval 3 27 v3 (by kernel_rfl) rfl) h3 (hwt (j := 3) (by kernel_rfl) rfl)
  obtain ⟨e0, rfl, o0⟩ := o0
  obtain ⟨e1, rfl, o1⟩ := o1
  obtain ⟨e2, rfl, o2⟩ := o2
  obtain ⟨e3, rfl, o3⟩ := o3
  have hwd : WdL W [.ag e0, .ag e1, .ag e2, .ag e3] (#[v0, v1, v2, v3] : Array Value).toList := by
    rw [WdL_cons]; refine ⟨_, _, rfl, w0, ?_⟩
    rw [WdL_cons]; refine ⟨_, _, rfl, w1, ?_⟩
    rw [WdL_cons]; refine ⟨_, _, rfl, w2, ?_⟩
    rw [WdL_cons]; refine ⟨_, _, rfl, w3, ?_⟩
    rw [WdL_nil]
  refine (law_deep Tryz.nogo Tryz.func4 rfl hwd fun h us hd => ?_).mono fun e W' ⟨he, hb⟩ => ?_
  · rw [DpL_cons] at hd
    obtain ⟨a0, _, rfl, k0, hd⟩ := hd
    rw [DpL_cons] at hd
    obtain ⟨a1, _, rfl, k1, hd⟩ := hd
    rw [DpL_cons] at hd
    obtain ⟨a2, _, rfl, k2, hd⟩ := hd
    rw [DpL_cons] at hd
    obtain ⟨a3, _, rfl, k3, hd⟩ := hd
    rw [DpL_nil] at hd
    subst hd
    rw [Dp_ag] at k0 k1 k2 k3
    obtain ⟨_, rfl, k0⟩ := k0
    obtain ⟨_, rfl, k1⟩ := k1
    obtain ⟨_, rfl, k2⟩ := k2
    obtain ⟨_, rfl, k3⟩ := k3
    obtain ⟨w, rfl, x1, x2⟩ := wy_of reachK o0 k0
    obtain ⟨p, rfl, x3⟩ := pt_of reachK o1 k1
    obtain ⟨q, rfl, x4⟩ := pt_of reachK o2 k2
    obtain ⟨c, rfl, x5, x6⟩ := co_of reachK o3 k3
    exact Tryz.ages w p q c x1 x2 x5 x6 h x3 x4
  subst he
  have hlt : ∀ x ∈ p0 ++ p1 ++ p2 ++ p3, x.block < W.heap.size := fun x hx => by simpa using hW'.lt x (by simpa using hx)
  have k0 := Below.trod outL (by kernel_rfl) (of_decide_eq_true (by kernel_rfl)) h0 hb (fun x hx => hlt x (by simp [hx]))
  have k1 := Below.trod outL (by kernel_rfl) (of_decide_eq_true (by kernel_rfl)) h1 hb (fun x hx => hlt x (by simp [hx]))
  have k2 := Below.trod outL (by kernel_rfl) (of_decide_eq_true (by kernel_rfl)) h2 hb (fun x hx => hlt x (by simp [hx]))
  have k3 := Below.trod outL (by kernel_rfl) (of_decide_eq_true (by kernel_rfl)) h3 hb (fun x hx => hlt x (by simp [hx]))
  exact ⟨_, rfl, _, _, _, [], _, [], hW', trodAll_mk1 (shut_bool Tryz.underlying4 true), trodAll_mk4 k0 k1 k2 k3, rfl, hb.frame _, fun h => by cases h⟩

theorem costAges_holds : Rows.CostAgesSaid :=
  OpenClaim.holds_of_wide 4 Tryz.f4 rfl rfl rfl rfl rfl rfl rfl ⟨rfl, rfl, rfl, rfl, rfl⟩ rfl rfl rfl rfl rfl (by kernel_rfl) Tryz.func4 (by kernel_rfl)
    (of_decide_eq_true (by kernel_rfl)) (by unfold Func.isWrapper; first | (rw [if_pos (by decide +kernel)]; kernel_rfl) | (rw [if_neg (by decide +kernel)]; exact ⟨rfl, rfl⟩))
    (fun os started H enc _ => ages_lifted os started H enc)

end Go.Proofs.YtpanlnnlhpnlcaaGreat

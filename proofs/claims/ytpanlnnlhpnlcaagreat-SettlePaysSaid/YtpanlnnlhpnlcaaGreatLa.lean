/- SettlePays returns true at every input, and each argument reads behind the call as it read before. No conditions. -/
import Derived.Test.YtpanlnnlhpnlcaaGreatSf
import Derived.Test.YtpanlnnlhpnlcaaGreatSe
import Derived.Test.YtpanlnnlhpnlcaaGreatRows

set_option linter.unusedSimpArgs false
set_option linter.unusedVariables false
set_option linter.unusedSectionVars false

namespace Go.Proofs.YtpanlnnlhpnlcaaGreat
open Go.Proofs Go.Ev Go.ChangeShapes Go.WideShapes Go.ChangeAt Go.RowKit

theorem ownK : ownKnob Tryz.prog.godebug = none := by kernel_rfl
theorem outL : laidOutB Tryz.prog = true := by kernel_rfl

set_option maxRecDepth 100000

theorem sgL_at {l : ArgL} {i : Nat} {x : Plc × Option (List AV)} (h : l[i]? = some x) : sgL l i = some x.1 := by unfold sgL; rw [h]; rfl

/-- Two lists of transfers as the arguments of a law. -/
theorem two_run {f : FuncId} {fn : Func} (hf : Tryz.prog.funcs[f]? = some fn) (hb : fn.body.isSome = true) {W : World} {v0 v1 : Value} {g0 g1 : Nat → AV} {x0 x1 : Plc × Option (List AV)} {ts0 ts1 : List Xf} (h0 : ArgX W v0 g0 x0 ts0) (h1 : ArgX W v1 g1 x1 ts1)
    (hlaw : ∀ (v w : AV) (h : Ev.H), RdX h v ts0 → RdX h w ts1 → ACalls Tryz.prog (.func f) [v, w] h (fun r h' => r = .bool true ∧ h' = h)) : Calls Tryz.prog f #[v0, v1] W fun e W' => e = .returned (.bool true) ∧ Below W.heap.size W W' := by
  refine law_run Tryz.nogo hf hb (l := [x0, x1]) (args := [g0 0, g1 1]) ?_ ?_ (hlaw _ _ _ (h0.rds _ 0 (show 0 < 2 from by decide) (by rw [hpL_get]; rfl)) (h1.rds _ 1 (show 1 < 2 from by decide) (by rw [hpL_get]; rfl)))
  · intro x hx
    rcases List.mem_cons.1 hx with rfl | hx
    · exact h0.mem
    · rw [List.mem_singleton.1 hx]; exact h1.mem
  · exact .cons (h0.rel _ 0 (sgL_at rfl)) (.cons (h1.rel _ 1 (sgL_at rfl)) .nil)

theorem pays_lifted (os : Os) (started : os.Started) (H : Type) (enc : TypeId × Value → H) :
    ReturnsInHanded {} Tryz.checked os 6 .any (Rows.settlePaysSpec.pre6 enc Tryz.prog Tryz.f6 Rows.settlePaysRow.domain false) (Rows.settlePaysSpec.post enc Tryz.prog Tryz.f6 false true false false) := by
  refine returnsInHanded_of_change (C := Tryz.checked) ownK started (by kernel_rfl) Tryz.func6
    (ChangeSpec.witness6 (enc := enc) (C := Tryz.checked) false ⟨#[], #[.slice none 0 0, .slice none 0 0], []⟩ 8 (by kernel_rfl) (by kernel_rfl) (by kernel_rfl) (by kernel_rfl)) ?_
  intro W base args ds gs before hval0 hW _ _
  have hval : ∀ (j : Nat) t v, Tryz.f6.params[j]? = some t → args[j]? = some v → Value.okWide Tryz.prog W .any base t v := hval0
  have hW' := hW
  obtain ⟨p, q, hA0, hV, rfl, hfz, hnd⟩ := hW
  have hA : DataW.TrodAll enc Tryz.prog W 0 (fun _ => true) true Tryz.f6.params.toList args.toList ds p := hA0
  rw [Tryz.params6] at hA hval
  obtain ⟨v0, v1, d0, d1, p0, p1, rfl, rfl, rfl, h0, h1⟩ := trodAll_two hA
  obtain ⟨rfl, rfl⟩ := trodVars_none hV
  obtain ⟨g0, x0, ts0, a0⟩ := argX (hval 0 56 v0 rfl rfl) h0
  obtain ⟨g1, x1, ts1, a1⟩ := argX (hval 1 56 v1 rfl rfl) h1
  refine (two_run Tryz.func6 rfl a0 a1 fun v w h hv hw => Tryz.pays ts0 ts1 a0.row a1.row v w h hv hw).mono fun e W' ⟨he, hb⟩ => ?_
  subst he
  have hlt : ∀ x ∈ p0 ++ p1, x.block < W.heap.size := fun x hx => by simpa using hW'.lt x (by simpa using hx)
  have k0 := Below.trod outL (by kernel_rfl) (of_decide_eq_true (by kernel_rfl)) h0 hb (fun x hx => hlt x (List.mem_append_left _ hx))
  have k1 := Below.trod outL (by kernel_rfl) (of_decide_eq_true (by kernel_rfl)) h1 hb (fun x hx => hlt x (List.mem_append_right _ hx))
  exact ⟨_, rfl, _, _, _, [], _, [], hW', trodAll_mk1 (shut_bool Tryz.underlying4 true), trodAll_mk2 k0 k1, rfl, hb.frame _, fun h => by cases h⟩

theorem settlePays_holds : Rows.SettlePaysSaid :=
  OpenClaim.holds_of_wide 6 Tryz.f6 rfl rfl rfl rfl rfl rfl rfl ⟨rfl, rfl, rfl, rfl, rfl⟩ rfl rfl rfl rfl rfl (by kernel_rfl) Tryz.func6 (by kernel_rfl)
    (of_decide_eq_true (by kernel_rfl)) (by unfold Func.isWrapper; first | (rw [if_pos (by decide +kernel)]; kernel_rfl) | (rw [if_neg (by decide +kernel)]; exact ⟨rfl, rfl⟩))
    (fun os started H enc _ => pays_lifted os started H enc)

end Go.Proofs.YtpanlnnlhpnlcaaGreat

/- FaultJoins returns true at every input, and each argument reads behind the call as it read before. No conditions. -/
import Derived.Test.YtjiejanfnnieaaaGreatJ9
namespace Go.Proofs.YtjiejanfnnieaaaGreat
open Go.Proofs Go.Ev Go.ChangeShapes Go.WideShapes Go.ChangeAt Go.RowKit

set_option maxRecDepth 100000

theorem said_a : (Rows.faultJoinsRow.inPlace == Tryz.prog.inPlace 7) = true := by kernel_rfl
theorem said_b : (Rows.faultJoinsRow.unfollowed == Tryz.prog.unfollowed 7) = true := by kernel_rfl
theorem said_c : (Rows.faultJoinsRow.recurses == Tryz.prog.recurses 7) = true := by kernel_rfl
theorem said_d : (Rows.faultJoinsRow.named == Tryz.prog.varsNamed 7) = true := by kernel_rfl
theorem said_e : (laidOutB Tryz.prog) = true := by kernel_rfl
theorem said_f : (mapsRowed Tryz.prog) = true := by kernel_rfl
theorem said_g : (Rows.faultJoinsRow.lifted == Tryz.prog.liftsFinal) = true := by kernel_rfl
theorem said_h : (Tryz.prog.make == some Rows.faultJoinsRow.make) = true := by kernel_rfl
theorem said_i : (Tryz.prog.mayEnter) = true := by kernel_rfl
theorem said_j : (Tryz.prog.stopsHeard) = true := by kernel_rfl
theorem said_all : joinedFacts Tryz.prog 7 Tryz.f7 Rows.faultJoinsSpec Rows.faultJoinsRow = true := by
  unfold joinedFacts
  rw [said_a, said_b, said_c, said_d, said_e, said_f, said_g, said_h, said_i, said_j]
  kernel_rfl
theorem faultJoins_holds : Rows.FaultJoinsSaid :=
  OpenClaim.holds_of_wide 7 Tryz.f7 rfl rfl rfl rfl rfl rfl rfl ⟨rfl, rfl, rfl, rfl, rfl⟩ rfl rfl rfl rfl rfl (by kernel_rfl) Tryz.func7 said_all
    (of_decide_eq_true (by kernel_rfl)) (by unfold Func.isWrapper; first | (rw [if_pos (by decide +kernel)]; kernel_rfl) | (rw [if_neg (by decide +kernel)]; exact ⟨rfl, rfl⟩))
    (fun os started H enc _ => law_lifted os started H enc)

end Go.Proofs.YtjiejanfnnieaaaGreat

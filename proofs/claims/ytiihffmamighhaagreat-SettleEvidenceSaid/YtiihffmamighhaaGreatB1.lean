/- SettleEvidence returns true at every input, and each argument reads behind the call as it read before. No conditions. -/
import Derived.Test.YtiihffmamighhaaGreatA8
namespace Go.Proofs.YtiihffmamighhaaGreat
open Go.Proofs Go.Ev Go.ChangeShapes Go.WideShapes Go.ChangeAt Go.RowKit

set_option maxRecDepth 100000

theorem said_a : (Rows.settleEvidenceRow.inPlace == Tryz.prog.inPlace 3) = true := by kernel_rfl
theorem said_b : (Rows.settleEvidenceRow.unfollowed == Tryz.prog.unfollowed 3) = true := by kernel_rfl
theorem said_c : (Rows.settleEvidenceRow.recurses == Tryz.prog.recurses 3) = true := by kernel_rfl
theorem said_d : (Rows.settleEvidenceRow.named == Tryz.prog.varsNamed 3) = true := by kernel_rfl
theorem said_e : (laidOutB Tryz.prog) = true := by kernel_rfl
theorem said_f : (mapsRowed Tryz.prog) = true := by kernel_rfl
theorem said_g : (Rows.settleEvidenceRow.lifted == Tryz.prog.liftsFinal) = true := by kernel_rfl
theorem said_h : (Tryz.prog.make == some Rows.settleEvidenceRow.make) = true := by kernel_rfl
theorem said_i : (Tryz.prog.mayEnter) = true := by kernel_rfl
theorem said_j : (Tryz.prog.stopsHeard) = true := by kernel_rfl
theorem said_all : joinedFacts Tryz.prog 3 Tryz.f3 Rows.settleEvidenceSpec Rows.settleEvidenceRow = true := by
  unfold joinedFacts
  rw [said_a, said_b, said_c, said_d, said_e, said_f, said_g, said_h, said_i, said_j]
  kernel_rfl
theorem settleEvidence_holds : Rows.SettleEvidenceSaid :=
  OpenClaim.holds_of_wide 3 Tryz.f3 rfl rfl rfl rfl rfl rfl rfl ⟨rfl, rfl, rfl, rfl, rfl⟩ rfl rfl rfl rfl rfl (by kernel_rfl) Tryz.func3 said_all
    (of_decide_eq_true (by kernel_rfl)) (by unfold Func.isWrapper; first | (rw [if_pos (by decide +kernel)]; kernel_rfl) | (rw [if_neg (by decide +kernel)]; exact ⟨rfl, rfl⟩))
    (fun os started H enc _ => evid_lifted os started H enc)

end Go.Proofs.YtiihffmamighhaaGreat

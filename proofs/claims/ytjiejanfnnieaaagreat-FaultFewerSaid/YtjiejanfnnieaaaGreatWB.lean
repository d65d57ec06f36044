/- FaultFewer returns true at every input, and each argument reads behind the call as it read before. No conditions. -/
import Derived.Test.YtjiejanfnnieaaaGreatW9
namespace Go.Proofs.YtjiejanfnnieaaaGreat
open Go.Proofs Go.Ev Go.ChangeShapes Go.WideShapes Go.ChangeAt Go.RowKit

set_option maxRecDepth 100000

theorem said_a : (Rows.faultFewerRow.inPlace == Tryz.prog.inPlace 6) = true := by kernel_rfl
theorem said_b : (Rows.faultFewerRow.unfollowed == Tryz.prog.unfollowed 6) = true := by kernel_rfl
theorem said_c : (Rows.faultFewerRow.recurses == Tryz.prog.recurses 6) = true := by kernel_rfl
theorem said_d : (Rows.faultFewerRow.named == Tryz.prog.varsNamed 6) = true := by kernel_rfl
theorem said_e : (laidOutB Tryz.prog) = true := by kernel_rfl
theorem said_f : (mapsRowed Tryz.prog) = true := by kernel_rfl
theorem said_g : (Rows.faultFewerRow.lifted == Tryz.prog.liftsFinal) = true := by kernel_rfl
theorem said_h : (Tryz.prog.make == some Rows.faultFewerRow.make) = true := by kernel_rfl
theorem said_i : (Tryz.prog.mayEnter) = true := by kernel_rfl
theorem said_j : (Tryz.prog.stopsHeard) = true := by kernel_rfl
theorem said_all : joinedFacts Tryz.prog 6 Tryz.f6 Rows.faultFewerSpec Rows.faultFewerRow = true := by
  unfold joinedFacts
  rw [said_a, said_b, said_c, said_d, said_e, said_f, said_g, said_h, said_i, said_j]
  kernel_rfl
theorem faultFewer_holds : Rows.FaultFewerSaid :=
  OpenClaim.holds_of_wide 6 Tryz.f6 rfl rfl rfl rfl rfl rfl rfl ⟨rfl, rfl, rfl, rfl, rfl⟩ rfl rfl rfl rfl rfl (by kernel_rfl) Tryz.func6 said_all
    (of_decide_eq_true (by kernel_rfl)) (by unfold Func.isWrapper; first | (rw [if_pos (by decide +kernel)]; kernel_rfl) | (rw [if_neg (by decide +kernel)]; exact ⟨rfl, rfl⟩))
    (fun os started H enc _ => law_lifted os started H enc)

end Go.Proofs.YtjiejanfnnieaaaGreat

/- Seat r1: the examples of chapter 43, run. No conditions beyond those that each theorem states. -/
import Derived.Test.YthfdoggncbcmjaaGreatBb

set_option linter.unusedSimpArgs false
set_option linter.unusedVariables false
set_option linter.unusedSectionVars false

namespace Go.Proofs
open Go.Ev Go.RowKit
set_option maxRecDepth 100000

theorem Tryz.head43_ev : ends (evVF Tryz.prog Go.Proofs.exs3 300 60 (.func 7) [] hz) (.bool true) = true := by kernel_rfl

theorem Tryz.xhead43 : XOne Tryz.prog 7 (.const (.bool true)) :=
  XOne.const Tryz.nogo Tryz.exs3 Tryz.func7 (by kernel_rfl) rfl (by rw [← evVF_eq]; exact Tryz.head43_ev)

theorem Tryz.head43 (h : H) : ACalls Tryz.prog (.func 7) [] h (fun v h' => v = .bool true ∧ h' = h) := .of_x Tryz.xhead43 rfl

end Go.Proofs

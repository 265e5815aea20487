/- For every input the law returns true, and the input reads as it did. No condition. -/
import Derived.Test.YthiiicchooeapaaGreatZh
set_option maxHeartbeats 1000000
set_option linter.all false
set_option linter.unusedSectionVars false
set_option linter.unusedVariables false
set_option linter.unusedSimpArgs false
namespace Go.Proofs.YthiiicchooeapaaGreat
open Go.ChangeShapes Go.WideShapes Go.ChangeAt Go.RowKit
theorem x_holds:Rows.FnExactSymRunSaid:=
 OpenClaim.holds_of_wide 4 Tryz.f4 rfl rfl rfl rfl rfl rfl rfl ⟨rfl,rfl,rfl,rfl,rfl⟩ rfl rfl rfl rfl rfl y1 Tryz.func4 y2
  (of_decide_eq_true (by kernel_rfl)) y3
  (λos started H enc _=>lifted os started H enc)
end Go.Proofs.YthiiicchooeapaaGreat

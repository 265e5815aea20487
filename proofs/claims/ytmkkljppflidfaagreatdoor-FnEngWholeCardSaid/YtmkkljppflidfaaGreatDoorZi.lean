/- Part 9 of a proof: what the last part needs. No condition. -/
import Derived.Test.YtmkkljppflidfaaGreatDoorZh
set_option maxHeartbeats 1000000
set_option linter.all false
set_option linter.unusedSectionVars false
set_option linter.unusedVariables false
set_option linter.unusedSimpArgs false
namespace Go.Proofs.YtmkkljppflidfaaGreatDoor
open Go.ChangeShapes Go.WideShapes Go.ChangeAt Go.RowKit
def z2:Tryz.pinned.checked.prog.mainIs=some (true, "52b9a913ef3422f64d61cf706b00bbb86a4fef0c91501f0afd5b0c03376c3eb5".toList):=by kernel_rfl
end Go.Proofs.YtmkkljppflidfaaGreatDoor

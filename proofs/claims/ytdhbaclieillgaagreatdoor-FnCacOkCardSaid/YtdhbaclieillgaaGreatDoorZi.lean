/- Part of a proof: what the last part needs. No condition. -/
import Derived.Test.YtdhbaclieillgaaGreatDoorZh
set_option maxHeartbeats 1000000
set_option linter.all false
set_option linter.unusedSectionVars false
set_option linter.unusedVariables false
set_option linter.unusedSimpArgs false
namespace Go.Proofs.YtdhbaclieillgaaGreatDoor
open Go.ChangeShapes Go.WideShapes Go.ChangeAt Go.RowKit
def z2:Tryz.pinned.checked.prog.mainIs=some (true,"609a675d75e24178c785d09fddd11099c2441b48c3a39e314e6f7e4f7082b740".toList):=by kernel_rfl
end Go.Proofs.YtdhbaclieillgaaGreatDoor

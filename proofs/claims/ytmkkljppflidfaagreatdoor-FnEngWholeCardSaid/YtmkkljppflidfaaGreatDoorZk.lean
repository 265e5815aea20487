/- Part 11 of a proof: what the last part needs. No condition. -/
import Derived.Test.YtmkkljppflidfaaGreatDoorZj
set_option maxHeartbeats 1000000
set_option linter.all false
set_option linter.unusedSectionVars false
set_option linter.unusedVariables false
set_option linter.unusedSimpArgs false
namespace Go.Proofs.YtmkkljppflidfaaGreatDoor
open Go.ChangeShapes Go.WideShapes Go.ChangeAt Go.RowKit
def z4:false=Rows.fnEngWholeRow.goesBy Tryz.pinned.checked.prog:=by kernel_rfl
end Go.Proofs.YtmkkljppflidfaaGreatDoor

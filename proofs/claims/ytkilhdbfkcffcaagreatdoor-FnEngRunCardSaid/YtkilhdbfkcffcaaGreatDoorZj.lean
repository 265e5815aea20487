/- Part 10 of a proof: what the last part needs. No condition. -/
import Derived.Test.YtkilhdbfkcffcaaGreatDoorZi
set_option maxHeartbeats 1000000
set_option linter.all false
set_option linter.unusedSectionVars false
set_option linter.unusedVariables false
set_option linter.unusedSimpArgs false
namespace Go.Proofs.YtkilhdbfkcffcaaGreatDoor
open Go.ChangeShapes Go.WideShapes Go.ChangeAt Go.RowKit
def z2:Tryz.pinned.checked.prog.mainIs=some (true, "ce5ae4986784f04d4e56a669256b136052382860097e4b5596d147455b42e4a1".toList):=by kernel_rfl
end Go.Proofs.YtkilhdbfkcffcaaGreatDoor

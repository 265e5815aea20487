/- Part 8 of a proof: what the last part needs. No condition. -/
import Derived.Test.YthiiicchooeapaaGreatZg
set_option maxHeartbeats 1000000
set_option linter.all false
set_option linter.unusedSectionVars false
set_option linter.unusedVariables false
set_option linter.unusedSimpArgs false
namespace Go.Proofs.YthiiicchooeapaaGreat
open Go.ChangeShapes Go.WideShapes Go.ChangeAt Go.RowKit
def y3:Func.isWrapper Tryz.prog Tryz.f4 Rows.fnExactSymRunRow.wrapper Rows.fnExactSymRunRow.mainSum:=(by unfold Func.isWrapper;first | (rw [if_pos (by decide+kernel)];kernel_rfl) | (rw [if_neg (by decide+kernel)];exact⟨rfl,rfl⟩))
end Go.Proofs.YthiiicchooeapaaGreat

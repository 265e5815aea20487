/- Part 7 of a proof: what the last part needs. No condition. -/
import Derived.Test.YthiiicchooeapaaGreatZf
set_option maxHeartbeats 1000000
set_option linter.all false
set_option linter.unusedSectionVars false
set_option linter.unusedVariables false
set_option linter.unusedSimpArgs false
namespace Go.Proofs.YthiiicchooeapaaGreat
open Go.ChangeShapes Go.WideShapes Go.ChangeAt Go.RowKit
def y1:Tryz.pinned.checked.prog.funcNamed Rows.fnExactSymRunRow.func=some 4:=by kernel_rfl
def aS{a b:Bool}(h:a=true)(k:b=true):(a&&b)=true:=by rw [h,k];rfl
set_option maxHeartbeats 4000000 in
def y2:joinedFacts Tryz.pinned.checked.prog 4 Tryz.f4 Rows.fnExactSymRunSpec Rows.fnExactSymRunRow=true:=by
 unfold joinedFacts
 repeat' with_reducible apply aS
 all_goals (as_aux_lemma=>kernel_rfl)
end Go.Proofs.YthiiicchooeapaaGreat

/- For every input the law returns true, and the input reads as it did. No condition. -/
import Derived.Test.YtdhbaclieillgaaGreatDoorZk
set_option maxHeartbeats 1000000
set_option linter.all false
set_option linter.unusedSectionVars false
set_option linter.unusedVariables false
set_option linter.unusedSimpArgs false
namespace Go.Proofs.YtdhbaclieillgaaGreatDoor
open Go.ChangeShapes Go.WideShapes Go.ChangeAt Go.RowKit
theorem x_holds:Rows.FnCacOkCardSaid:=
 Claim7.holds_tied_plain_at .later [] [.widerDeep] true (true, "609a675d75e24178c785d09fddd11099c2441b48c3a39e314e6f7e4f7082b740") false abl (λ_ h=>by cases h) (by kernel_rfl) (λ_ h=>by cases h) fnCacOk_row_tie rfl ⟨rfl,rfl⟩ z2 rfl
  (λf d e b=>by
   obtain rfl:f=5:=Option.some.inj (y1.symm.trans e) |>.symm;obtain rfl:d=Tryz.f5:=(Option.some.inj (Tryz.func5.symm.trans b)).symm;refine⟨z3,λj t a=> ?_⟩;rw [Tryz.params5]at a;have c:t=22:=by
    rcases j with _ | _ | j<;>simp at a<;>first | exact a.symm | exact a
   subst c;exact(show Tryz.prog.wantsStandIn 22=false by kernel_rfl))
  z4
end Go.Proofs.YtdhbaclieillgaaGreatDoor

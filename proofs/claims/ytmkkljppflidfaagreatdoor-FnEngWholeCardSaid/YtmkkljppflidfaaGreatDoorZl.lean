/- For every input the law returns true, and the input reads as it did. No condition. -/
import Derived.Test.YtmkkljppflidfaaGreatDoorZk
set_option maxHeartbeats 1000000
set_option linter.all false
set_option linter.unusedSectionVars false
set_option linter.unusedVariables false
set_option linter.unusedSimpArgs false
namespace Go.Proofs.YtmkkljppflidfaaGreatDoor
open Go.ChangeShapes Go.WideShapes Go.ChangeAt Go.RowKit
theorem x_holds:Rows.FnEngWholeCardSaid:=
 Claim7.holds_tied_plain_at .later [] [.widerDeep] true (true, "52b9a913ef3422f64d61cf706b00bbb86a4fef0c91501f0afd5b0c03376c3eb5") false Ck (λ_ h=>by cases h) (by kernel_rfl) (λ_ h=>by cases h) fnEngWhole_row_tie rfl ⟨rfl,rfl⟩ z2 rfl
  (λf d c b=>by
   obtain rfl:f=3:=Option.some.inj (y1.symm.trans c) |>.symm;obtain rfl:d=Tryz.f3:=(Option.some.inj (Tryz.func3.symm.trans b)).symm;refine⟨z3,λj t a=> ?_⟩;rw [Tryz.params3]at a;have e:t=22:=by
    rcases j with _ | _ | j<;>simp at a<;>first | exact a.symm | exact a
   subst e;exact(show Tryz.prog.wantsStandIn 22=false by kernel_rfl))
  z4
end Go.Proofs.YtmkkljppflidfaaGreatDoor

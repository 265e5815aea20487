/-
  NARROWER THAN 'FOR EVERY INPUT', by the rows' own cells (each row's printed sentence says how): FnBlkJoin: laid · FnBlkLower: laid.
  DERIVED. THE GIVEN ROWS OF THIS SEAT. 2 by the template 'for every input the law returns true; each argument reads behind the call as it read before'; 0 by the template 'total and deterministic' (their statements: YtomdenodojmcgaaGreatDoorTotals.lean).
  GIVEN WITH THE SEED: the statements are not yours to turn. If you find one false, say at which input.
  Laid BY PROGRAM, IN A SANDBOX (cutbox-rows.mjs): the forced cells as the released guide's own fill.sh prints them over the translation 133974bbd7ca5a33… (all of the seat's roots in one cut). By AI agents, Wed Nov 11 2026. No macro, syntax, notation, axiom, sorry.
-/
import Derived.Test.YtomdenodojmcgaaGreatDoorChecked
import GoSem.Claim
import GoSem.ClaimJoined
import GoSem.ClaimMapViews
import Derived.JoinedTies
import Derived.KernelRfl
namespace Go.Proofs.YtomdenodojmcgaaGreatDoor
/- THE CELL 'sum', in the pinned program and in every row, IS THE sha256 OF THE DUMP (.gsa) THAT YtomdenodojmcgaaGreatDoorProg.lean LOADS. Nothing in Lean hashes anything: it is a label: what it is worth is what the hold of that sum in a sandbox is worth. -/
noncomputable def Tryz.pinned : Pinned := { name := "ytomdenodojmcgaagreatdoor", sum := "133974bbd7ca5a33630411af2f21f0edddb2cce253997180f1f54a13553bae32", checked := Tryz.checked }
namespace Rows
def none {H : Type} : Left H := { results := [], args := [] }

/- WHAT THE LISTED PACKAGE-LEVEL VARIABLES READ AS WHEN THE CALL BEGINS. Each datum BY PROGRAM (the guide's laid-datum.mjs) off the statement by which the dump's own 'gosem.cut.vars' lays the variable. In a bare row this is a premise. The card (YtomdenodojmcgaaGreatDoorCards.lean) ties it to the program's text. -/
def laid_loop_example_latimer_impl_forms {H : Type} : DataW H := .slice [.agg [.lit (.bool false), .lit (.bool false), .lit (.int .i64 3), .slice [.lit (.string [115, 116, 111, 112]), .lit (.string [114, 101, 116, 117, 114, 110]), .lit (.string [108, 101, 116]), .lit (.string [107, 101, 101, 112])] []], .agg [.lit (.bool true), .lit (.bool false), .lit (.int .i64 255), .slice [.lit (.string [115, 101, 116])] []], .agg [.lit (.bool true), .lit (.bool true), .lit (.int .i64 0), .slice [.lit (.string [109, 111, 118, 101])] []], .agg [.lit (.bool true), .lit (.bool true), .lit (.int .i64 3), .slice [.lit (.string [97, 100, 100])] []], .agg [.lit (.bool true), .lit (.bool true), .lit (.int .i64 3), .slice [.lit (.string [115, 117, 98])] []], .agg [.lit (.bool true), .lit (.bool true), .lit (.int .i64 3), .slice [.lit (.string [109, 117, 108])] []], .agg [.lit (.bool true), .lit (.bool true), .lit (.int .i64 3), .slice [.lit (.string [97, 110, 100])] []], .agg [.lit (.bool true), .lit (.bool true), .lit (.int .i64 3), .slice [.lit (.string [120, 111, 114])] []], .agg [.lit (.bool true), .lit (.bool true), .lit (.int .i64 15), .slice [.lit (.string [115, 104, 105, 102, 116])] []], .agg [.lit (.bool true), .lit (.bool true), .lit (.int .i64 255), .slice [.lit (.string [108, 111, 97, 100])] []], .agg [.lit (.bool true), .lit (.bool true), .lit (.int .i64 255), .slice [.lit (.string [115, 116, 111, 114, 101])] []], .agg [.lit (.bool true), .lit (.bool true), .lit (.int .i64 255), .slice [.lit (.string [115, 97, 109, 101])] []], .agg [.lit (.bool true), .lit (.bool true), .lit (.int .i64 255), .slice [.lit (.string [108, 101, 115, 115])] []], .agg [.lit (.bool false), .lit (.bool true), .lit (.int .i64 0), .slice [.lit (.string [103, 111])] []], .agg [.lit (.bool true), .lit (.bool false), .lit (.int .i64 0), .slice [.lit (.string [111, 117, 116])] []], .agg [.lit (.bool true), .lit (.bool false), .lit (.int .i64 0), .slice [.lit (.string [105, 110])] []]] []

/-- 'laws.FnBlkJoin': WHATEVER THE INPUT: true; the input reads as it did. -/
def fnBlkJoinSpec : ChangeSpec := { name := "fnBlkJoin", vars := ["loop.example/latimer/impl.forms"], fn := fun _ => fun
  | [d1, d2, g1] => { results := [.lit (.bool true)], args := [d1, d2], vars := [g1] }
  | _ => none }
def fnBlkJoinRow : OpenClaim := { program := "ytomdenodojmcgaagreatdoor", sum := "133974bbd7ca5a33630411af2f21f0edddb2cce253997180f1f54a13553bae32", func := "loop.example/latimer/laws.FnBlkJoin", spec := "fnBlkJoin", unfollowed := true, recurses := true, named := ["loop.example/latimer/impl.forms"], apart := false, laid := [("loop.example/latimer/impl.forms", laid_loop_example_latimer_impl_forms)] }
def FnBlkJoinSaid : Prop := fnBlkJoinRow.holds Tryz.pinned (OpenSpec.ofChange fnBlkJoinSpec)

/-- ITS FALSE NEIGHBOUR: 'it returns false'. Refute it at one input. -/
def fnBlkJoinWrong : ChangeSpec := { name := "fnBlkJoin", vars := ["loop.example/latimer/impl.forms"], fn := fun _ => fun
  | [d1, d2, g1] => { results := [.lit (.bool false)], args := [d1, d2], vars := [g1] }
  | _ => none }
def FnBlkJoinWrongFalsely : Prop := fnBlkJoinRow.holds Tryz.pinned (OpenSpec.ofChange fnBlkJoinWrong)

/-- 'laws.FnBlkLower': WHATEVER THE INPUT: true; the input reads as it did. -/
def fnBlkLowerSpec : ChangeSpec := { name := "fnBlkLower", vars := ["loop.example/latimer/impl.forms"], fn := fun _ => fun
  | [d1, d2, g1] => { results := [.lit (.bool true)], args := [d1, d2], vars := [g1] }
  | _ => none }
def fnBlkLowerRow : OpenClaim := { program := "ytomdenodojmcgaagreatdoor", sum := "133974bbd7ca5a33630411af2f21f0edddb2cce253997180f1f54a13553bae32", func := "loop.example/latimer/laws.FnBlkLower", spec := "fnBlkLower", unfollowed := true, recurses := true, named := ["loop.example/latimer/impl.forms"], apart := false, laid := [("loop.example/latimer/impl.forms", laid_loop_example_latimer_impl_forms)] }
def FnBlkLowerSaid : Prop := fnBlkLowerRow.holds Tryz.pinned (OpenSpec.ofChange fnBlkLowerSpec)

/-- ITS FALSE NEIGHBOUR: 'it returns false'. Refute it at one input. -/
def fnBlkLowerWrong : ChangeSpec := { name := "fnBlkLower", vars := ["loop.example/latimer/impl.forms"], fn := fun _ => fun
  | [d1, d2, g1] => { results := [.lit (.bool false)], args := [d1, d2], vars := [g1] }
  | _ => none }
def FnBlkLowerWrongFalsely : Prop := fnBlkLowerRow.holds Tryz.pinned (OpenSpec.ofChange fnBlkLowerWrong)

/- THE SECOND FORM. 'bulk': how many values and letters a reading holds, each counted each time it is reached (what is shared counts as often as it is met; a slice's spare places count too). A statement '..UptoSaid' is the law's where the arguments, and the package variables that the reading takes, are together of bulk at most 1048576: NARROWER than '..Said'. Prove '..Said' where nothing that the law and all that it calls make is longer than what came in: it says more and counts as full. Else prove '..UptoSaid'. A law counts once. -/
mutual
def uptoBulk {H : Type} : DataW H → Nat
  | .lit (.string bytes) => bytes.length + 1
  | .lit _ => 1
  | .nil => 1
  | .ptr d => uptoBulk d + 1
  | .slice elems spare => uptoBulkAll elems + uptoBulkAll spare + 1
  | .agg parts => uptoBulkAll parts + 1
  | .iface _ d => uptoBulk d + 1
  | .map entries => uptoBulkEntries entries + 1
  | .held _ => 1
def uptoBulkAll {H : Type} : List (DataW H) → Nat
  | [] => 0
  | d :: r => uptoBulk d + uptoBulkAll r
def uptoBulkEntries {H : Type} : List (Lit × DataW H) → Nat
  | [] => 0
  | x :: r => uptoBulkEntry x + uptoBulkEntries r
def uptoBulkEntry {H : Type} : Lit × DataW H → Nat
  | (.string bytes, d) => bytes.length + uptoBulk d + 1
  | (_, d) => uptoBulk d + 1
 end
def uptoSmall : (H : Type) → List (DataW H) → Bool := fun _ ds => decide (uptoBulkAll ds ≤ 1048576)
def OpenSpec.upto (s : _root_.Go.ChangeSpec) : _root_.Go.OpenSpec := { _root_.Go.OpenSpec.ofChange s with cond := some uptoSmall }

/-- 'laws.FnBlkJoin', WHERE WHAT IT READS IS OF BULK AT MOST 1048576: true; the input reads as it did. -/
def fnBlkJoinUptoRow : OpenClaim := { program := "ytomdenodojmcgaagreatdoor", sum := "133974bbd7ca5a33630411af2f21f0edddb2cce253997180f1f54a13553bae32", func := "loop.example/latimer/laws.FnBlkJoin", spec := "fnBlkJoin", unfollowed := true, recurses := true, named := ["loop.example/latimer/impl.forms"], apart := false, laid := [("loop.example/latimer/impl.forms", laid_loop_example_latimer_impl_forms)], narrowed := true }
def FnBlkJoinUptoSaid : Prop := fnBlkJoinUptoRow.holds Tryz.pinned (OpenSpec.upto fnBlkJoinSpec)

/-- 'laws.FnBlkLower', WHERE WHAT IT READS IS OF BULK AT MOST 1048576: true; the input reads as it did. -/
def fnBlkLowerUptoRow : OpenClaim := { program := "ytomdenodojmcgaagreatdoor", sum := "133974bbd7ca5a33630411af2f21f0edddb2cce253997180f1f54a13553bae32", func := "loop.example/latimer/laws.FnBlkLower", spec := "fnBlkLower", unfollowed := true, recurses := true, named := ["loop.example/latimer/impl.forms"], apart := false, laid := [("loop.example/latimer/impl.forms", laid_loop_example_latimer_impl_forms)], narrowed := true }
def FnBlkLowerUptoSaid : Prop := fnBlkLowerUptoRow.holds Tryz.pinned (OpenSpec.upto fnBlkLowerSpec)

end Rows
end Go.Proofs.YtomdenodojmcgaaGreatDoor

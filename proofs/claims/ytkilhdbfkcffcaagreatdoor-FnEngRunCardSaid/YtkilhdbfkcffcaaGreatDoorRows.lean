/-
  NARROWER THAN 'FOR EVERY INPUT', by the rows' own cells (each row's printed sentence says how): FnEngRun: laid · FnEngMade: laid · FnEngSplit: laid · FnEngTurn: laid.
  DERIVED. THE GIVEN ROWS OF THIS SEAT. 4 by the template 'for every input the law returns true; each argument reads behind the call as it read before'; 0 by the template 'total and deterministic' (their statements: YtkilhdbfkcffcaaGreatDoorTotals.lean).
  GIVEN WITH THE SEED: the statements are not yours to turn. If you find one false, say at which input.
  Laid BY PROGRAM, IN A SANDBOX (cutbox-rows.mjs): the forced cells as the released guide's own fill.sh prints them over the translation d935a586853fac45… (all of the seat's roots in one cut). By AI agents, Wed Nov 11 2026. No macro, syntax, notation, axiom, sorry.
-/
import Derived.Test.YtkilhdbfkcffcaaGreatDoorChecked
import GoSem.Claim
import GoSem.ClaimJoined
import GoSem.ClaimMapViews
import Derived.JoinedTies
import Derived.KernelRfl
namespace Go.Proofs.YtkilhdbfkcffcaaGreatDoor
/- THE CELL 'sum', in the pinned program and in every row, IS THE sha256 OF THE DUMP (.gsa) THAT YtkilhdbfkcffcaaGreatDoorProg.lean LOADS. Nothing in Lean hashes anything: it is a label: what it is worth is what the hold of that sum in a sandbox is worth. -/
noncomputable def Tryz.pinned : Pinned := { name := "ytkilhdbfkcffcaagreatdoor", sum := "d935a586853fac452836f8826315a3e53722a880df0df48b66feedf8cd92aca4", checked := Tryz.checked }
namespace Rows
def none {H : Type} : Left H := { results := [], args := [] }

/- WHAT THE LISTED PACKAGE-LEVEL VARIABLES READ AS WHEN THE CALL BEGINS. Each datum BY PROGRAM (the guide's laid-datum.mjs) off the statement by which the dump's own 'gosem.cut.vars' lays the variable. In a bare row this is a premise. The card (YtkilhdbfkcffcaaGreatDoorCards.lean) ties it to the program's text. -/
def laid_loop_example_latimer_impl_forms {H : Type} : DataW H := .slice [.agg [.lit (.bool false), .lit (.bool false), .lit (.int .i64 3), .slice [.lit (.string [115, 116, 111, 112]), .lit (.string [114, 101, 116, 117, 114, 110]), .lit (.string [108, 101, 116]), .lit (.string [107, 101, 101, 112])] []], .agg [.lit (.bool true), .lit (.bool false), .lit (.int .i64 255), .slice [.lit (.string [115, 101, 116])] []], .agg [.lit (.bool true), .lit (.bool true), .lit (.int .i64 0), .slice [.lit (.string [109, 111, 118, 101])] []], .agg [.lit (.bool true), .lit (.bool true), .lit (.int .i64 3), .slice [.lit (.string [97, 100, 100])] []], .agg [.lit (.bool true), .lit (.bool true), .lit (.int .i64 3), .slice [.lit (.string [115, 117, 98])] []], .agg [.lit (.bool true), .lit (.bool true), .lit (.int .i64 3), .slice [.lit (.string [109, 117, 108])] []], .agg [.lit (.bool true), .lit (.bool true), .lit (.int .i64 3), .slice [.lit (.string [97, 110, 100])] []], .agg [.lit (.bool true), .lit (.bool true), .lit (.int .i64 3), .slice [.lit (.string [120, 111, 114])] []], .agg [.lit (.bool true), .lit (.bool true), .lit (.int .i64 15), .slice [.lit (.string [115, 104, 105, 102, 116])] []], .agg [.lit (.bool true), .lit (.bool true), .lit (.int .i64 255), .slice [.lit (.string [108, 111, 97, 100])] []], .agg [.lit (.bool true), .lit (.bool true), .lit (.int .i64 255), .slice [.lit (.string [115, 116, 111, 114, 101])] []], .agg [.lit (.bool true), .lit (.bool true), .lit (.int .i64 255), .slice [.lit (.string [115, 97, 109, 101])] []], .agg [.lit (.bool true), .lit (.bool true), .lit (.int .i64 255), .slice [.lit (.string [108, 101, 115, 115])] []], .agg [.lit (.bool false), .lit (.bool true), .lit (.int .i64 0), .slice [.lit (.string [103, 111])] []], .agg [.lit (.bool true), .lit (.bool false), .lit (.int .i64 0), .slice [.lit (.string [111, 117, 116])] []], .agg [.lit (.bool true), .lit (.bool false), .lit (.int .i64 0), .slice [.lit (.string [105, 110])] []]] []

/-- 'laws.FnEngRun': WHATEVER THE INPUT: true; the input reads as it did. -/
def fnEngRunSpec : ChangeSpec := { name := "fnEngRun", vars := ["loop.example/latimer/impl.forms"], fn := fun _ => fun
  | [d, g1] => { results := [.lit (.bool true)], args := [d], vars := [g1] }
  | _ => none }
def fnEngRunRow : OpenClaim := { program := "ytkilhdbfkcffcaagreatdoor", sum := "d935a586853fac452836f8826315a3e53722a880df0df48b66feedf8cd92aca4", func := "loop.example/latimer/laws.FnEngRun", spec := "fnEngRun", unfollowed := true, recurses := true, named := ["loop.example/latimer/impl.forms"], apart := false, laid := [("loop.example/latimer/impl.forms", laid_loop_example_latimer_impl_forms)] }
def FnEngRunSaid : Prop := fnEngRunRow.holds Tryz.pinned (OpenSpec.ofChange fnEngRunSpec)

/-- ITS FALSE NEIGHBOUR: 'it returns false'. Refute it at one input. -/
def fnEngRunWrong : ChangeSpec := { name := "fnEngRun", vars := ["loop.example/latimer/impl.forms"], fn := fun _ => fun
  | [d, g1] => { results := [.lit (.bool false)], args := [d], vars := [g1] }
  | _ => none }
def FnEngRunWrongFalsely : Prop := fnEngRunRow.holds Tryz.pinned (OpenSpec.ofChange fnEngRunWrong)

/-- 'laws.FnEngMade': WHATEVER THE INPUT: true; the input reads as it did. -/
def fnEngMadeSpec : ChangeSpec := { name := "fnEngMade", vars := ["loop.example/latimer/impl.forms"], fn := fun _ => fun
  | [d1, d2, g1] => { results := [.lit (.bool true)], args := [d1, d2], vars := [g1] }
  | _ => none }
def fnEngMadeRow : OpenClaim := { program := "ytkilhdbfkcffcaagreatdoor", sum := "d935a586853fac452836f8826315a3e53722a880df0df48b66feedf8cd92aca4", func := "loop.example/latimer/laws.FnEngMade", spec := "fnEngMade", unfollowed := true, recurses := true, named := ["loop.example/latimer/impl.forms"], apart := false, laid := [("loop.example/latimer/impl.forms", laid_loop_example_latimer_impl_forms)] }
def FnEngMadeSaid : Prop := fnEngMadeRow.holds Tryz.pinned (OpenSpec.ofChange fnEngMadeSpec)

/-- ITS FALSE NEIGHBOUR: 'it returns false'. Refute it at one input. -/
def fnEngMadeWrong : ChangeSpec := { name := "fnEngMade", vars := ["loop.example/latimer/impl.forms"], fn := fun _ => fun
  | [d1, d2, g1] => { results := [.lit (.bool false)], args := [d1, d2], vars := [g1] }
  | _ => none }
def FnEngMadeWrongFalsely : Prop := fnEngMadeRow.holds Tryz.pinned (OpenSpec.ofChange fnEngMadeWrong)

/-- 'laws.FnEngSplit': WHATEVER THE INPUT: true; the input reads as it did. -/
def fnEngSplitSpec : ChangeSpec := { name := "fnEngSplit", vars := ["loop.example/latimer/impl.forms"], fn := fun _ => fun
  | [d, g1] => { results := [.lit (.bool true)], args := [d], vars := [g1] }
  | _ => none }
def fnEngSplitRow : OpenClaim := { program := "ytkilhdbfkcffcaagreatdoor", sum := "d935a586853fac452836f8826315a3e53722a880df0df48b66feedf8cd92aca4", func := "loop.example/latimer/laws.FnEngSplit", spec := "fnEngSplit", unfollowed := true, recurses := true, named := ["loop.example/latimer/impl.forms"], apart := false, laid := [("loop.example/latimer/impl.forms", laid_loop_example_latimer_impl_forms)] }
def FnEngSplitSaid : Prop := fnEngSplitRow.holds Tryz.pinned (OpenSpec.ofChange fnEngSplitSpec)

/-- ITS FALSE NEIGHBOUR: 'it returns false'. Refute it at one input. -/
def fnEngSplitWrong : ChangeSpec := { name := "fnEngSplit", vars := ["loop.example/latimer/impl.forms"], fn := fun _ => fun
  | [d, g1] => { results := [.lit (.bool false)], args := [d], vars := [g1] }
  | _ => none }
def FnEngSplitWrongFalsely : Prop := fnEngSplitRow.holds Tryz.pinned (OpenSpec.ofChange fnEngSplitWrong)

/-- 'laws.FnEngTurn': WHATEVER THE INPUT: true; the input reads as it did. -/
def fnEngTurnSpec : ChangeSpec := { name := "fnEngTurn", vars := ["loop.example/latimer/impl.forms"], fn := fun _ => fun
  | [d, g1] => { results := [.lit (.bool true)], args := [d], vars := [g1] }
  | _ => none }
def fnEngTurnRow : OpenClaim := { program := "ytkilhdbfkcffcaagreatdoor", sum := "d935a586853fac452836f8826315a3e53722a880df0df48b66feedf8cd92aca4", func := "loop.example/latimer/laws.FnEngTurn", spec := "fnEngTurn", unfollowed := true, recurses := true, named := ["loop.example/latimer/impl.forms"], apart := false, laid := [("loop.example/latimer/impl.forms", laid_loop_example_latimer_impl_forms)] }
def FnEngTurnSaid : Prop := fnEngTurnRow.holds Tryz.pinned (OpenSpec.ofChange fnEngTurnSpec)

/-- ITS FALSE NEIGHBOUR: 'it returns false'. Refute it at one input. -/
def fnEngTurnWrong : ChangeSpec := { name := "fnEngTurn", vars := ["loop.example/latimer/impl.forms"], fn := fun _ => fun
  | [d, g1] => { results := [.lit (.bool false)], args := [d], vars := [g1] }
  | _ => none }
def FnEngTurnWrongFalsely : Prop := fnEngTurnRow.holds Tryz.pinned (OpenSpec.ofChange fnEngTurnWrong)

/- THE SECOND FORM. 'bulk': how many values and letters a reading holds, each counted each time it is reached (what is shared counts as often as it is met; a slice's spare places count too). A statement '..UptoSaid' is the law's where the arguments, and the package variables that the reading takes, are together of bulk at most 1048576: NARROWER than '..Said'. Prove '..Said' where nothing that the law and all that it calls make is longer than what came in: it says more and counts as full. Else prove '..UptoSaid'. A law counts once. -/
mutual
def uptoBulk {H : Type} : DataW H → Nat
  | .lit (.string bytes) => bytes.length + 1
  | .lit _ => 1
  | .nil => 1
  | .ptr d => uptoBulk d + 1
  | .slice elems spare => uptoBulkAll elems + uptoBulkAll spare + 1
  | .agg parts => uptoBulkAll parts + 1
  | .iface _ d => uptoBulk d + 1
  | .map entries => uptoBulkEntries entries + 1
  | .held _ => 1
def uptoBulkAll {H : Type} : List (DataW H) → Nat
  | [] => 0
  | d :: r => uptoBulk d + uptoBulkAll r
def uptoBulkEntries {H : Type} : List (Lit × DataW H) → Nat
  | [] => 0
  | x :: r => uptoBulkEntry x + uptoBulkEntries r
def uptoBulkEntry {H : Type} : Lit × DataW H → Nat
  | (.string bytes, d) => bytes.length + uptoBulk d + 1
  | (_, d) => uptoBulk d + 1
 end
def uptoSmall : (H : Type) → List (DataW H) → Bool := fun _ ds => decide (uptoBulkAll ds ≤ 1048576)
def OpenSpec.upto (s : _root_.Go.ChangeSpec) : _root_.Go.OpenSpec := { _root_.Go.OpenSpec.ofChange s with cond := some uptoSmall }

/-- 'laws.FnEngRun', WHERE WHAT IT READS IS OF BULK AT MOST 1048576: true; the input reads as it did. -/
def fnEngRunUptoRow : OpenClaim := { program := "ytkilhdbfkcffcaagreatdoor", sum := "d935a586853fac452836f8826315a3e53722a880df0df48b66feedf8cd92aca4", func := "loop.example/latimer/laws.FnEngRun", spec := "fnEngRun", unfollowed := true, recurses := true, named := ["loop.example/latimer/impl.forms"], apart := false, laid := [("loop.example/latimer/impl.forms", laid_loop_example_latimer_impl_forms)], narrowed := true }
def FnEngRunUptoSaid : Prop := fnEngRunUptoRow.holds Tryz.pinned (OpenSpec.upto fnEngRunSpec)

/-- 'laws.FnEngMade', WHERE WHAT IT READS IS OF BULK AT MOST 1048576: true; the input reads as it did. -/
def fnEngMadeUptoRow : OpenClaim := { program := "ytkilhdbfkcffcaagreatdoor", sum := "d935a586853fac452836f8826315a3e53722a880df0df48b66feedf8cd92aca4", func := "loop.example/latimer/laws.FnEngMade", spec := "fnEngMade", unfollowed := true, recurses := true, named := ["loop.example/latimer/impl.forms"], apart := false, laid := [("loop.example/latimer/impl.forms", laid_loop_example_latimer_impl_forms)], narrowed := true }
def FnEngMadeUptoSaid : Prop := fnEngMadeUptoRow.holds Tryz.pinned (OpenSpec.upto fnEngMadeSpec)

/-- 'laws.FnEngSplit', WHERE WHAT IT READS IS OF BULK AT MOST 1048576: true; the input reads as it did. -/
def fnEngSplitUptoRow : OpenClaim := { program := "ytkilhdbfkcffcaagreatdoor", sum := "d935a586853fac452836f8826315a3e53722a880df0df48b66feedf8cd92aca4", func := "loop.example/latimer/laws.FnEngSplit", spec := "fnEngSplit", unfollowed := true, recurses := true, named := ["loop.example/latimer/impl.forms"], apart := false, laid := [("loop.example/latimer/impl.forms", laid_loop_example_latimer_impl_forms)], narrowed := true }
def FnEngSplitUptoSaid : Prop := fnEngSplitUptoRow.holds Tryz.pinned (OpenSpec.upto fnEngSplitSpec)

/-- 'laws.FnEngTurn', WHERE WHAT IT READS IS OF BULK AT MOST 1048576: true; the input reads as it did. -/
def fnEngTurnUptoRow : OpenClaim := { program := "ytkilhdbfkcffcaagreatdoor", sum := "d935a586853fac452836f8826315a3e53722a880df0df48b66feedf8cd92aca4", func := "loop.example/latimer/laws.FnEngTurn", spec := "fnEngTurn", unfollowed := true, recurses := true, named := ["loop.example/latimer/impl.forms"], apart := false, laid := [("loop.example/latimer/impl.forms", laid_loop_example_latimer_impl_forms)], narrowed := true }
def FnEngTurnUptoSaid : Prop := fnEngTurnUptoRow.holds Tryz.pinned (OpenSpec.upto fnEngTurnSpec)

end Rows
end Go.Proofs.YtkilhdbfkcffcaaGreatDoor

/-
  NARROWER THAN 'FOR EVERY INPUT', by the rows' own cells (each row's printed sentence says how): FnEngWhole: laid · FnEngNew: laid · FnEngCached: laid · FnEngLie: laid · FnEngOwn: laid · FnEngKept: laid · FnEngCerts: laid · FnEngStops: laid.
  DERIVED. THE GIVEN ROWS OF THIS SEAT. 8 by the template 'for every input the law returns true; each argument reads behind the call as it read before'; 0 by the template 'total and deterministic' (their statements: YtmkkljppflidfaaGreatDoorTotals.lean).
  GIVEN WITH THE SEED: the statements are not yours to turn. If you find one false, say at which input.
  Laid BY PROGRAM, IN A SANDBOX (cutbox-rows.mjs): the forced cells as the released guide's own fill.sh prints them over the translation d234b4ca7b8ecb96… (all of the seat's roots in one cut). By AI agents, Wed Nov 11 2026. No macro, syntax, notation, axiom, sorry.
-/
import Derived.Test.YtmkkljppflidfaaGreatDoorChecked
import GoSem.Claim
import GoSem.ClaimJoined
import GoSem.ClaimMapViews
import Derived.JoinedTies
import Derived.KernelRfl
namespace Go.Proofs.YtmkkljppflidfaaGreatDoor
/- THE CELL 'sum', in the pinned program and in every row, IS THE sha256 OF THE DUMP (.gsa) THAT YtmkkljppflidfaaGreatDoorProg.lean LOADS. Nothing in Lean hashes anything: it is a label: what it is worth is what the hold of that sum in a sandbox is worth. -/
noncomputable def Tryz.pinned : Pinned := { name := "ytmkkljppflidfaagreatdoor", sum := "d234b4ca7b8ecb96752963f0a6a7af584e7854f4fbb83d59319f499cc559c92a", checked := Tryz.checked }
namespace Rows
def none {H : Type} : Left H := { results := [], args := [] }

/- WHAT THE LISTED PACKAGE-LEVEL VARIABLES READ AS WHEN THE CALL BEGINS. Each datum BY PROGRAM (the guide's laid-datum.mjs) off the statement by which the dump's own 'gosem.cut.vars' lays the variable. In a bare row this is a premise. The card (YtmkkljppflidfaaGreatDoorCards.lean) ties it to the program's text. -/
def laid_loop_example_latimer_impl_forms {H : Type} : DataW H := .slice [.agg [.lit (.bool false), .lit (.bool false), .lit (.int .i64 3), .slice [.lit (.string [115, 116, 111, 112]), .lit (.string [114, 101, 116, 117, 114, 110]), .lit (.string [108, 101, 116]), .lit (.string [107, 101, 101, 112])] []], .agg [.lit (.bool true), .lit (.bool false), .lit (.int .i64 255), .slice [.lit (.string [115, 101, 116])] []], .agg [.lit (.bool true), .lit (.bool true), .lit (.int .i64 0), .slice [.lit (.string [109, 111, 118, 101])] []], .agg [.lit (.bool true), .lit (.bool true), .lit (.int .i64 3), .slice [.lit (.string [97, 100, 100])] []], .agg [.lit (.bool true), .lit (.bool true), .lit (.int .i64 3), .slice [.lit (.string [115, 117, 98])] []], .agg [.lit (.bool true), .lit (.bool true), .lit (.int .i64 3), .slice [.lit (.string [109, 117, 108])] []], .agg [.lit (.bool true), .lit (.bool true), .lit (.int .i64 3), .slice [.lit (.string [97, 110, 100])] []], .agg [.lit (.bool true), .lit (.bool true), .lit (.int .i64 3), .slice [.lit (.string [120, 111, 114])] []], .agg [.lit (.bool true), .lit (.bool true), .lit (.int .i64 15), .slice [.lit (.string [115, 104, 105, 102, 116])] []], .agg [.lit (.bool true), .lit (.bool true), .lit (.int .i64 255), .slice [.lit (.string [108, 111, 97, 100])] []], .agg [.lit (.bool true), .lit (.bool true), .lit (.int .i64 255), .slice [.lit (.string [115, 116, 111, 114, 101])] []], .agg [.lit (.bool true), .lit (.bool true), .lit (.int .i64 255), .slice [.lit (.string [115, 97, 109, 101])] []], .agg [.lit (.bool true), .lit (.bool true), .lit (.int .i64 255), .slice [.lit (.string [108, 101, 115, 115])] []], .agg [.lit (.bool false), .lit (.bool true), .lit (.int .i64 0), .slice [.lit (.string [103, 111])] []], .agg [.lit (.bool true), .lit (.bool false), .lit (.int .i64 0), .slice [.lit (.string [111, 117, 116])] []], .agg [.lit (.bool true), .lit (.bool false), .lit (.int .i64 0), .slice [.lit (.string [105, 110])] []]] []

/-- 'laws.FnEngWhole': WHATEVER THE INPUT: true; the input reads as it did. -/
def fnEngWholeSpec : ChangeSpec := { name := "fnEngWhole", vars := ["loop.example/latimer/impl.forms"], fn := fun _ => fun
  | [d, g1] => { results := [.lit (.bool true)], args := [d], vars := [g1] }
  | _ => none }
def fnEngWholeRow : OpenClaim := { program := "ytmkkljppflidfaagreatdoor", sum := "d234b4ca7b8ecb96752963f0a6a7af584e7854f4fbb83d59319f499cc559c92a", func := "loop.example/latimer/laws.FnEngWhole", spec := "fnEngWhole", unfollowed := true, recurses := true, named := ["loop.example/latimer/impl.forms"], apart := false, laid := [("loop.example/latimer/impl.forms", laid_loop_example_latimer_impl_forms)] }
def FnEngWholeSaid : Prop := fnEngWholeRow.holds Tryz.pinned (OpenSpec.ofChange fnEngWholeSpec)

/-- ITS FALSE NEIGHBOUR: 'it returns false'. Refute it at one input. -/
def fnEngWholeWrong : ChangeSpec := { name := "fnEngWhole", vars := ["loop.example/latimer/impl.forms"], fn := fun _ => fun
  | [d, g1] => { results := [.lit (.bool false)], args := [d], vars := [g1] }
  | _ => none }
def FnEngWholeWrongFalsely : Prop := fnEngWholeRow.holds Tryz.pinned (OpenSpec.ofChange fnEngWholeWrong)

/-- 'laws.FnEngNew': WHATEVER THE INPUT: true; the input reads as it did. -/
def fnEngNewSpec : ChangeSpec := { name := "fnEngNew", vars := ["loop.example/latimer/impl.forms"], fn := fun _ => fun
  | [d, g1] => { results := [.lit (.bool true)], args := [d], vars := [g1] }
  | _ => none }
def fnEngNewRow : OpenClaim := { program := "ytmkkljppflidfaagreatdoor", sum := "d234b4ca7b8ecb96752963f0a6a7af584e7854f4fbb83d59319f499cc559c92a", func := "loop.example/latimer/laws.FnEngNew", spec := "fnEngNew", unfollowed := true, recurses := true, named := ["loop.example/latimer/impl.forms"], apart := false, laid := [("loop.example/latimer/impl.forms", laid_loop_example_latimer_impl_forms)] }
def FnEngNewSaid : Prop := fnEngNewRow.holds Tryz.pinned (OpenSpec.ofChange fnEngNewSpec)

/-- ITS FALSE NEIGHBOUR: 'it returns false'. Refute it at one input. -/
def fnEngNewWrong : ChangeSpec := { name := "fnEngNew", vars := ["loop.example/latimer/impl.forms"], fn := fun _ => fun
  | [d, g1] => { results := [.lit (.bool false)], args := [d], vars := [g1] }
  | _ => none }
def FnEngNewWrongFalsely : Prop := fnEngNewRow.holds Tryz.pinned (OpenSpec.ofChange fnEngNewWrong)

/-- 'laws.FnEngCached': WHATEVER THE INPUT: true; the input reads as it did. -/
def fnEngCachedSpec : ChangeSpec := { name := "fnEngCached", vars := ["loop.example/latimer/impl.forms"], fn := fun _ => fun
  | [d, g1] => { results := [.lit (.bool true)], args := [d], vars := [g1] }
  | _ => none }
def fnEngCachedRow : OpenClaim := { program := "ytmkkljppflidfaagreatdoor", sum := "d234b4ca7b8ecb96752963f0a6a7af584e7854f4fbb83d59319f499cc559c92a", func := "loop.example/latimer/laws.FnEngCached", spec := "fnEngCached", unfollowed := true, recurses := true, named := ["loop.example/latimer/impl.forms"], apart := false, laid := [("loop.example/latimer/impl.forms", laid_loop_example_latimer_impl_forms)] }
def FnEngCachedSaid : Prop := fnEngCachedRow.holds Tryz.pinned (OpenSpec.ofChange fnEngCachedSpec)

/-- ITS FALSE NEIGHBOUR: 'it returns false'. Refute it at one input. -/
def fnEngCachedWrong : ChangeSpec := { name := "fnEngCached", vars := ["loop.example/latimer/impl.forms"], fn := fun _ => fun
  | [d, g1] => { results := [.lit (.bool false)], args := [d], vars := [g1] }
  | _ => none }
def FnEngCachedWrongFalsely : Prop := fnEngCachedRow.holds Tryz.pinned (OpenSpec.ofChange fnEngCachedWrong)

/-- 'laws.FnEngLie': WHATEVER THE INPUT: true; the input reads as it did. -/
def fnEngLieSpec : ChangeSpec := { name := "fnEngLie", vars := ["loop.example/latimer/impl.forms"], fn := fun _ => fun
  | [d, g1] => { results := [.lit (.bool true)], args := [d], vars := [g1] }
  | _ => none }
def fnEngLieRow : OpenClaim := { program := "ytmkkljppflidfaagreatdoor", sum := "d234b4ca7b8ecb96752963f0a6a7af584e7854f4fbb83d59319f499cc559c92a", func := "loop.example/latimer/laws.FnEngLie", spec := "fnEngLie", unfollowed := true, recurses := true, named := ["loop.example/latimer/impl.forms"], apart := false, laid := [("loop.example/latimer/impl.forms", laid_loop_example_latimer_impl_forms)] }
def FnEngLieSaid : Prop := fnEngLieRow.holds Tryz.pinned (OpenSpec.ofChange fnEngLieSpec)

/-- ITS FALSE NEIGHBOUR: 'it returns false'. Refute it at one input. -/
def fnEngLieWrong : ChangeSpec := { name := "fnEngLie", vars := ["loop.example/latimer/impl.forms"], fn := fun _ => fun
  | [d, g1] => { results := [.lit (.bool false)], args := [d], vars := [g1] }
  | _ => none }
def FnEngLieWrongFalsely : Prop := fnEngLieRow.holds Tryz.pinned (OpenSpec.ofChange fnEngLieWrong)

/-- 'laws.FnEngOwn': WHATEVER THE INPUT: true; the input reads as it did. -/
def fnEngOwnSpec : ChangeSpec := { name := "fnEngOwn", vars := ["loop.example/latimer/impl.forms"], fn := fun _ => fun
  | [d, g1] => { results := [.lit (.bool true)], args := [d], vars := [g1] }
  | _ => none }
def fnEngOwnRow : OpenClaim := { program := "ytmkkljppflidfaagreatdoor", sum := "d234b4ca7b8ecb96752963f0a6a7af584e7854f4fbb83d59319f499cc559c92a", func := "loop.example/latimer/laws.FnEngOwn", spec := "fnEngOwn", unfollowed := true, recurses := true, named := ["loop.example/latimer/impl.forms"], apart := false, laid := [("loop.example/latimer/impl.forms", laid_loop_example_latimer_impl_forms)] }
def FnEngOwnSaid : Prop := fnEngOwnRow.holds Tryz.pinned (OpenSpec.ofChange fnEngOwnSpec)

/-- ITS FALSE NEIGHBOUR: 'it returns false'. Refute it at one input. -/
def fnEngOwnWrong : ChangeSpec := { name := "fnEngOwn", vars := ["loop.example/latimer/impl.forms"], fn := fun _ => fun
  | [d, g1] => { results := [.lit (.bool false)], args := [d], vars := [g1] }
  | _ => none }
def FnEngOwnWrongFalsely : Prop := fnEngOwnRow.holds Tryz.pinned (OpenSpec.ofChange fnEngOwnWrong)

/-- 'laws.FnEngKept': WHATEVER THE INPUT: true; the input reads as it did. -/
def fnEngKeptSpec : ChangeSpec := { name := "fnEngKept", vars := ["loop.example/latimer/impl.forms"], fn := fun _ => fun
  | [d, g1] => { results := [.lit (.bool true)], args := [d], vars := [g1] }
  | _ => none }
def fnEngKeptRow : OpenClaim := { program := "ytmkkljppflidfaagreatdoor", sum := "d234b4ca7b8ecb96752963f0a6a7af584e7854f4fbb83d59319f499cc559c92a", func := "loop.example/latimer/laws.FnEngKept", spec := "fnEngKept", unfollowed := true, recurses := true, named := ["loop.example/latimer/impl.forms"], apart := false, laid := [("loop.example/latimer/impl.forms", laid_loop_example_latimer_impl_forms)] }
def FnEngKeptSaid : Prop := fnEngKeptRow.holds Tryz.pinned (OpenSpec.ofChange fnEngKeptSpec)

/-- ITS FALSE NEIGHBOUR: 'it returns false'. Refute it at one input. -/
def fnEngKeptWrong : ChangeSpec := { name := "fnEngKept", vars := ["loop.example/latimer/impl.forms"], fn := fun _ => fun
  | [d, g1] => { results := [.lit (.bool false)], args := [d], vars := [g1] }
  | _ => none }
def FnEngKeptWrongFalsely : Prop := fnEngKeptRow.holds Tryz.pinned (OpenSpec.ofChange fnEngKeptWrong)

/-- 'laws.FnEngCerts': WHATEVER THE INPUT: true; the input reads as it did. -/
def fnEngCertsSpec : ChangeSpec := { name := "fnEngCerts", vars := ["loop.example/latimer/impl.forms"], fn := fun _ => fun
  | [d, g1] => { results := [.lit (.bool true)], args := [d], vars := [g1] }
  | _ => none }
def fnEngCertsRow : OpenClaim := { program := "ytmkkljppflidfaagreatdoor", sum := "d234b4ca7b8ecb96752963f0a6a7af584e7854f4fbb83d59319f499cc559c92a", func := "loop.example/latimer/laws.FnEngCerts", spec := "fnEngCerts", unfollowed := true, recurses := true, named := ["loop.example/latimer/impl.forms"], apart := false, laid := [("loop.example/latimer/impl.forms", laid_loop_example_latimer_impl_forms)] }
def FnEngCertsSaid : Prop := fnEngCertsRow.holds Tryz.pinned (OpenSpec.ofChange fnEngCertsSpec)

/-- ITS FALSE NEIGHBOUR: 'it returns false'. Refute it at one input. -/
def fnEngCertsWrong : ChangeSpec := { name := "fnEngCerts", vars := ["loop.example/latimer/impl.forms"], fn := fun _ => fun
  | [d, g1] => { results := [.lit (.bool false)], args := [d], vars := [g1] }
  | _ => none }
def FnEngCertsWrongFalsely : Prop := fnEngCertsRow.holds Tryz.pinned (OpenSpec.ofChange fnEngCertsWrong)

/-- 'laws.FnEngStops': WHATEVER THE INPUT: true; the input reads as it did. -/
def fnEngStopsSpec : ChangeSpec := { name := "fnEngStops", vars := ["loop.example/latimer/impl.forms"], fn := fun _ => fun
  | [d, g1] => { results := [.lit (.bool true)], args := [d], vars := [g1] }
  | _ => none }
def fnEngStopsRow : OpenClaim := { program := "ytmkkljppflidfaagreatdoor", sum := "d234b4ca7b8ecb96752963f0a6a7af584e7854f4fbb83d59319f499cc559c92a", func := "loop.example/latimer/laws.FnEngStops", spec := "fnEngStops", unfollowed := true, recurses := true, named := ["loop.example/latimer/impl.forms"], apart := false, laid := [("loop.example/latimer/impl.forms", laid_loop_example_latimer_impl_forms)] }
def FnEngStopsSaid : Prop := fnEngStopsRow.holds Tryz.pinned (OpenSpec.ofChange fnEngStopsSpec)

/-- ITS FALSE NEIGHBOUR: 'it returns false'. Refute it at one input. -/
def fnEngStopsWrong : ChangeSpec := { name := "fnEngStops", vars := ["loop.example/latimer/impl.forms"], fn := fun _ => fun
  | [d, g1] => { results := [.lit (.bool false)], args := [d], vars := [g1] }
  | _ => none }
def FnEngStopsWrongFalsely : Prop := fnEngStopsRow.holds Tryz.pinned (OpenSpec.ofChange fnEngStopsWrong)

/- THE SECOND FORM. 'bulk': how many values and letters a reading holds, each counted each time it is reached (what is shared counts as often as it is met; a slice's spare places count too). A statement '..UptoSaid' is the law's where the arguments, and the package variables that the reading takes, are together of bulk at most 1048576: NARROWER than '..Said'. Prove '..Said' where nothing that the law and all that it calls make is longer than what came in: it says more and counts as full. Else prove '..UptoSaid'. A law counts once. -/
mutual
def uptoBulk {H : Type} : DataW H → Nat
  | .lit (.string bytes) => bytes.length + 1
  | .lit _ => 1
  | .nil => 1
  | .ptr d => uptoBulk d + 1
  | .slice elems spare => uptoBulkAll elems + uptoBulkAll spare + 1
  | .agg parts => uptoBulkAll parts + 1
  | .iface _ d => uptoBulk d + 1
  | .map entries => uptoBulkEntries entries + 1
  | .held _ => 1
def uptoBulkAll {H : Type} : List (DataW H) → Nat
  | [] => 0
  | d :: r => uptoBulk d + uptoBulkAll r
def uptoBulkEntries {H : Type} : List (Lit × DataW H) → Nat
  | [] => 0
  | x :: r => uptoBulkEntry x + uptoBulkEntries r
def uptoBulkEntry {H : Type} : Lit × DataW H → Nat
  | (.string bytes, d) => bytes.length + uptoBulk d + 1
  | (_, d) => uptoBulk d + 1
 end
def uptoSmall : (H : Type) → List (DataW H) → Bool := fun _ ds => decide (uptoBulkAll ds ≤ 1048576)
def OpenSpec.upto (s : _root_.Go.ChangeSpec) : _root_.Go.OpenSpec := { _root_.Go.OpenSpec.ofChange s with cond := some uptoSmall }

/-- 'laws.FnEngWhole', WHERE WHAT IT READS IS OF BULK AT MOST 1048576: true; the input reads as it did. -/
def fnEngWholeUptoRow : OpenClaim := { program := "ytmkkljppflidfaagreatdoor", sum := "d234b4ca7b8ecb96752963f0a6a7af584e7854f4fbb83d59319f499cc559c92a", func := "loop.example/latimer/laws.FnEngWhole", spec := "fnEngWhole", unfollowed := true, recurses := true, named := ["loop.example/latimer/impl.forms"], apart := false, laid := [("loop.example/latimer/impl.forms", laid_loop_example_latimer_impl_forms)], narrowed := true }
def FnEngWholeUptoSaid : Prop := fnEngWholeUptoRow.holds Tryz.pinned (OpenSpec.upto fnEngWholeSpec)

/-- 'laws.FnEngNew', WHERE WHAT IT READS IS OF BULK AT MOST 1048576: true; the input reads as it did. -/
def fnEngNewUptoRow : OpenClaim := { program := "ytmkkljppflidfaagreatdoor", sum := "d234b4ca7b8ecb96752963f0a6a7af584e7854f4fbb83d59319f499cc559c92a", func := "loop.example/latimer/laws.FnEngNew", spec := "fnEngNew", unfollowed := true, recurses := true, named := ["loop.example/latimer/impl.forms"], apart := false, laid := [("loop.example/latimer/impl.forms", laid_loop_example_latimer_impl_forms)], narrowed := true }
def FnEngNewUptoSaid : Prop := fnEngNewUptoRow.holds Tryz.pinned (OpenSpec.upto fnEngNewSpec)

/-- 'laws.FnEngCached', WHERE WHAT IT READS IS OF BULK AT MOST 1048576: true; the input reads as it did. -/
def fnEngCachedUptoRow : OpenClaim := { program := "ytmkkljppflidfaagreatdoor", sum := "d234b4ca7b8ecb96752963f0a6a7af584e7854f4fbb83d59319f499cc559c92a", func := "loop.example/latimer/laws.FnEngCached", spec := "fnEngCached", unfollowed := true, recurses := true, named := ["loop.example/latimer/impl.forms"], apart := false, laid := [("loop.example/latimer/impl.forms", laid_loop_example_latimer_impl_forms)], narrowed := true }
def FnEngCachedUptoSaid : Prop := fnEngCachedUptoRow.holds Tryz.pinned (OpenSpec.upto fnEngCachedSpec)

/-- 'laws.FnEngLie', WHERE WHAT IT READS IS OF BULK AT MOST 1048576: true; the input reads as it did. -/
def fnEngLieUptoRow : OpenClaim := { program := "ytmkkljppflidfaagreatdoor", sum := "d234b4ca7b8ecb96752963f0a6a7af584e7854f4fbb83d59319f499cc559c92a", func := "loop.example/latimer/laws.FnEngLie", spec := "fnEngLie", unfollowed := true, recurses := true, named := ["loop.example/latimer/impl.forms"], apart := false, laid := [("loop.example/latimer/impl.forms", laid_loop_example_latimer_impl_forms)], narrowed := true }
def FnEngLieUptoSaid : Prop := fnEngLieUptoRow.holds Tryz.pinned (OpenSpec.upto fnEngLieSpec)

/-- 'laws.FnEngOwn', WHERE WHAT IT READS IS OF BULK AT MOST 1048576: true; the input reads as it did. -/
def fnEngOwnUptoRow : OpenClaim := { program := "ytmkkljppflidfaagreatdoor", sum := "d234b4ca7b8ecb96752963f0a6a7af584e7854f4fbb83d59319f499cc559c92a", func := "loop.example/latimer/laws.FnEngOwn", spec := "fnEngOwn", unfollowed := true, recurses := true, named := ["loop.example/latimer/impl.forms"], apart := false, laid := [("loop.example/latimer/impl.forms", laid_loop_example_latimer_impl_forms)], narrowed := true }
def FnEngOwnUptoSaid : Prop := fnEngOwnUptoRow.holds Tryz.pinned (OpenSpec.upto fnEngOwnSpec)

/-- 'laws.FnEngKept', WHERE WHAT IT READS IS OF BULK AT MOST 1048576: true; the input reads as it did. -/
def fnEngKeptUptoRow : OpenClaim := { program := "ytmkkljppflidfaagreatdoor", sum := "d234b4ca7b8ecb96752963f0a6a7af584e7854f4fbb83d59319f499cc559c92a", func := "loop.example/latimer/laws.FnEngKept", spec := "fnEngKept", unfollowed := true, recurses := true, named := ["loop.example/latimer/impl.forms"], apart := false, laid := [("loop.example/latimer/impl.forms", laid_loop_example_latimer_impl_forms)], narrowed := true }
def FnEngKeptUptoSaid : Prop := fnEngKeptUptoRow.holds Tryz.pinned (OpenSpec.upto fnEngKeptSpec)

/-- 'laws.FnEngCerts', WHERE WHAT IT READS IS OF BULK AT MOST 1048576: true; the input reads as it did. -/
def fnEngCertsUptoRow : OpenClaim := { program := "ytmkkljppflidfaagreatdoor", sum := "d234b4ca7b8ecb96752963f0a6a7af584e7854f4fbb83d59319f499cc559c92a", func := "loop.example/latimer/laws.FnEngCerts", spec := "fnEngCerts", unfollowed := true, recurses := true, named := ["loop.example/latimer/impl.forms"], apart := false, laid := [("loop.example/latimer/impl.forms", laid_loop_example_latimer_impl_forms)], narrowed := true }
def FnEngCertsUptoSaid : Prop := fnEngCertsUptoRow.holds Tryz.pinned (OpenSpec.upto fnEngCertsSpec)

/-- 'laws.FnEngStops', WHERE WHAT IT READS IS OF BULK AT MOST 1048576: true; the input reads as it did. -/
def fnEngStopsUptoRow : OpenClaim := { program := "ytmkkljppflidfaagreatdoor", sum := "d234b4ca7b8ecb96752963f0a6a7af584e7854f4fbb83d59319f499cc559c92a", func := "loop.example/latimer/laws.FnEngStops", spec := "fnEngStops", unfollowed := true, recurses := true, named := ["loop.example/latimer/impl.forms"], apart := false, laid := [("loop.example/latimer/impl.forms", laid_loop_example_latimer_impl_forms)], narrowed := true }
def FnEngStopsUptoSaid : Prop := fnEngStopsUptoRow.holds Tryz.pinned (OpenSpec.upto fnEngStopsSpec)

end Rows
end Go.Proofs.YtmkkljppflidfaaGreatDoor

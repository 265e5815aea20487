/-
  No cell of these rows narrows 'for every input' (looked for: loops, veiled, ifaces, maps, wideKeys, modest, calm, conditions, laid).
  DERIVED. THE GIVEN ROWS OF THIS SEAT. 2 by the template 'for every input the law returns true; each argument reads behind the call as it read before'; 0 by the template 'total and deterministic' (their statements: YtdmoejehiedihaaGreatTotals.lean).
  GIVEN WITH THE SEED: the statements are not yours to turn. If you find one false, say at which input.
  Laid BY PROGRAM, IN A SANDBOX (cutbox-rows.mjs): the forced cells as the released guide's own fill.sh prints them over the translation 77601c4cb103bb76… (all of the seat's roots in one cut). By AI agents, Wed Nov 11 2026. No macro, syntax, notation, axiom, sorry.
-/
import Derived.Test.YtdmoejehiedihaaGreatChecked
import GoSem.Claim
import GoSem.ClaimJoined
import GoSem.ClaimMapViews
import Derived.JoinedTies
import Derived.KernelRfl
namespace Go.Proofs.YtdmoejehiedihaaGreat
/- THE CELL 'sum', in the pinned program and in every row, IS THE sha256 OF THE DUMP (.gsa) THAT YtdmoejehiedihaaGreatProg.lean LOADS. Nothing in Lean hashes anything: it is a label: what it is worth is what the hold of that sum in a sandbox is worth. -/
noncomputable def Tryz.pinned : Pinned := { name := "ytdmoejehiedihaagreat", sum := "77601c4cb103bb761f4f771e0cb018d2dbfdab9aec7dbde3b5b2847376fc384d", checked := Tryz.checked }
namespace Rows
def none {H : Type} : Left H := { results := [], args := [] }

/-- 'laws.FnSymEnd': WHATEVER THE INPUT: true; the input reads as it did. -/
def fnSymEndSpec : ChangeSpec := { name := "fnSymEnd", fn := fun _ => fun
  | [d] => { results := [.lit (.bool true)], args := [d] }
  | _ => none }
def fnSymEndRow : OpenClaim := { program := "ytdmoejehiedihaagreat", sum := "77601c4cb103bb761f4f771e0cb018d2dbfdab9aec7dbde3b5b2847376fc384d", func := "loop.example/latimer/laws.FnSymEnd", spec := "fnSymEnd", unfollowed := true, recurses := true, apart := false }
def FnSymEndSaid : Prop := fnSymEndRow.holds Tryz.pinned (OpenSpec.ofChange fnSymEndSpec)

/-- ITS FALSE NEIGHBOUR: 'it returns false'. Refute it at one input. -/
def fnSymEndWrong : ChangeSpec := { name := "fnSymEnd", fn := fun _ => fun
  | [d] => { results := [.lit (.bool false)], args := [d] }
  | _ => none }
def FnSymEndWrongFalsely : Prop := fnSymEndRow.holds Tryz.pinned (OpenSpec.ofChange fnSymEndWrong)

/-- 'laws.FnChkBytes': WHATEVER THE INPUT: true; the input reads as it did. -/
def fnChkBytesSpec : ChangeSpec := { name := "fnChkBytes", fn := fun _ => fun
  | [d] => { results := [.lit (.bool true)], args := [d] }
  | _ => none }
def fnChkBytesRow : OpenClaim := { program := "ytdmoejehiedihaagreat", sum := "77601c4cb103bb761f4f771e0cb018d2dbfdab9aec7dbde3b5b2847376fc384d", func := "loop.example/latimer/laws.FnChkBytes", spec := "fnChkBytes", unfollowed := true, recurses := true, apart := false }
def FnChkBytesSaid : Prop := fnChkBytesRow.holds Tryz.pinned (OpenSpec.ofChange fnChkBytesSpec)

/-- ITS FALSE NEIGHBOUR: 'it returns false'. Refute it at one input. -/
def fnChkBytesWrong : ChangeSpec := { name := "fnChkBytes", fn := fun _ => fun
  | [d] => { results := [.lit (.bool false)], args := [d] }
  | _ => none }
def FnChkBytesWrongFalsely : Prop := fnChkBytesRow.holds Tryz.pinned (OpenSpec.ofChange fnChkBytesWrong)

/- THE SECOND FORM. 'bulk': how many values and letters a reading holds, each counted each time it is reached (what is shared counts as often as it is met; a slice's spare places count too). A statement '..UptoSaid' is the law's where the arguments, and the package variables that the reading takes, are together of bulk at most 1048576: NARROWER than '..Said'. Prove '..Said' where nothing that the law and all that it calls make is longer than what came in: it says more and counts as full. Else prove '..UptoSaid'. A law counts once. -/
mutual
def uptoBulk {H : Type} : DataW H → Nat
  | .lit (.string bytes) => bytes.length + 1
  | .lit _ => 1
  | .nil => 1
  | .ptr d => uptoBulk d + 1
  | .slice elems spare => uptoBulkAll elems + uptoBulkAll spare + 1
  | .agg parts => uptoBulkAll parts + 1
  | .iface _ d => uptoBulk d + 1
  | .map entries => uptoBulkEntries entries + 1
  | .held _ => 1
def uptoBulkAll {H : Type} : List (DataW H) → Nat
  | [] => 0
  | d :: r => uptoBulk d + uptoBulkAll r
def uptoBulkEntries {H : Type} : List (Lit × DataW H) → Nat
  | [] => 0
  | x :: r => uptoBulkEntry x + uptoBulkEntries r
def uptoBulkEntry {H : Type} : Lit × DataW H → Nat
  | (.string bytes, d) => bytes.length + uptoBulk d + 1
  | (_, d) => uptoBulk d + 1
 end
def uptoSmall : (H : Type) → List (DataW H) → Bool := fun _ ds => decide (uptoBulkAll ds ≤ 1048576)
def OpenSpec.upto (s : _root_.Go.ChangeSpec) : _root_.Go.OpenSpec := { _root_.Go.OpenSpec.ofChange s with cond := some uptoSmall }

/-- 'laws.FnSymEnd', WHERE WHAT IT READS IS OF BULK AT MOST 1048576: true; the input reads as it did. -/
def fnSymEndUptoRow : OpenClaim := { program := "ytdmoejehiedihaagreat", sum := "77601c4cb103bb761f4f771e0cb018d2dbfdab9aec7dbde3b5b2847376fc384d", func := "loop.example/latimer/laws.FnSymEnd", spec := "fnSymEnd", unfollowed := true, recurses := true, apart := false, narrowed := true }
def FnSymEndUptoSaid : Prop := fnSymEndUptoRow.holds Tryz.pinned (OpenSpec.upto fnSymEndSpec)

/-- 'laws.FnChkBytes', WHERE WHAT IT READS IS OF BULK AT MOST 1048576: true; the input reads as it did. -/
def fnChkBytesUptoRow : OpenClaim := { program := "ytdmoejehiedihaagreat", sum := "77601c4cb103bb761f4f771e0cb018d2dbfdab9aec7dbde3b5b2847376fc384d", func := "loop.example/latimer/laws.FnChkBytes", spec := "fnChkBytes", unfollowed := true, recurses := true, apart := false, narrowed := true }
def FnChkBytesUptoSaid : Prop := fnChkBytesUptoRow.holds Tryz.pinned (OpenSpec.upto fnChkBytesSpec)

end Rows
end Go.Proofs.YtdmoejehiedihaaGreat

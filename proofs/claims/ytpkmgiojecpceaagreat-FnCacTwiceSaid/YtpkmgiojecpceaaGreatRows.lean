/-
  No cell of these rows narrows 'for every input' (looked for: loops, veiled, ifaces, maps, wideKeys, modest, calm, conditions, laid).
  DERIVED. THE GIVEN ROWS OF THIS SEAT. 4 by the template 'for every input the law returns true; each argument reads behind the call as it read before'; 0 by the template 'total and deterministic' (their statements: YtpkmgiojecpceaaGreatTotals.lean).
  GIVEN WITH THE SEED: the statements are not yours to turn. If you find one false, say at which input.
  Laid BY PROGRAM, IN A SANDBOX (cutbox-rows.mjs): the forced cells as the released guide's own fill.sh prints them over the translation 631b172527934c50… (all of the seat's roots in one cut). By AI agents, Wed Nov 11 2026. No macro, syntax, notation, axiom, sorry.
-/
import Derived.Test.YtpkmgiojecpceaaGreatChecked
import GoSem.Claim
import GoSem.ClaimJoined
import GoSem.ClaimMapViews
import Derived.JoinedTies
import Derived.KernelRfl
namespace Go.Proofs.YtpkmgiojecpceaaGreat
/- THE CELL 'sum', in the pinned program and in every row, IS THE sha256 OF THE DUMP (.gsa) THAT YtpkmgiojecpceaaGreatProg.lean LOADS. Nothing in Lean hashes anything: it is a label: what it is worth is what the hold of that sum in a sandbox is worth. -/
noncomputable def Tryz.pinned : Pinned := { name := "ytpkmgiojecpceaagreat", sum := "631b172527934c50ecea49fdc1af8d72f2754fc3aa369a5d44e18033718089c1", checked := Tryz.checked }
namespace Rows
def none {H : Type} : Left H := { results := [], args := [] }

/-- 'laws.FnCacFind': WHATEVER THE INPUT: true; the input reads as it did. -/
def fnCacFindSpec : ChangeSpec := { name := "fnCacFind", fn := fun _ => fun
  | [d] => { results := [.lit (.bool true)], args := [d] }
  | _ => none }
def fnCacFindRow : OpenClaim := { program := "ytpkmgiojecpceaagreat", sum := "631b172527934c50ecea49fdc1af8d72f2754fc3aa369a5d44e18033718089c1", func := "loop.example/latimer/laws.FnCacFind", spec := "fnCacFind", unfollowed := true, recurses := true, apart := false }
def FnCacFindSaid : Prop := fnCacFindRow.holds Tryz.pinned (OpenSpec.ofChange fnCacFindSpec)

/-- ITS FALSE NEIGHBOUR: 'it returns false'. Refute it at one input. -/
def fnCacFindWrong : ChangeSpec := { name := "fnCacFind", fn := fun _ => fun
  | [d] => { results := [.lit (.bool false)], args := [d] }
  | _ => none }
def FnCacFindWrongFalsely : Prop := fnCacFindRow.holds Tryz.pinned (OpenSpec.ofChange fnCacFindWrong)

/-- 'laws.FnCacPut': WHATEVER THE INPUT: true; the input reads as it did. -/
def fnCacPutSpec : ChangeSpec := { name := "fnCacPut", fn := fun _ => fun
  | [d] => { results := [.lit (.bool true)], args := [d] }
  | _ => none }
def fnCacPutRow : OpenClaim := { program := "ytpkmgiojecpceaagreat", sum := "631b172527934c50ecea49fdc1af8d72f2754fc3aa369a5d44e18033718089c1", func := "loop.example/latimer/laws.FnCacPut", spec := "fnCacPut", unfollowed := true, recurses := true, apart := false }
def FnCacPutSaid : Prop := fnCacPutRow.holds Tryz.pinned (OpenSpec.ofChange fnCacPutSpec)

/-- ITS FALSE NEIGHBOUR: 'it returns false'. Refute it at one input. -/
def fnCacPutWrong : ChangeSpec := { name := "fnCacPut", fn := fun _ => fun
  | [d] => { results := [.lit (.bool false)], args := [d] }
  | _ => none }
def FnCacPutWrongFalsely : Prop := fnCacPutRow.holds Tryz.pinned (OpenSpec.ofChange fnCacPutWrong)

/-- 'laws.FnCacDrop': WHATEVER THE INPUT: true; the input reads as it did. -/
def fnCacDropSpec : ChangeSpec := { name := "fnCacDrop", fn := fun _ => fun
  | [d] => { results := [.lit (.bool true)], args := [d] }
  | _ => none }
def fnCacDropRow : OpenClaim := { program := "ytpkmgiojecpceaagreat", sum := "631b172527934c50ecea49fdc1af8d72f2754fc3aa369a5d44e18033718089c1", func := "loop.example/latimer/laws.FnCacDrop", spec := "fnCacDrop", unfollowed := true, recurses := true, apart := false }
def FnCacDropSaid : Prop := fnCacDropRow.holds Tryz.pinned (OpenSpec.ofChange fnCacDropSpec)

/-- ITS FALSE NEIGHBOUR: 'it returns false'. Refute it at one input. -/
def fnCacDropWrong : ChangeSpec := { name := "fnCacDrop", fn := fun _ => fun
  | [d] => { results := [.lit (.bool false)], args := [d] }
  | _ => none }
def FnCacDropWrongFalsely : Prop := fnCacDropRow.holds Tryz.pinned (OpenSpec.ofChange fnCacDropWrong)

/-- 'laws.FnCacTwice': WHATEVER THE INPUT: true; the input reads as it did. -/
def fnCacTwiceSpec : ChangeSpec := { name := "fnCacTwice", fn := fun _ => fun
  | [d] => { results := [.lit (.bool true)], args := [d] }
  | _ => none }
def fnCacTwiceRow : OpenClaim := { program := "ytpkmgiojecpceaagreat", sum := "631b172527934c50ecea49fdc1af8d72f2754fc3aa369a5d44e18033718089c1", func := "loop.example/latimer/laws.FnCacTwice", spec := "fnCacTwice", unfollowed := true, recurses := true, apart := false }
def FnCacTwiceSaid : Prop := fnCacTwiceRow.holds Tryz.pinned (OpenSpec.ofChange fnCacTwiceSpec)

/-- ITS FALSE NEIGHBOUR: 'it returns false'. Refute it at one input. -/
def fnCacTwiceWrong : ChangeSpec := { name := "fnCacTwice", fn := fun _ => fun
  | [d] => { results := [.lit (.bool false)], args := [d] }
  | _ => none }
def FnCacTwiceWrongFalsely : Prop := fnCacTwiceRow.holds Tryz.pinned (OpenSpec.ofChange fnCacTwiceWrong)

/- THE SECOND FORM. 'bulk': how many values and letters a reading holds, each counted each time it is reached (what is shared counts as often as it is met; a slice's spare places count too). A statement '..UptoSaid' is the law's where the arguments, and the package variables that the reading takes, are together of bulk at most 1048576: NARROWER than '..Said'. Prove '..Said' where nothing that the law and all that it calls make is longer than what came in: it says more and counts as full. Else prove '..UptoSaid'. A law counts once. -/
mutual
def uptoBulk {H : Type} : DataW H → Nat
  | .lit (.string bytes) => bytes.length + 1
  | .lit _ => 1
  | .nil => 1
  | .ptr d => uptoBulk d + 1
  | .slice elems spare => uptoBulkAll elems + uptoBulkAll spare + 1
  | .agg parts => uptoBulkAll parts + 1
  | .iface _ d => uptoBulk d + 1
  | .map entries => uptoBulkEntries entries + 1
  | .held _ => 1
def uptoBulkAll {H : Type} : List (DataW H) → Nat
  | [] => 0
  | d :: r => uptoBulk d + uptoBulkAll r
def uptoBulkEntries {H : Type} : List (Lit × DataW H) → Nat
  | [] => 0
  | x :: r => uptoBulkEntry x + uptoBulkEntries r
def uptoBulkEntry {H : Type} : Lit × DataW H → Nat
  | (.string bytes, d) => bytes.length + uptoBulk d + 1
  | (_, d) => uptoBulk d + 1
 end
def uptoSmall : (H : Type) → List (DataW H) → Bool := fun _ ds => decide (uptoBulkAll ds ≤ 1048576)
def OpenSpec.upto (s : _root_.Go.ChangeSpec) : _root_.Go.OpenSpec := { _root_.Go.OpenSpec.ofChange s with cond := some uptoSmall }

/-- 'laws.FnCacFind', WHERE WHAT IT READS IS OF BULK AT MOST 1048576: true; the input reads as it did. -/
def fnCacFindUptoRow : OpenClaim := { program := "ytpkmgiojecpceaagreat", sum := "631b172527934c50ecea49fdc1af8d72f2754fc3aa369a5d44e18033718089c1", func := "loop.example/latimer/laws.FnCacFind", spec := "fnCacFind", unfollowed := true, recurses := true, apart := false, narrowed := true }
def FnCacFindUptoSaid : Prop := fnCacFindUptoRow.holds Tryz.pinned (OpenSpec.upto fnCacFindSpec)

/-- 'laws.FnCacPut', WHERE WHAT IT READS IS OF BULK AT MOST 1048576: true; the input reads as it did. -/
def fnCacPutUptoRow : OpenClaim := { program := "ytpkmgiojecpceaagreat", sum := "631b172527934c50ecea49fdc1af8d72f2754fc3aa369a5d44e18033718089c1", func := "loop.example/latimer/laws.FnCacPut", spec := "fnCacPut", unfollowed := true, recurses := true, apart := false, narrowed := true }
def FnCacPutUptoSaid : Prop := fnCacPutUptoRow.holds Tryz.pinned (OpenSpec.upto fnCacPutSpec)

/-- 'laws.FnCacDrop', WHERE WHAT IT READS IS OF BULK AT MOST 1048576: true; the input reads as it did. -/
def fnCacDropUptoRow : OpenClaim := { program := "ytpkmgiojecpceaagreat", sum := "631b172527934c50ecea49fdc1af8d72f2754fc3aa369a5d44e18033718089c1", func := "loop.example/latimer/laws.FnCacDrop", spec := "fnCacDrop", unfollowed := true, recurses := true, apart := false, narrowed := true }
def FnCacDropUptoSaid : Prop := fnCacDropUptoRow.holds Tryz.pinned (OpenSpec.upto fnCacDropSpec)

/-- 'laws.FnCacTwice', WHERE WHAT IT READS IS OF BULK AT MOST 1048576: true; the input reads as it did. -/
def fnCacTwiceUptoRow : OpenClaim := { program := "ytpkmgiojecpceaagreat", sum := "631b172527934c50ecea49fdc1af8d72f2754fc3aa369a5d44e18033718089c1", func := "loop.example/latimer/laws.FnCacTwice", spec := "fnCacTwice", unfollowed := true, recurses := true, apart := false, narrowed := true }
def FnCacTwiceUptoSaid : Prop := fnCacTwiceUptoRow.holds Tryz.pinned (OpenSpec.upto fnCacTwiceSpec)

end Rows
end Go.Proofs.YtpkmgiojecpceaaGreat

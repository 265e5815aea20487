/-
  No cell of these rows narrows 'for every input' (looked for: loops, veiled, ifaces, maps, wideKeys, modest, calm, conditions, laid).
  DERIVED. THE GIVEN ROWS OF THIS SEAT. 3 by the template 'for every input the law returns true; each argument reads behind the call as it read before'; 0 by the template 'total and deterministic' (their statements: YtlfjmffimnjcgaaGreatTotals.lean).
  GIVEN WITH THE SEED: the statements are not yours to turn. If you find one false, say at which input.
  Laid BY PROGRAM, IN A SANDBOX (cutbox-rows.mjs): the forced cells as the released guide's own fill.sh prints them over the translation a53613fb4678eaf8… (all of the seat's roots in one cut). By AI agents, Wed Nov 11 2026. No macro, syntax, notation, axiom, sorry.
-/
import Derived.Test.YtlfjmffimnjcgaaGreatChecked
import GoSem.Claim
import GoSem.ClaimJoined
import GoSem.ClaimMapViews
import Derived.JoinedTies
import Derived.KernelRfl
namespace Go.Proofs.YtlfjmffimnjcgaaGreat
/- THE CELL 'sum', in the pinned program and in every row, IS THE sha256 OF THE DUMP (.gsa) THAT YtlfjmffimnjcgaaGreatProg.lean LOADS. Nothing in Lean hashes anything: it is a label: what it is worth is what the hold of that sum in a sandbox is worth. -/
noncomputable def Tryz.pinned : Pinned := { name := "ytlfjmffimnjcgaagreat", sum := "a53613fb4678eaf8c83c6f936e8e243f6d09ed6738b9e382d34a2b94f669a721", checked := Tryz.checked }
namespace Rows
def none {H : Type} : Left H := { results := [], args := [] }

/-- 'laws.FnTabSwap': WHATEVER THE INPUT: true; the input reads as it did. -/
def fnTabSwapSpec : ChangeSpec := { name := "fnTabSwap", fn := fun _ => fun
  | [d] => { results := [.lit (.bool true)], args := [d] }
  | _ => none }
def fnTabSwapRow : OpenClaim := { program := "ytlfjmffimnjcgaagreat", sum := "a53613fb4678eaf8c83c6f936e8e243f6d09ed6738b9e382d34a2b94f669a721", func := "loop.example/latimer/laws.FnTabSwap", spec := "fnTabSwap", unfollowed := true, recurses := true, apart := false }
def FnTabSwapSaid : Prop := fnTabSwapRow.holds Tryz.pinned (OpenSpec.ofChange fnTabSwapSpec)

/-- ITS FALSE NEIGHBOUR: 'it returns false'. Refute it at one input. -/
def fnTabSwapWrong : ChangeSpec := { name := "fnTabSwap", fn := fun _ => fun
  | [d] => { results := [.lit (.bool false)], args := [d] }
  | _ => none }
def FnTabSwapWrongFalsely : Prop := fnTabSwapRow.holds Tryz.pinned (OpenSpec.ofChange fnTabSwapWrong)

/-- 'laws.FnTabPlain': WHATEVER THE INPUT: true; the input reads as it did. -/
def fnTabPlainSpec : ChangeSpec := { name := "fnTabPlain", fn := fun _ => fun
  | [d1, d2] => { results := [.lit (.bool true)], args := [d1, d2] }
  | _ => none }
def fnTabPlainRow : OpenClaim := { program := "ytlfjmffimnjcgaagreat", sum := "a53613fb4678eaf8c83c6f936e8e243f6d09ed6738b9e382d34a2b94f669a721", func := "loop.example/latimer/laws.FnTabPlain", spec := "fnTabPlain", unfollowed := true, recurses := true, apart := false }
def FnTabPlainSaid : Prop := fnTabPlainRow.holds Tryz.pinned (OpenSpec.ofChange fnTabPlainSpec)

/-- ITS FALSE NEIGHBOUR: 'it returns false'. Refute it at one input. -/
def fnTabPlainWrong : ChangeSpec := { name := "fnTabPlain", fn := fun _ => fun
  | [d1, d2] => { results := [.lit (.bool false)], args := [d1, d2] }
  | _ => none }
def FnTabPlainWrongFalsely : Prop := fnTabPlainRow.holds Tryz.pinned (OpenSpec.ofChange fnTabPlainWrong)

/-- 'laws.FnTabDo': WHATEVER THE INPUT: true; the input reads as it did. -/
def fnTabDoSpec : ChangeSpec := { name := "fnTabDo", fn := fun _ => fun
  | [d1, d2] => { results := [.lit (.bool true)], args := [d1, d2] }
  | _ => none }
def fnTabDoRow : OpenClaim := { program := "ytlfjmffimnjcgaagreat", sum := "a53613fb4678eaf8c83c6f936e8e243f6d09ed6738b9e382d34a2b94f669a721", func := "loop.example/latimer/laws.FnTabDo", spec := "fnTabDo", unfollowed := true, recurses := true, apart := false }
def FnTabDoSaid : Prop := fnTabDoRow.holds Tryz.pinned (OpenSpec.ofChange fnTabDoSpec)

/-- ITS FALSE NEIGHBOUR: 'it returns false'. Refute it at one input. -/
def fnTabDoWrong : ChangeSpec := { name := "fnTabDo", fn := fun _ => fun
  | [d1, d2] => { results := [.lit (.bool false)], args := [d1, d2] }
  | _ => none }
def FnTabDoWrongFalsely : Prop := fnTabDoRow.holds Tryz.pinned (OpenSpec.ofChange fnTabDoWrong)

/- THE SECOND FORM. 'bulk': how many values and letters a reading holds, each counted each time it is reached (what is shared counts as often as it is met; a slice's spare places count too). A statement '..UptoSaid' is the law's where the arguments, and the package variables that the reading takes, are together of bulk at most 1048576: NARROWER than '..Said'. Prove '..Said' where nothing that the law and all that it calls make is longer than what came in: it says more and counts as full. Else prove '..UptoSaid'. A law counts once. -/
mutual
def uptoBulk {H : Type} : DataW H → Nat
  | .lit (.string bytes) => bytes.length + 1
  | .lit _ => 1
  | .nil => 1
  | .ptr d => uptoBulk d + 1
  | .slice elems spare => uptoBulkAll elems + uptoBulkAll spare + 1
  | .agg parts => uptoBulkAll parts + 1
  | .iface _ d => uptoBulk d + 1
  | .map entries => uptoBulkEntries entries + 1
  | .held _ => 1
def uptoBulkAll {H : Type} : List (DataW H) → Nat
  | [] => 0
  | d :: r => uptoBulk d + uptoBulkAll r
def uptoBulkEntries {H : Type} : List (Lit × DataW H) → Nat
  | [] => 0
  | x :: r => uptoBulkEntry x + uptoBulkEntries r
def uptoBulkEntry {H : Type} : Lit × DataW H → Nat
  | (.string bytes, d) => bytes.length + uptoBulk d + 1
  | (_, d) => uptoBulk d + 1
 end
def uptoSmall : (H : Type) → List (DataW H) → Bool := fun _ ds => decide (uptoBulkAll ds ≤ 1048576)
def OpenSpec.upto (s : _root_.Go.ChangeSpec) : _root_.Go.OpenSpec := { _root_.Go.OpenSpec.ofChange s with cond := some uptoSmall }

/-- 'laws.FnTabSwap', WHERE WHAT IT READS IS OF BULK AT MOST 1048576: true; the input reads as it did. -/
def fnTabSwapUptoRow : OpenClaim := { program := "ytlfjmffimnjcgaagreat", sum := "a53613fb4678eaf8c83c6f936e8e243f6d09ed6738b9e382d34a2b94f669a721", func := "loop.example/latimer/laws.FnTabSwap", spec := "fnTabSwap", unfollowed := true, recurses := true, apart := false, narrowed := true }
def FnTabSwapUptoSaid : Prop := fnTabSwapUptoRow.holds Tryz.pinned (OpenSpec.upto fnTabSwapSpec)

/-- 'laws.FnTabPlain', WHERE WHAT IT READS IS OF BULK AT MOST 1048576: true; the input reads as it did. -/
def fnTabPlainUptoRow : OpenClaim := { program := "ytlfjmffimnjcgaagreat", sum := "a53613fb4678eaf8c83c6f936e8e243f6d09ed6738b9e382d34a2b94f669a721", func := "loop.example/latimer/laws.FnTabPlain", spec := "fnTabPlain", unfollowed := true, recurses := true, apart := false, narrowed := true }
def FnTabPlainUptoSaid : Prop := fnTabPlainUptoRow.holds Tryz.pinned (OpenSpec.upto fnTabPlainSpec)

/-- 'laws.FnTabDo', WHERE WHAT IT READS IS OF BULK AT MOST 1048576: true; the input reads as it did. -/
def fnTabDoUptoRow : OpenClaim := { program := "ytlfjmffimnjcgaagreat", sum := "a53613fb4678eaf8c83c6f936e8e243f6d09ed6738b9e382d34a2b94f669a721", func := "loop.example/latimer/laws.FnTabDo", spec := "fnTabDo", unfollowed := true, recurses := true, apart := false, narrowed := true }
def FnTabDoUptoSaid : Prop := fnTabDoUptoRow.holds Tryz.pinned (OpenSpec.upto fnTabDoSpec)

end Rows
end Go.Proofs.YtlfjmffimnjcgaaGreat

/-
  No cell of these rows narrows 'for every input' (looked for: loops, veiled, ifaces, maps, wideKeys, modest, calm, conditions, laid).
  DERIVED. THE GIVEN ROWS OF THIS SEAT. 3 by the template 'for every input the law returns true; each argument reads behind the call as it read before'; 0 by the template 'total and deterministic' (their statements: YtpijningoklkpaaGreatTotals.lean).
  GIVEN WITH THE SEED: the statements are not yours to turn. If you find one false, say at which input.
  Laid BY PROGRAM, IN A SANDBOX (cutbox-rows.mjs): the forced cells as the released guide's own fill.sh prints them over the translation a9c13b75ff88df0f… (all of the seat's roots in one cut). By AI agents, Wed Nov 11 2026. No macro, syntax, notation, axiom, sorry.
-/
import Derived.Test.YtpijningoklkpaaGreatChecked
import GoSem.Claim
import GoSem.ClaimJoined
import GoSem.ClaimMapViews
import Derived.JoinedTies
import Derived.KernelRfl
namespace Go.Proofs.YtpijningoklkpaaGreat
/- THE CELL 'sum', in the pinned program and in every row, IS THE sha256 OF THE DUMP (.gsa) THAT YtpijningoklkpaaGreatProg.lean LOADS. Nothing in Lean hashes anything: it is a label: what it is worth is what the hold of that sum in a sandbox is worth. -/
noncomputable def Tryz.pinned : Pinned := { name := "ytpijningoklkpaagreat", sum := "a9c13b75ff88df0fd1c2e6519a30ed8bb5fc9a1343d09782370f6821eab525ae", checked := Tryz.checked }
namespace Rows
def none {H : Type} : Left H := { results := [], args := [] }

/-- 'laws.FnExactChkSame': WHATEVER THE INPUT: true; the input reads as it did. -/
def fnExactChkSameSpec : ChangeSpec := { name := "fnExactChkSame", fn := fun _ => fun
  | [d1, d2] => { results := [.lit (.bool true)], args := [d1, d2] }
  | _ => none }
def fnExactChkSameRow : OpenClaim := { program := "ytpijningoklkpaagreat", sum := "a9c13b75ff88df0fd1c2e6519a30ed8bb5fc9a1343d09782370f6821eab525ae", func := "loop.example/latimer/laws.FnExactChkSame", spec := "fnExactChkSame", unfollowed := true, recurses := true, apart := false }
def FnExactChkSameSaid : Prop := fnExactChkSameRow.holds Tryz.pinned (OpenSpec.ofChange fnExactChkSameSpec)

/-- ITS FALSE NEIGHBOUR: 'it returns false'. Refute it at one input. -/
def fnExactChkSameWrong : ChangeSpec := { name := "fnExactChkSame", fn := fun _ => fun
  | [d1, d2] => { results := [.lit (.bool false)], args := [d1, d2] }
  | _ => none }
def FnExactChkSameWrongFalsely : Prop := fnExactChkSameRow.holds Tryz.pinned (OpenSpec.ofChange fnExactChkSameWrong)

/-- 'laws.FnExactCerOk': WHATEVER THE INPUT: true; the input reads as it did. -/
def fnExactCerOkSpec : ChangeSpec := { name := "fnExactCerOk", fn := fun _ => fun
  | [d] => { results := [.lit (.bool true)], args := [d] }
  | _ => none }
def fnExactCerOkRow : OpenClaim := { program := "ytpijningoklkpaagreat", sum := "a9c13b75ff88df0fd1c2e6519a30ed8bb5fc9a1343d09782370f6821eab525ae", func := "loop.example/latimer/laws.FnExactCerOk", spec := "fnExactCerOk", unfollowed := true, recurses := true, apart := false }
def FnExactCerOkSaid : Prop := fnExactCerOkRow.holds Tryz.pinned (OpenSpec.ofChange fnExactCerOkSpec)

/-- ITS FALSE NEIGHBOUR: 'it returns false'. Refute it at one input. -/
def fnExactCerOkWrong : ChangeSpec := { name := "fnExactCerOk", fn := fun _ => fun
  | [d] => { results := [.lit (.bool false)], args := [d] }
  | _ => none }
def FnExactCerOkWrongFalsely : Prop := fnExactCerOkRow.holds Tryz.pinned (OpenSpec.ofChange fnExactCerOkWrong)

/-- 'laws.FnCerPut': WHATEVER THE INPUT: true; the input reads as it did. -/
def fnCerPutSpec : ChangeSpec := { name := "fnCerPut", fn := fun _ => fun
  | [d] => { results := [.lit (.bool true)], args := [d] }
  | _ => none }
def fnCerPutRow : OpenClaim := { program := "ytpijningoklkpaagreat", sum := "a9c13b75ff88df0fd1c2e6519a30ed8bb5fc9a1343d09782370f6821eab525ae", func := "loop.example/latimer/laws.FnCerPut", spec := "fnCerPut", unfollowed := true, recurses := true, apart := false }
def FnCerPutSaid : Prop := fnCerPutRow.holds Tryz.pinned (OpenSpec.ofChange fnCerPutSpec)

/-- ITS FALSE NEIGHBOUR: 'it returns false'. Refute it at one input. -/
def fnCerPutWrong : ChangeSpec := { name := "fnCerPut", fn := fun _ => fun
  | [d] => { results := [.lit (.bool false)], args := [d] }
  | _ => none }
def FnCerPutWrongFalsely : Prop := fnCerPutRow.holds Tryz.pinned (OpenSpec.ofChange fnCerPutWrong)

/- THE SECOND FORM. 'bulk': how many values and letters a reading holds, each counted each time it is reached (what is shared counts as often as it is met; a slice's spare places count too). A statement '..UptoSaid' is the law's where the arguments, and the package variables that the reading takes, are together of bulk at most 1048576: NARROWER than '..Said'. Prove '..Said' where nothing that the law and all that it calls make is longer than what came in: it says more and counts as full. Else prove '..UptoSaid'. A law counts once. -/
mutual
def uptoBulk {H : Type} : DataW H → Nat
  | .lit (.string bytes) => bytes.length + 1
  | .lit _ => 1
  | .nil => 1
  | .ptr d => uptoBulk d + 1
  | .slice elems spare => uptoBulkAll elems + uptoBulkAll spare + 1
  | .agg parts => uptoBulkAll parts + 1
  | .iface _ d => uptoBulk d + 1
  | .map entries => uptoBulkEntries entries + 1
  | .held _ => 1
def uptoBulkAll {H : Type} : List (DataW H) → Nat
  | [] => 0
  | d :: r => uptoBulk d + uptoBulkAll r
def uptoBulkEntries {H : Type} : List (Lit × DataW H) → Nat
  | [] => 0
  | x :: r => uptoBulkEntry x + uptoBulkEntries r
def uptoBulkEntry {H : Type} : Lit × DataW H → Nat
  | (.string bytes, d) => bytes.length + uptoBulk d + 1
  | (_, d) => uptoBulk d + 1
 end
def uptoSmall : (H : Type) → List (DataW H) → Bool := fun _ ds => decide (uptoBulkAll ds ≤ 1048576)
def OpenSpec.upto (s : _root_.Go.ChangeSpec) : _root_.Go.OpenSpec := { _root_.Go.OpenSpec.ofChange s with cond := some uptoSmall }

/-- 'laws.FnExactChkSame', WHERE WHAT IT READS IS OF BULK AT MOST 1048576: true; the input reads as it did. -/
def fnExactChkSameUptoRow : OpenClaim := { program := "ytpijningoklkpaagreat", sum := "a9c13b75ff88df0fd1c2e6519a30ed8bb5fc9a1343d09782370f6821eab525ae", func := "loop.example/latimer/laws.FnExactChkSame", spec := "fnExactChkSame", unfollowed := true, recurses := true, apart := false, narrowed := true }
def FnExactChkSameUptoSaid : Prop := fnExactChkSameUptoRow.holds Tryz.pinned (OpenSpec.upto fnExactChkSameSpec)

/-- 'laws.FnExactCerOk', WHERE WHAT IT READS IS OF BULK AT MOST 1048576: true; the input reads as it did. -/
def fnExactCerOkUptoRow : OpenClaim := { program := "ytpijningoklkpaagreat", sum := "a9c13b75ff88df0fd1c2e6519a30ed8bb5fc9a1343d09782370f6821eab525ae", func := "loop.example/latimer/laws.FnExactCerOk", spec := "fnExactCerOk", unfollowed := true, recurses := true, apart := false, narrowed := true }
def FnExactCerOkUptoSaid : Prop := fnExactCerOkUptoRow.holds Tryz.pinned (OpenSpec.upto fnExactCerOkSpec)

/-- 'laws.FnCerPut', WHERE WHAT IT READS IS OF BULK AT MOST 1048576: true; the input reads as it did. -/
def fnCerPutUptoRow : OpenClaim := { program := "ytpijningoklkpaagreat", sum := "a9c13b75ff88df0fd1c2e6519a30ed8bb5fc9a1343d09782370f6821eab525ae", func := "loop.example/latimer/laws.FnCerPut", spec := "fnCerPut", unfollowed := true, recurses := true, apart := false, narrowed := true }
def FnCerPutUptoSaid : Prop := fnCerPutUptoRow.holds Tryz.pinned (OpenSpec.upto fnCerPutSpec)

end Rows
end Go.Proofs.YtpijningoklkpaaGreat

/-
  No cell of these rows narrows 'for every input' (looked for: loops, veiled, ifaces, maps, wideKeys, modest, calm, conditions, laid).
  DERIVED. THE GIVEN ROWS OF THIS SEAT. 12 by the template 'for every input the law returns true; each argument reads behind the call as it read before'; 0 by the template 'total and deterministic' (their statements: YtkecklmejhogoaaGreatTotals.lean).
  GIVEN WITH THE SEED: the statements are not yours to turn. If you find one false, say at which input.
  Laid BY PROGRAM, IN A SANDBOX (cutbox-rows.mjs): the forced cells as the released guide's own fill.sh prints them over the translation 35f8c26578acffd4… (all of the seat's roots in one cut). By AI agents, Wed Nov 11 2026. No macro, syntax, notation, axiom, sorry.
-/
import Derived.Test.YtkecklmejhogoaaGreatChecked
import GoSem.Claim
import GoSem.ClaimJoined
import GoSem.ClaimMapViews
import Derived.JoinedTies
import Derived.KernelRfl
namespace Go.Proofs.YtkecklmejhogoaaGreat
/- THE CELL 'sum', in the pinned program and in every row, IS THE sha256 OF THE DUMP (.gsa) THAT YtkecklmejhogoaaGreatProg.lean LOADS. Nothing in Lean hashes anything: it is a label: what it is worth is what the hold of that sum in a sandbox is worth. -/
noncomputable def Tryz.pinned : Pinned := { name := "ytkecklmejhogoaagreat", sum := "35f8c26578acffd4fc484f6c4c3649c820e13e870370d8f0e87a6c089ad0baa7", checked := Tryz.checked }
namespace Rows
def none {H : Type} : Left H := { results := [], args := [] }

/-- 'laws.FnOptCopy': WHATEVER THE INPUT: true; the input reads as it did. -/
def fnOptCopySpec : ChangeSpec := { name := "fnOptCopy", fn := fun _ => fun
  | [d] => { results := [.lit (.bool true)], args := [d] }
  | _ => none }
def fnOptCopyRow : OpenClaim := { program := "ytkecklmejhogoaagreat", sum := "35f8c26578acffd4fc484f6c4c3649c820e13e870370d8f0e87a6c089ad0baa7", func := "loop.example/latimer/laws.FnOptCopy", spec := "fnOptCopy", unfollowed := true, recurses := true, apart := false }
def FnOptCopySaid : Prop := fnOptCopyRow.holds Tryz.pinned (OpenSpec.ofChange fnOptCopySpec)

/-- ITS FALSE NEIGHBOUR: 'it returns false'. Refute it at one input. -/
def fnOptCopyWrong : ChangeSpec := { name := "fnOptCopy", fn := fun _ => fun
  | [d] => { results := [.lit (.bool false)], args := [d] }
  | _ => none }
def FnOptCopyWrongFalsely : Prop := fnOptCopyRow.holds Tryz.pinned (OpenSpec.ofChange fnOptCopyWrong)

/-- 'laws.FnOptAll': WHATEVER THE INPUT: true; the input reads as it did. -/
def fnOptAllSpec : ChangeSpec := { name := "fnOptAll", fn := fun _ => fun
  | [d] => { results := [.lit (.bool true)], args := [d] }
  | _ => none }
def fnOptAllRow : OpenClaim := { program := "ytkecklmejhogoaagreat", sum := "35f8c26578acffd4fc484f6c4c3649c820e13e870370d8f0e87a6c089ad0baa7", func := "loop.example/latimer/laws.FnOptAll", spec := "fnOptAll", unfollowed := true, recurses := true, apart := false }
def FnOptAllSaid : Prop := fnOptAllRow.holds Tryz.pinned (OpenSpec.ofChange fnOptAllSpec)

/-- ITS FALSE NEIGHBOUR: 'it returns false'. Refute it at one input. -/
def fnOptAllWrong : ChangeSpec := { name := "fnOptAll", fn := fun _ => fun
  | [d] => { results := [.lit (.bool false)], args := [d] }
  | _ => none }
def FnOptAllWrongFalsely : Prop := fnOptAllRow.holds Tryz.pinned (OpenSpec.ofChange fnOptAllWrong)

/-- 'laws.FnCerHas': WHATEVER THE INPUT: true; the input reads as it did. -/
def fnCerHasSpec : ChangeSpec := { name := "fnCerHas", fn := fun _ => fun
  | [d] => { results := [.lit (.bool true)], args := [d] }
  | _ => none }
def fnCerHasRow : OpenClaim := { program := "ytkecklmejhogoaagreat", sum := "35f8c26578acffd4fc484f6c4c3649c820e13e870370d8f0e87a6c089ad0baa7", func := "loop.example/latimer/laws.FnCerHas", spec := "fnCerHas", unfollowed := true, recurses := true, apart := false }
def FnCerHasSaid : Prop := fnCerHasRow.holds Tryz.pinned (OpenSpec.ofChange fnCerHasSpec)

/-- ITS FALSE NEIGHBOUR: 'it returns false'. Refute it at one input. -/
def fnCerHasWrong : ChangeSpec := { name := "fnCerHas", fn := fun _ => fun
  | [d] => { results := [.lit (.bool false)], args := [d] }
  | _ => none }
def FnCerHasWrongFalsely : Prop := fnCerHasRow.holds Tryz.pinned (OpenSpec.ofChange fnCerHasWrong)

/-- 'laws.FnOptTwice': WHATEVER THE INPUT: true; the input reads as it did. -/
def fnOptTwiceSpec : ChangeSpec := { name := "fnOptTwice", fn := fun _ => fun
  | [d] => { results := [.lit (.bool true)], args := [d] }
  | _ => none }
def fnOptTwiceRow : OpenClaim := { program := "ytkecklmejhogoaagreat", sum := "35f8c26578acffd4fc484f6c4c3649c820e13e870370d8f0e87a6c089ad0baa7", func := "loop.example/latimer/laws.FnOptTwice", spec := "fnOptTwice", unfollowed := true, recurses := true, apart := false }
def FnOptTwiceSaid : Prop := fnOptTwiceRow.holds Tryz.pinned (OpenSpec.ofChange fnOptTwiceSpec)

/-- ITS FALSE NEIGHBOUR: 'it returns false'. Refute it at one input. -/
def fnOptTwiceWrong : ChangeSpec := { name := "fnOptTwice", fn := fun _ => fun
  | [d] => { results := [.lit (.bool false)], args := [d] }
  | _ => none }
def FnOptTwiceWrongFalsely : Prop := fnOptTwiceRow.holds Tryz.pinned (OpenSpec.ofChange fnOptTwiceWrong)

/-- 'laws.FnOptAny': WHATEVER THE INPUT: true; the input reads as it did. -/
def fnOptAnySpec : ChangeSpec := { name := "fnOptAny", fn := fun _ => fun
  | [d] => { results := [.lit (.bool true)], args := [d] }
  | _ => none }
def fnOptAnyRow : OpenClaim := { program := "ytkecklmejhogoaagreat", sum := "35f8c26578acffd4fc484f6c4c3649c820e13e870370d8f0e87a6c089ad0baa7", func := "loop.example/latimer/laws.FnOptAny", spec := "fnOptAny", unfollowed := true, recurses := true, apart := false }
def FnOptAnySaid : Prop := fnOptAnyRow.holds Tryz.pinned (OpenSpec.ofChange fnOptAnySpec)

/-- ITS FALSE NEIGHBOUR: 'it returns false'. Refute it at one input. -/
def fnOptAnyWrong : ChangeSpec := { name := "fnOptAny", fn := fun _ => fun
  | [d] => { results := [.lit (.bool false)], args := [d] }
  | _ => none }
def FnOptAnyWrongFalsely : Prop := fnOptAnyRow.holds Tryz.pinned (OpenSpec.ofChange fnOptAnyWrong)

/-- 'laws.FnChkOn': WHATEVER THE INPUT: true; the input reads as it did. -/
def fnChkOnSpec : ChangeSpec := { name := "fnChkOn", fn := fun _ => fun
  | [d] => { results := [.lit (.bool true)], args := [d] }
  | _ => none }
def fnChkOnRow : OpenClaim := { program := "ytkecklmejhogoaagreat", sum := "35f8c26578acffd4fc484f6c4c3649c820e13e870370d8f0e87a6c089ad0baa7", func := "loop.example/latimer/laws.FnChkOn", spec := "fnChkOn", unfollowed := true, recurses := true, apart := false }
def FnChkOnSaid : Prop := fnChkOnRow.holds Tryz.pinned (OpenSpec.ofChange fnChkOnSpec)

/-- ITS FALSE NEIGHBOUR: 'it returns false'. Refute it at one input. -/
def fnChkOnWrong : ChangeSpec := { name := "fnChkOn", fn := fun _ => fun
  | [d] => { results := [.lit (.bool false)], args := [d] }
  | _ => none }
def FnChkOnWrongFalsely : Prop := fnChkOnRow.holds Tryz.pinned (OpenSpec.ofChange fnChkOnWrong)

/-- 'laws.FnChkSelf': WHATEVER THE INPUT: true; the input reads as it did. -/
def fnChkSelfSpec : ChangeSpec := { name := "fnChkSelf", fn := fun _ => fun
  | [d] => { results := [.lit (.bool true)], args := [d] }
  | _ => none }
def fnChkSelfRow : OpenClaim := { program := "ytkecklmejhogoaagreat", sum := "35f8c26578acffd4fc484f6c4c3649c820e13e870370d8f0e87a6c089ad0baa7", func := "loop.example/latimer/laws.FnChkSelf", spec := "fnChkSelf", unfollowed := true, recurses := true, apart := false }
def FnChkSelfSaid : Prop := fnChkSelfRow.holds Tryz.pinned (OpenSpec.ofChange fnChkSelfSpec)

/-- ITS FALSE NEIGHBOUR: 'it returns false'. Refute it at one input. -/
def fnChkSelfWrong : ChangeSpec := { name := "fnChkSelf", fn := fun _ => fun
  | [d] => { results := [.lit (.bool false)], args := [d] }
  | _ => none }
def FnChkSelfWrongFalsely : Prop := fnChkSelfRow.holds Tryz.pinned (OpenSpec.ofChange fnChkSelfWrong)

/-- 'laws.FnCacFind': WHATEVER THE INPUT: true; the input reads as it did. -/
def fnCacFindSpec : ChangeSpec := { name := "fnCacFind", fn := fun _ => fun
  | [d] => { results := [.lit (.bool true)], args := [d] }
  | _ => none }
def fnCacFindRow : OpenClaim := { program := "ytkecklmejhogoaagreat", sum := "35f8c26578acffd4fc484f6c4c3649c820e13e870370d8f0e87a6c089ad0baa7", func := "loop.example/latimer/laws.FnCacFind", spec := "fnCacFind", unfollowed := true, recurses := true, apart := false }
def FnCacFindSaid : Prop := fnCacFindRow.holds Tryz.pinned (OpenSpec.ofChange fnCacFindSpec)

/-- ITS FALSE NEIGHBOUR: 'it returns false'. Refute it at one input. -/
def fnCacFindWrong : ChangeSpec := { name := "fnCacFind", fn := fun _ => fun
  | [d] => { results := [.lit (.bool false)], args := [d] }
  | _ => none }
def FnCacFindWrongFalsely : Prop := fnCacFindRow.holds Tryz.pinned (OpenSpec.ofChange fnCacFindWrong)

/-- 'laws.FnCacPut': WHATEVER THE INPUT: true; the input reads as it did. -/
def fnCacPutSpec : ChangeSpec := { name := "fnCacPut", fn := fun _ => fun
  | [d] => { results := [.lit (.bool true)], args := [d] }
  | _ => none }
def fnCacPutRow : OpenClaim := { program := "ytkecklmejhogoaagreat", sum := "35f8c26578acffd4fc484f6c4c3649c820e13e870370d8f0e87a6c089ad0baa7", func := "loop.example/latimer/laws.FnCacPut", spec := "fnCacPut", unfollowed := true, recurses := true, apart := false }
def FnCacPutSaid : Prop := fnCacPutRow.holds Tryz.pinned (OpenSpec.ofChange fnCacPutSpec)

/-- ITS FALSE NEIGHBOUR: 'it returns false'. Refute it at one input. -/
def fnCacPutWrong : ChangeSpec := { name := "fnCacPut", fn := fun _ => fun
  | [d] => { results := [.lit (.bool false)], args := [d] }
  | _ => none }
def FnCacPutWrongFalsely : Prop := fnCacPutRow.holds Tryz.pinned (OpenSpec.ofChange fnCacPutWrong)

/-- 'laws.FnCacDrop': WHATEVER THE INPUT: true; the input reads as it did. -/
def fnCacDropSpec : ChangeSpec := { name := "fnCacDrop", fn := fun _ => fun
  | [d] => { results := [.lit (.bool true)], args := [d] }
  | _ => none }
def fnCacDropRow : OpenClaim := { program := "ytkecklmejhogoaagreat", sum := "35f8c26578acffd4fc484f6c4c3649c820e13e870370d8f0e87a6c089ad0baa7", func := "loop.example/latimer/laws.FnCacDrop", spec := "fnCacDrop", unfollowed := true, recurses := true, apart := false }
def FnCacDropSaid : Prop := fnCacDropRow.holds Tryz.pinned (OpenSpec.ofChange fnCacDropSpec)

/-- ITS FALSE NEIGHBOUR: 'it returns false'. Refute it at one input. -/
def fnCacDropWrong : ChangeSpec := { name := "fnCacDrop", fn := fun _ => fun
  | [d] => { results := [.lit (.bool false)], args := [d] }
  | _ => none }
def FnCacDropWrongFalsely : Prop := fnCacDropRow.holds Tryz.pinned (OpenSpec.ofChange fnCacDropWrong)

/-- 'laws.FnCacTwice': WHATEVER THE INPUT: true; the input reads as it did. -/
def fnCacTwiceSpec : ChangeSpec := { name := "fnCacTwice", fn := fun _ => fun
  | [d] => { results := [.lit (.bool true)], args := [d] }
  | _ => none }
def fnCacTwiceRow : OpenClaim := { program := "ytkecklmejhogoaagreat", sum := "35f8c26578acffd4fc484f6c4c3649c820e13e870370d8f0e87a6c089ad0baa7", func := "loop.example/latimer/laws.FnCacTwice", spec := "fnCacTwice", unfollowed := true, recurses := true, apart := false }
def FnCacTwiceSaid : Prop := fnCacTwiceRow.holds Tryz.pinned (OpenSpec.ofChange fnCacTwiceSpec)

/-- ITS FALSE NEIGHBOUR: 'it returns false'. Refute it at one input. -/
def fnCacTwiceWrong : ChangeSpec := { name := "fnCacTwice", fn := fun _ => fun
  | [d] => { results := [.lit (.bool false)], args := [d] }
  | _ => none }
def FnCacTwiceWrongFalsely : Prop := fnCacTwiceRow.holds Tryz.pinned (OpenSpec.ofChange fnCacTwiceWrong)

/-- 'laws.FnCerPut': WHATEVER THE INPUT: true; the input reads as it did. -/
def fnCerPutSpec : ChangeSpec := { name := "fnCerPut", fn := fun _ => fun
  | [d] => { results := [.lit (.bool true)], args := [d] }
  | _ => none }
def fnCerPutRow : OpenClaim := { program := "ytkecklmejhogoaagreat", sum := "35f8c26578acffd4fc484f6c4c3649c820e13e870370d8f0e87a6c089ad0baa7", func := "loop.example/latimer/laws.FnCerPut", spec := "fnCerPut", unfollowed := true, recurses := true, apart := false }
def FnCerPutSaid : Prop := fnCerPutRow.holds Tryz.pinned (OpenSpec.ofChange fnCerPutSpec)

/-- ITS FALSE NEIGHBOUR: 'it returns false'. Refute it at one input. -/
def fnCerPutWrong : ChangeSpec := { name := "fnCerPut", fn := fun _ => fun
  | [d] => { results := [.lit (.bool false)], args := [d] }
  | _ => none }
def FnCerPutWrongFalsely : Prop := fnCerPutRow.holds Tryz.pinned (OpenSpec.ofChange fnCerPutWrong)

/- THE SECOND FORM. 'bulk': how many values and letters a reading holds, each counted each time it is reached (what is shared counts as often as it is met; a slice's spare places count too). A statement '..UptoSaid' is the law's where the arguments, and the package variables that the reading takes, are together of bulk at most 1048576: NARROWER than '..Said'. Prove '..Said' where nothing that the law and all that it calls make is longer than what came in: it says more and counts as full. Else prove '..UptoSaid'. A law counts once. -/
mutual
def uptoBulk {H : Type} : DataW H → Nat
  | .lit (.string bytes) => bytes.length + 1
  | .lit _ => 1
  | .nil => 1
  | .ptr d => uptoBulk d + 1
  | .slice elems spare => uptoBulkAll elems + uptoBulkAll spare + 1
  | .agg parts => uptoBulkAll parts + 1
  | .iface _ d => uptoBulk d + 1
  | .map entries => uptoBulkEntries entries + 1
  | .held _ => 1
def uptoBulkAll {H : Type} : List (DataW H) → Nat
  | [] => 0
  | d :: r => uptoBulk d + uptoBulkAll r
def uptoBulkEntries {H : Type} : List (Lit × DataW H) → Nat
  | [] => 0
  | x :: r => uptoBulkEntry x + uptoBulkEntries r
def uptoBulkEntry {H : Type} : Lit × DataW H → Nat
  | (.string bytes, d) => bytes.length + uptoBulk d + 1
  | (_, d) => uptoBulk d + 1
 end
def uptoSmall : (H : Type) → List (DataW H) → Bool := fun _ ds => decide (uptoBulkAll ds ≤ 1048576)
def OpenSpec.upto (s : _root_.Go.ChangeSpec) : _root_.Go.OpenSpec := { _root_.Go.OpenSpec.ofChange s with cond := some uptoSmall }

/-- 'laws.FnOptCopy', WHERE WHAT IT READS IS OF BULK AT MOST 1048576: true; the input reads as it did. -/
def fnOptCopyUptoRow : OpenClaim := { program := "ytkecklmejhogoaagreat", sum := "35f8c26578acffd4fc484f6c4c3649c820e13e870370d8f0e87a6c089ad0baa7", func := "loop.example/latimer/laws.FnOptCopy", spec := "fnOptCopy", unfollowed := true, recurses := true, apart := false, narrowed := true }
def FnOptCopyUptoSaid : Prop := fnOptCopyUptoRow.holds Tryz.pinned (OpenSpec.upto fnOptCopySpec)

/-- 'laws.FnOptAll', WHERE WHAT IT READS IS OF BULK AT MOST 1048576: true; the input reads as it did. -/
def fnOptAllUptoRow : OpenClaim := { program := "ytkecklmejhogoaagreat", sum := "35f8c26578acffd4fc484f6c4c3649c820e13e870370d8f0e87a6c089ad0baa7", func := "loop.example/latimer/laws.FnOptAll", spec := "fnOptAll", unfollowed := true, recurses := true, apart := false, narrowed := true }
def FnOptAllUptoSaid : Prop := fnOptAllUptoRow.holds Tryz.pinned (OpenSpec.upto fnOptAllSpec)

/-- 'laws.FnCerHas', WHERE WHAT IT READS IS OF BULK AT MOST 1048576: true; the input reads as it did. -/
def fnCerHasUptoRow : OpenClaim := { program := "ytkecklmejhogoaagreat", sum := "35f8c26578acffd4fc484f6c4c3649c820e13e870370d8f0e87a6c089ad0baa7", func := "loop.example/latimer/laws.FnCerHas", spec := "fnCerHas", unfollowed := true, recurses := true, apart := false, narrowed := true }
def FnCerHasUptoSaid : Prop := fnCerHasUptoRow.holds Tryz.pinned (OpenSpec.upto fnCerHasSpec)

/-- 'laws.FnOptTwice', WHERE WHAT IT READS IS OF BULK AT MOST 1048576: true; the input reads as it did. -/
def fnOptTwiceUptoRow : OpenClaim := { program := "ytkecklmejhogoaagreat", sum := "35f8c26578acffd4fc484f6c4c3649c820e13e870370d8f0e87a6c089ad0baa7", func := "loop.example/latimer/laws.FnOptTwice", spec := "fnOptTwice", unfollowed := true, recurses := true, apart := false, narrowed := true }
def FnOptTwiceUptoSaid : Prop := fnOptTwiceUptoRow.holds Tryz.pinned (OpenSpec.upto fnOptTwiceSpec)

/-- 'laws.FnOptAny', WHERE WHAT IT READS IS OF BULK AT MOST 1048576: true; the input reads as it did. -/
def fnOptAnyUptoRow : OpenClaim := { program := "ytkecklmejhogoaagreat", sum := "35f8c26578acffd4fc484f6c4c3649c820e13e870370d8f0e87a6c089ad0baa7", func := "loop.example/latimer/laws.FnOptAny", spec := "fnOptAny", unfollowed := true, recurses := true, apart := false, narrowed := true }
def FnOptAnyUptoSaid : Prop := fnOptAnyUptoRow.holds Tryz.pinned (OpenSpec.upto fnOptAnySpec)

/-- 'laws.FnChkOn', WHERE WHAT IT READS IS OF BULK AT MOST 1048576: true; the input reads as it did. -/
def fnChkOnUptoRow : OpenClaim := { program := "ytkecklmejhogoaagreat", sum := "35f8c26578acffd4fc484f6c4c3649c820e13e870370d8f0e87a6c089ad0baa7", func := "loop.example/latimer/laws.FnChkOn", spec := "fnChkOn", unfollowed := true, recurses := true, apart := false, narrowed := true }
def FnChkOnUptoSaid : Prop := fnChkOnUptoRow.holds Tryz.pinned (OpenSpec.upto fnChkOnSpec)

/-- 'laws.FnChkSelf', WHERE WHAT IT READS IS OF BULK AT MOST 1048576: true; the input reads as it did. -/
def fnChkSelfUptoRow : OpenClaim := { program := "ytkecklmejhogoaagreat", sum := "35f8c26578acffd4fc484f6c4c3649c820e13e870370d8f0e87a6c089ad0baa7", func := "loop.example/latimer/laws.FnChkSelf", spec := "fnChkSelf", unfollowed := true, recurses := true, apart := false, narrowed := true }
def FnChkSelfUptoSaid : Prop := fnChkSelfUptoRow.holds Tryz.pinned (OpenSpec.upto fnChkSelfSpec)

/-- 'laws.FnCacFind', WHERE WHAT IT READS IS OF BULK AT MOST 1048576: true; the input reads as it did. -/
def fnCacFindUptoRow : OpenClaim := { program := "ytkecklmejhogoaagreat", sum := "35f8c26578acffd4fc484f6c4c3649c820e13e870370d8f0e87a6c089ad0baa7", func := "loop.example/latimer/laws.FnCacFind", spec := "fnCacFind", unfollowed := true, recurses := true, apart := false, narrowed := true }
def FnCacFindUptoSaid : Prop := fnCacFindUptoRow.holds Tryz.pinned (OpenSpec.upto fnCacFindSpec)

/-- 'laws.FnCacPut', WHERE WHAT IT READS IS OF BULK AT MOST 1048576: true; the input reads as it did. -/
def fnCacPutUptoRow : OpenClaim := { program := "ytkecklmejhogoaagreat", sum := "35f8c26578acffd4fc484f6c4c3649c820e13e870370d8f0e87a6c089ad0baa7", func := "loop.example/latimer/laws.FnCacPut", spec := "fnCacPut", unfollowed := true, recurses := true, apart := false, narrowed := true }
def FnCacPutUptoSaid : Prop := fnCacPutUptoRow.holds Tryz.pinned (OpenSpec.upto fnCacPutSpec)

/-- 'laws.FnCacDrop', WHERE WHAT IT READS IS OF BULK AT MOST 1048576: true; the input reads as it did. -/
def fnCacDropUptoRow : OpenClaim := { program := "ytkecklmejhogoaagreat", sum := "35f8c26578acffd4fc484f6c4c3649c820e13e870370d8f0e87a6c089ad0baa7", func := "loop.example/latimer/laws.FnCacDrop", spec := "fnCacDrop", unfollowed := true, recurses := true, apart := false, narrowed := true }
def FnCacDropUptoSaid : Prop := fnCacDropUptoRow.holds Tryz.pinned (OpenSpec.upto fnCacDropSpec)

/-- 'laws.FnCacTwice', WHERE WHAT IT READS IS OF BULK AT MOST 1048576: true; the input reads as it did. -/
def fnCacTwiceUptoRow : OpenClaim := { program := "ytkecklmejhogoaagreat", sum := "35f8c26578acffd4fc484f6c4c3649c820e13e870370d8f0e87a6c089ad0baa7", func := "loop.example/latimer/laws.FnCacTwice", spec := "fnCacTwice", unfollowed := true, recurses := true, apart := false, narrowed := true }
def FnCacTwiceUptoSaid : Prop := fnCacTwiceUptoRow.holds Tryz.pinned (OpenSpec.upto fnCacTwiceSpec)

/-- 'laws.FnCerPut', WHERE WHAT IT READS IS OF BULK AT MOST 1048576: true; the input reads as it did. -/
def fnCerPutUptoRow : OpenClaim := { program := "ytkecklmejhogoaagreat", sum := "35f8c26578acffd4fc484f6c4c3649c820e13e870370d8f0e87a6c089ad0baa7", func := "loop.example/latimer/laws.FnCerPut", spec := "fnCerPut", unfollowed := true, recurses := true, apart := false, narrowed := true }
def FnCerPutUptoSaid : Prop := fnCerPutUptoRow.holds Tryz.pinned (OpenSpec.upto fnCerPutSpec)

end Rows
end Go.Proofs.YtkecklmejhogoaaGreat

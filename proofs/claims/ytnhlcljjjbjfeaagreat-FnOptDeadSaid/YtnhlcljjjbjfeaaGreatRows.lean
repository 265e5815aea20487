/-
  No cell of these rows narrows 'for every input' (looked for: loops, veiled, ifaces, maps, wideKeys, modest, calm, conditions, laid).
  DERIVED. THE GIVEN ROWS OF THIS SEAT. 12 by the template 'for every input the law returns true; each argument reads behind the call as it read before'; 0 by the template 'total and deterministic' (their statements: YtnhlcljjjbjfeaaGreatTotals.lean).
  GIVEN WITH THE SEED: the statements are not yours to turn. If you find one false, say at which input.
  Laid BY PROGRAM, IN A SANDBOX (cutbox-rows.mjs): the forced cells as the released guide's own fill.sh prints them over the translation bfe3ccb8d94ea065… (all of the seat's roots in one cut). By AI agents, Wed Nov 11 2026. No macro, syntax, notation, axiom, sorry.
-/
import Derived.Test.YtnhlcljjjbjfeaaGreatChecked
import GoSem.Claim
import GoSem.ClaimJoined
import GoSem.ClaimMapViews
import Derived.JoinedTies
import Derived.KernelRfl
namespace Go.Proofs.YtnhlcljjjbjfeaaGreat
/- THE CELL 'sum', in the pinned program and in every row, IS THE sha256 OF THE DUMP (.gsa) THAT YtnhlcljjjbjfeaaGreatProg.lean LOADS. Nothing in Lean hashes anything: it is a label: what it is worth is what the hold of that sum in a sandbox is worth. -/
noncomputable def Tryz.pinned : Pinned := { name := "ytnhlcljjjbjfeaagreat", sum := "bfe3ccb8d94ea065c656f752cdd1f7efe76c2536625bd1e5e795c35165bd1a48", checked := Tryz.checked }
namespace Rows
def none {H : Type} : Left H := { results := [], args := [] }

/-- 'laws.FnSymEnd': WHATEVER THE INPUT: true; the input reads as it did. -/
def fnSymEndSpec : ChangeSpec := { name := "fnSymEnd", fn := fun _ => fun
  | [d] => { results := [.lit (.bool true)], args := [d] }
  | _ => none }
def fnSymEndRow : OpenClaim := { program := "ytnhlcljjjbjfeaagreat", sum := "bfe3ccb8d94ea065c656f752cdd1f7efe76c2536625bd1e5e795c35165bd1a48", func := "loop.example/latimer/laws.FnSymEnd", spec := "fnSymEnd", unfollowed := true, recurses := true, apart := false }
def FnSymEndSaid : Prop := fnSymEndRow.holds Tryz.pinned (OpenSpec.ofChange fnSymEndSpec)

/-- ITS FALSE NEIGHBOUR: 'it returns false'. Refute it at one input. -/
def fnSymEndWrong : ChangeSpec := { name := "fnSymEnd", fn := fun _ => fun
  | [d] => { results := [.lit (.bool false)], args := [d] }
  | _ => none }
def FnSymEndWrongFalsely : Prop := fnSymEndRow.holds Tryz.pinned (OpenSpec.ofChange fnSymEndWrong)

/-- 'laws.FnChkStore': WHATEVER THE INPUT: true; the input reads as it did. -/
def fnChkStoreSpec : ChangeSpec := { name := "fnChkStore", fn := fun _ => fun
  | [d] => { results := [.lit (.bool true)], args := [d] }
  | _ => none }
def fnChkStoreRow : OpenClaim := { program := "ytnhlcljjjbjfeaagreat", sum := "bfe3ccb8d94ea065c656f752cdd1f7efe76c2536625bd1e5e795c35165bd1a48", func := "loop.example/latimer/laws.FnChkStore", spec := "fnChkStore", unfollowed := true, recurses := true, apart := false }
def FnChkStoreSaid : Prop := fnChkStoreRow.holds Tryz.pinned (OpenSpec.ofChange fnChkStoreSpec)

/-- ITS FALSE NEIGHBOUR: 'it returns false'. Refute it at one input. -/
def fnChkStoreWrong : ChangeSpec := { name := "fnChkStore", fn := fun _ => fun
  | [d] => { results := [.lit (.bool false)], args := [d] }
  | _ => none }
def FnChkStoreWrongFalsely : Prop := fnChkStoreRow.holds Tryz.pinned (OpenSpec.ofChange fnChkStoreWrong)

/-- 'laws.FnChkBytes': WHATEVER THE INPUT: true; the input reads as it did. -/
def fnChkBytesSpec : ChangeSpec := { name := "fnChkBytes", fn := fun _ => fun
  | [d] => { results := [.lit (.bool true)], args := [d] }
  | _ => none }
def fnChkBytesRow : OpenClaim := { program := "ytnhlcljjjbjfeaagreat", sum := "bfe3ccb8d94ea065c656f752cdd1f7efe76c2536625bd1e5e795c35165bd1a48", func := "loop.example/latimer/laws.FnChkBytes", spec := "fnChkBytes", unfollowed := true, recurses := true, apart := false }
def FnChkBytesSaid : Prop := fnChkBytesRow.holds Tryz.pinned (OpenSpec.ofChange fnChkBytesSpec)

/-- ITS FALSE NEIGHBOUR: 'it returns false'. Refute it at one input. -/
def fnChkBytesWrong : ChangeSpec := { name := "fnChkBytes", fn := fun _ => fun
  | [d] => { results := [.lit (.bool false)], args := [d] }
  | _ => none }
def FnChkBytesWrongFalsely : Prop := fnChkBytesRow.holds Tryz.pinned (OpenSpec.ofChange fnChkBytesWrong)

/-- 'laws.FnCerHas': WHATEVER THE INPUT: true; the input reads as it did. -/
def fnCerHasSpec : ChangeSpec := { name := "fnCerHas", fn := fun _ => fun
  | [d] => { results := [.lit (.bool true)], args := [d] }
  | _ => none }
def fnCerHasRow : OpenClaim := { program := "ytnhlcljjjbjfeaagreat", sum := "bfe3ccb8d94ea065c656f752cdd1f7efe76c2536625bd1e5e795c35165bd1a48", func := "loop.example/latimer/laws.FnCerHas", spec := "fnCerHas", unfollowed := true, recurses := true, apart := false }
def FnCerHasSaid : Prop := fnCerHasRow.holds Tryz.pinned (OpenSpec.ofChange fnCerHasSpec)

/-- ITS FALSE NEIGHBOUR: 'it returns false'. Refute it at one input. -/
def fnCerHasWrong : ChangeSpec := { name := "fnCerHas", fn := fun _ => fun
  | [d] => { results := [.lit (.bool false)], args := [d] }
  | _ => none }
def FnCerHasWrongFalsely : Prop := fnCerHasRow.holds Tryz.pinned (OpenSpec.ofChange fnCerHasWrong)

/-- 'laws.FnSymEvents': WHATEVER THE INPUT: true; the input reads as it did. -/
def fnSymEventsSpec : ChangeSpec := { name := "fnSymEvents", fn := fun _ => fun
  | [d] => { results := [.lit (.bool true)], args := [d] }
  | _ => none }
def fnSymEventsRow : OpenClaim := { program := "ytnhlcljjjbjfeaagreat", sum := "bfe3ccb8d94ea065c656f752cdd1f7efe76c2536625bd1e5e795c35165bd1a48", func := "loop.example/latimer/laws.FnSymEvents", spec := "fnSymEvents", unfollowed := true, recurses := true, apart := false }
def FnSymEventsSaid : Prop := fnSymEventsRow.holds Tryz.pinned (OpenSpec.ofChange fnSymEventsSpec)

/-- ITS FALSE NEIGHBOUR: 'it returns false'. Refute it at one input. -/
def fnSymEventsWrong : ChangeSpec := { name := "fnSymEvents", fn := fun _ => fun
  | [d] => { results := [.lit (.bool false)], args := [d] }
  | _ => none }
def FnSymEventsWrongFalsely : Prop := fnSymEventsRow.holds Tryz.pinned (OpenSpec.ofChange fnSymEventsWrong)

/-- 'laws.FnSymKeeps': WHATEVER THE INPUT: true; the input reads as it did. -/
def fnSymKeepsSpec : ChangeSpec := { name := "fnSymKeeps", fn := fun _ => fun
  | [d] => { results := [.lit (.bool true)], args := [d] }
  | _ => none }
def fnSymKeepsRow : OpenClaim := { program := "ytnhlcljjjbjfeaagreat", sum := "bfe3ccb8d94ea065c656f752cdd1f7efe76c2536625bd1e5e795c35165bd1a48", func := "loop.example/latimer/laws.FnSymKeeps", spec := "fnSymKeeps", unfollowed := true, recurses := true, apart := false }
def FnSymKeepsSaid : Prop := fnSymKeepsRow.holds Tryz.pinned (OpenSpec.ofChange fnSymKeepsSpec)

/-- ITS FALSE NEIGHBOUR: 'it returns false'. Refute it at one input. -/
def fnSymKeepsWrong : ChangeSpec := { name := "fnSymKeeps", fn := fun _ => fun
  | [d] => { results := [.lit (.bool false)], args := [d] }
  | _ => none }
def FnSymKeepsWrongFalsely : Prop := fnSymKeepsRow.holds Tryz.pinned (OpenSpec.ofChange fnSymKeepsWrong)

/-- 'laws.FnOptConst': WHATEVER THE INPUT: true; the input reads as it did. -/
def fnOptConstSpec : ChangeSpec := { name := "fnOptConst", fn := fun _ => fun
  | [d] => { results := [.lit (.bool true)], args := [d] }
  | _ => none }
def fnOptConstRow : OpenClaim := { program := "ytnhlcljjjbjfeaagreat", sum := "bfe3ccb8d94ea065c656f752cdd1f7efe76c2536625bd1e5e795c35165bd1a48", func := "loop.example/latimer/laws.FnOptConst", spec := "fnOptConst", unfollowed := true, recurses := true, apart := false }
def FnOptConstSaid : Prop := fnOptConstRow.holds Tryz.pinned (OpenSpec.ofChange fnOptConstSpec)

/-- ITS FALSE NEIGHBOUR: 'it returns false'. Refute it at one input. -/
def fnOptConstWrong : ChangeSpec := { name := "fnOptConst", fn := fun _ => fun
  | [d] => { results := [.lit (.bool false)], args := [d] }
  | _ => none }
def FnOptConstWrongFalsely : Prop := fnOptConstRow.holds Tryz.pinned (OpenSpec.ofChange fnOptConstWrong)

/-- 'laws.FnOptSets': WHATEVER THE INPUT: true; the input reads as it did. -/
def fnOptSetsSpec : ChangeSpec := { name := "fnOptSets", fn := fun _ => fun
  | [d] => { results := [.lit (.bool true)], args := [d] }
  | _ => none }
def fnOptSetsRow : OpenClaim := { program := "ytnhlcljjjbjfeaagreat", sum := "bfe3ccb8d94ea065c656f752cdd1f7efe76c2536625bd1e5e795c35165bd1a48", func := "loop.example/latimer/laws.FnOptSets", spec := "fnOptSets", unfollowed := true, recurses := true, apart := false }
def FnOptSetsSaid : Prop := fnOptSetsRow.holds Tryz.pinned (OpenSpec.ofChange fnOptSetsSpec)

/-- ITS FALSE NEIGHBOUR: 'it returns false'. Refute it at one input. -/
def fnOptSetsWrong : ChangeSpec := { name := "fnOptSets", fn := fun _ => fun
  | [d] => { results := [.lit (.bool false)], args := [d] }
  | _ => none }
def FnOptSetsWrongFalsely : Prop := fnOptSetsRow.holds Tryz.pinned (OpenSpec.ofChange fnOptSetsWrong)

/-- 'laws.FnOptDead': WHATEVER THE INPUT: true; the input reads as it did. -/
def fnOptDeadSpec : ChangeSpec := { name := "fnOptDead", fn := fun _ => fun
  | [d] => { results := [.lit (.bool true)], args := [d] }
  | _ => none }
def fnOptDeadRow : OpenClaim := { program := "ytnhlcljjjbjfeaagreat", sum := "bfe3ccb8d94ea065c656f752cdd1f7efe76c2536625bd1e5e795c35165bd1a48", func := "loop.example/latimer/laws.FnOptDead", spec := "fnOptDead", unfollowed := true, recurses := true, apart := false }
def FnOptDeadSaid : Prop := fnOptDeadRow.holds Tryz.pinned (OpenSpec.ofChange fnOptDeadSpec)

/-- ITS FALSE NEIGHBOUR: 'it returns false'. Refute it at one input. -/
def fnOptDeadWrong : ChangeSpec := { name := "fnOptDead", fn := fun _ => fun
  | [d] => { results := [.lit (.bool false)], args := [d] }
  | _ => none }
def FnOptDeadWrongFalsely : Prop := fnOptDeadRow.holds Tryz.pinned (OpenSpec.ofChange fnOptDeadWrong)

/-- 'laws.FnOptCopy': WHATEVER THE INPUT: true; the input reads as it did. -/
def fnOptCopySpec : ChangeSpec := { name := "fnOptCopy", fn := fun _ => fun
  | [d] => { results := [.lit (.bool true)], args := [d] }
  | _ => none }
def fnOptCopyRow : OpenClaim := { program := "ytnhlcljjjbjfeaagreat", sum := "bfe3ccb8d94ea065c656f752cdd1f7efe76c2536625bd1e5e795c35165bd1a48", func := "loop.example/latimer/laws.FnOptCopy", spec := "fnOptCopy", unfollowed := true, recurses := true, apart := false }
def FnOptCopySaid : Prop := fnOptCopyRow.holds Tryz.pinned (OpenSpec.ofChange fnOptCopySpec)

/-- ITS FALSE NEIGHBOUR: 'it returns false'. Refute it at one input. -/
def fnOptCopyWrong : ChangeSpec := { name := "fnOptCopy", fn := fun _ => fun
  | [d] => { results := [.lit (.bool false)], args := [d] }
  | _ => none }
def FnOptCopyWrongFalsely : Prop := fnOptCopyRow.holds Tryz.pinned (OpenSpec.ofChange fnOptCopyWrong)

/-- 'laws.FnOptAll': WHATEVER THE INPUT: true; the input reads as it did. -/
def fnOptAllSpec : ChangeSpec := { name := "fnOptAll", fn := fun _ => fun
  | [d] => { results := [.lit (.bool true)], args := [d] }
  | _ => none }
def fnOptAllRow : OpenClaim := { program := "ytnhlcljjjbjfeaagreat", sum := "bfe3ccb8d94ea065c656f752cdd1f7efe76c2536625bd1e5e795c35165bd1a48", func := "loop.example/latimer/laws.FnOptAll", spec := "fnOptAll", unfollowed := true, recurses := true, apart := false }
def FnOptAllSaid : Prop := fnOptAllRow.holds Tryz.pinned (OpenSpec.ofChange fnOptAllSpec)

/-- ITS FALSE NEIGHBOUR: 'it returns false'. Refute it at one input. -/
def fnOptAllWrong : ChangeSpec := { name := "fnOptAll", fn := fun _ => fun
  | [d] => { results := [.lit (.bool false)], args := [d] }
  | _ => none }
def FnOptAllWrongFalsely : Prop := fnOptAllRow.holds Tryz.pinned (OpenSpec.ofChange fnOptAllWrong)

/-- 'laws.FnChkSelf': WHATEVER THE INPUT: true; the input reads as it did. -/
def fnChkSelfSpec : ChangeSpec := { name := "fnChkSelf", fn := fun _ => fun
  | [d] => { results := [.lit (.bool true)], args := [d] }
  | _ => none }
def fnChkSelfRow : OpenClaim := { program := "ytnhlcljjjbjfeaagreat", sum := "bfe3ccb8d94ea065c656f752cdd1f7efe76c2536625bd1e5e795c35165bd1a48", func := "loop.example/latimer/laws.FnChkSelf", spec := "fnChkSelf", unfollowed := true, recurses := true, apart := false }
def FnChkSelfSaid : Prop := fnChkSelfRow.holds Tryz.pinned (OpenSpec.ofChange fnChkSelfSpec)

/-- ITS FALSE NEIGHBOUR: 'it returns false'. Refute it at one input. -/
def fnChkSelfWrong : ChangeSpec := { name := "fnChkSelf", fn := fun _ => fun
  | [d] => { results := [.lit (.bool false)], args := [d] }
  | _ => none }
def FnChkSelfWrongFalsely : Prop := fnChkSelfRow.holds Tryz.pinned (OpenSpec.ofChange fnChkSelfWrong)

/- THE SECOND FORM. 'bulk': how many values and letters a reading holds, each counted each time it is reached (what is shared counts as often as it is met; a slice's spare places count too). A statement '..UptoSaid' is the law's where the arguments, and the package variables that the reading takes, are together of bulk at most 1048576: NARROWER than '..Said'. Prove '..Said' where nothing that the law and all that it calls make is longer than what came in: it says more and counts as full. Else prove '..UptoSaid'. A law counts once. -/
mutual
def uptoBulk {H : Type} : DataW H → Nat
  | .lit (.string bytes) => bytes.length + 1
  | .lit _ => 1
  | .nil => 1
  | .ptr d => uptoBulk d + 1
  | .slice elems spare => uptoBulkAll elems + uptoBulkAll spare + 1
  | .agg parts => uptoBulkAll parts + 1
  | .iface _ d => uptoBulk d + 1
  | .map entries => uptoBulkEntries entries + 1
  | .held _ => 1
def uptoBulkAll {H : Type} : List (DataW H) → Nat
  | [] => 0
  | d :: r => uptoBulk d + uptoBulkAll r
def uptoBulkEntries {H : Type} : List (Lit × DataW H) → Nat
  | [] => 0
  | x :: r => uptoBulkEntry x + uptoBulkEntries r
def uptoBulkEntry {H : Type} : Lit × DataW H → Nat
  | (.string bytes, d) => bytes.length + uptoBulk d + 1
  | (_, d) => uptoBulk d + 1
 end
def uptoSmall : (H : Type) → List (DataW H) → Bool := fun _ ds => decide (uptoBulkAll ds ≤ 1048576)
def OpenSpec.upto (s : _root_.Go.ChangeSpec) : _root_.Go.OpenSpec := { _root_.Go.OpenSpec.ofChange s with cond := some uptoSmall }

/-- 'laws.FnSymEnd', WHERE WHAT IT READS IS OF BULK AT MOST 1048576: true; the input reads as it did. -/
def fnSymEndUptoRow : OpenClaim := { program := "ytnhlcljjjbjfeaagreat", sum := "bfe3ccb8d94ea065c656f752cdd1f7efe76c2536625bd1e5e795c35165bd1a48", func := "loop.example/latimer/laws.FnSymEnd", spec := "fnSymEnd", unfollowed := true, recurses := true, apart := false, narrowed := true }
def FnSymEndUptoSaid : Prop := fnSymEndUptoRow.holds Tryz.pinned (OpenSpec.upto fnSymEndSpec)

/-- 'laws.FnChkStore', WHERE WHAT IT READS IS OF BULK AT MOST 1048576: true; the input reads as it did. -/
def fnChkStoreUptoRow : OpenClaim := { program := "ytnhlcljjjbjfeaagreat", sum := "bfe3ccb8d94ea065c656f752cdd1f7efe76c2536625bd1e5e795c35165bd1a48", func := "loop.example/latimer/laws.FnChkStore", spec := "fnChkStore", unfollowed := true, recurses := true, apart := false, narrowed := true }
def FnChkStoreUptoSaid : Prop := fnChkStoreUptoRow.holds Tryz.pinned (OpenSpec.upto fnChkStoreSpec)

/-- 'laws.FnChkBytes', WHERE WHAT IT READS IS OF BULK AT MOST 1048576: true; the input reads as it did. -/
def fnChkBytesUptoRow : OpenClaim := { program := "ytnhlcljjjbjfeaagreat", sum := "bfe3ccb8d94ea065c656f752cdd1f7efe76c2536625bd1e5e795c35165bd1a48", func := "loop.example/latimer/laws.FnChkBytes", spec := "fnChkBytes", unfollowed := true, recurses := true, apart := false, narrowed := true }
def FnChkBytesUptoSaid : Prop := fnChkBytesUptoRow.holds Tryz.pinned (OpenSpec.upto fnChkBytesSpec)

/-- 'laws.FnCerHas', WHERE WHAT IT READS IS OF BULK AT MOST 1048576: true; the input reads as it did. -/
def fnCerHasUptoRow : OpenClaim := { program := "ytnhlcljjjbjfeaagreat", sum := "bfe3ccb8d94ea065c656f752cdd1f7efe76c2536625bd1e5e795c35165bd1a48", func := "loop.example/latimer/laws.FnCerHas", spec := "fnCerHas", unfollowed := true, recurses := true, apart := false, narrowed := true }
def FnCerHasUptoSaid : Prop := fnCerHasUptoRow.holds Tryz.pinned (OpenSpec.upto fnCerHasSpec)

/-- 'laws.FnSymEvents', WHERE WHAT IT READS IS OF BULK AT MOST 1048576: true; the input reads as it did. -/
def fnSymEventsUptoRow : OpenClaim := { program := "ytnhlcljjjbjfeaagreat", sum := "bfe3ccb8d94ea065c656f752cdd1f7efe76c2536625bd1e5e795c35165bd1a48", func := "loop.example/latimer/laws.FnSymEvents", spec := "fnSymEvents", unfollowed := true, recurses := true, apart := false, narrowed := true }
def FnSymEventsUptoSaid : Prop := fnSymEventsUptoRow.holds Tryz.pinned (OpenSpec.upto fnSymEventsSpec)

/-- 'laws.FnSymKeeps', WHERE WHAT IT READS IS OF BULK AT MOST 1048576: true; the input reads as it did. -/
def fnSymKeepsUptoRow : OpenClaim := { program := "ytnhlcljjjbjfeaagreat", sum := "bfe3ccb8d94ea065c656f752cdd1f7efe76c2536625bd1e5e795c35165bd1a48", func := "loop.example/latimer/laws.FnSymKeeps", spec := "fnSymKeeps", unfollowed := true, recurses := true, apart := false, narrowed := true }
def FnSymKeepsUptoSaid : Prop := fnSymKeepsUptoRow.holds Tryz.pinned (OpenSpec.upto fnSymKeepsSpec)

/-- 'laws.FnOptConst', WHERE WHAT IT READS IS OF BULK AT MOST 1048576: true; the input reads as it did. -/
def fnOptConstUptoRow : OpenClaim := { program := "ytnhlcljjjbjfeaagreat", sum := "bfe3ccb8d94ea065c656f752cdd1f7efe76c2536625bd1e5e795c35165bd1a48", func := "loop.example/latimer/laws.FnOptConst", spec := "fnOptConst", unfollowed := true, recurses := true, apart := false, narrowed := true }
def FnOptConstUptoSaid : Prop := fnOptConstUptoRow.holds Tryz.pinned (OpenSpec.upto fnOptConstSpec)

/-- 'laws.FnOptSets', WHERE WHAT IT READS IS OF BULK AT MOST 1048576: true; the input reads as it did. -/
def fnOptSetsUptoRow : OpenClaim := { program := "ytnhlcljjjbjfeaagreat", sum := "bfe3ccb8d94ea065c656f752cdd1f7efe76c2536625bd1e5e795c35165bd1a48", func := "loop.example/latimer/laws.FnOptSets", spec := "fnOptSets", unfollowed := true, recurses := true, apart := false, narrowed := true }
def FnOptSetsUptoSaid : Prop := fnOptSetsUptoRow.holds Tryz.pinned (OpenSpec.upto fnOptSetsSpec)

/-- 'laws.FnOptDead', WHERE WHAT IT READS IS OF BULK AT MOST 1048576: true; the input reads as it did. -/
def fnOptDeadUptoRow : OpenClaim := { program := "ytnhlcljjjbjfeaagreat", sum := "bfe3ccb8d94ea065c656f752cdd1f7efe76c2536625bd1e5e795c35165bd1a48", func := "loop.example/latimer/laws.FnOptDead", spec := "fnOptDead", unfollowed := true, recurses := true, apart := false, narrowed := true }
def FnOptDeadUptoSaid : Prop := fnOptDeadUptoRow.holds Tryz.pinned (OpenSpec.upto fnOptDeadSpec)

/-- 'laws.FnOptCopy', WHERE WHAT IT READS IS OF BULK AT MOST 1048576: true; the input reads as it did. -/
def fnOptCopyUptoRow : OpenClaim := { program := "ytnhlcljjjbjfeaagreat", sum := "bfe3ccb8d94ea065c656f752cdd1f7efe76c2536625bd1e5e795c35165bd1a48", func := "loop.example/latimer/laws.FnOptCopy", spec := "fnOptCopy", unfollowed := true, recurses := true, apart := false, narrowed := true }
def FnOptCopyUptoSaid : Prop := fnOptCopyUptoRow.holds Tryz.pinned (OpenSpec.upto fnOptCopySpec)

/-- 'laws.FnOptAll', WHERE WHAT IT READS IS OF BULK AT MOST 1048576: true; the input reads as it did. -/
def fnOptAllUptoRow : OpenClaim := { program := "ytnhlcljjjbjfeaagreat", sum := "bfe3ccb8d94ea065c656f752cdd1f7efe76c2536625bd1e5e795c35165bd1a48", func := "loop.example/latimer/laws.FnOptAll", spec := "fnOptAll", unfollowed := true, recurses := true, apart := false, narrowed := true }
def FnOptAllUptoSaid : Prop := fnOptAllUptoRow.holds Tryz.pinned (OpenSpec.upto fnOptAllSpec)

/-- 'laws.FnChkSelf', WHERE WHAT IT READS IS OF BULK AT MOST 1048576: true; the input reads as it did. -/
def fnChkSelfUptoRow : OpenClaim := { program := "ytnhlcljjjbjfeaagreat", sum := "bfe3ccb8d94ea065c656f752cdd1f7efe76c2536625bd1e5e795c35165bd1a48", func := "loop.example/latimer/laws.FnChkSelf", spec := "fnChkSelf", unfollowed := true, recurses := true, apart := false, narrowed := true }
def FnChkSelfUptoSaid : Prop := fnChkSelfUptoRow.holds Tryz.pinned (OpenSpec.upto fnChkSelfSpec)

end Rows
end Go.Proofs.YtnhlcljjjbjfeaaGreat

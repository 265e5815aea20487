/-
  DERIVED. GIVEN WITH THE SEED: THE CARDS: each row of YtomdenodojmcgaaGreatDoorRows.lean that lists a variable, with what it lists TIED to the program's text (the seventh form; the later family's looks); each row that meets fmt, with fmt's text TOLD by the authors' own Lean function (tested against real Go, not proved from fmt's source: count such statements apart). THE CARD IS WHAT COUNTS. Prove the row's statement (the work); the ties are given (YtomdenodojmcgaaGreatDoorTie.lean); close each card by the builder's one call (the guide's Derived/Test/ToyasCard.lean, 'card_holds'). Laid BY PROGRAM, IN A SANDBOX (cutbox-door.mjs). By AI agents, Wed Nov 11 2026. No macro, syntax, notation, axiom, sorry.
-/
import Derived.Test.YtomdenodojmcgaaGreatDoorRows
import GoSem.ClaimSeven
namespace Go.Proofs.YtomdenodojmcgaaGreatDoor
namespace Rows

/-- THE TIED CARD OF 'laws.FnBlkJoin'. -/
def fnBlkJoinCard : Claim7 := { stood := { row := fnBlkJoinRow, standIns := [], harness := (true, "3890f5ec9a84ff03a9cac87f8a5a0191030c45f0fe960d1215d6eea77a5f3452"), looks := false }, kinds := [], alts := [], laidByText := true, laidKinds := [.widerDeep], laidTests := true, laidLooks := .later }
def FnBlkJoinCardSaid : Prop := Claim7.holds Tryz.pinned (.plain (OpenSpec.ofChange fnBlkJoinSpec)) fnBlkJoinCard

/-- THE TIED CARD OF 'laws.FnBlkLower'. -/
def fnBlkLowerCard : Claim7 := { stood := { row := fnBlkLowerRow, standIns := [], harness := (true, "3890f5ec9a84ff03a9cac87f8a5a0191030c45f0fe960d1215d6eea77a5f3452"), looks := false }, kinds := [], alts := [], laidByText := true, laidKinds := [.widerDeep], laidTests := true, laidLooks := .later }
def FnBlkLowerCardSaid : Prop := Claim7.holds Tryz.pinned (.plain (OpenSpec.ofChange fnBlkLowerSpec)) fnBlkLowerCard

/-- THE SECOND FORM's CARD OF 'laws.FnBlkJoin'. -/
def fnBlkJoinUptoCard : Claim7 := { stood := { row := fnBlkJoinUptoRow, standIns := [], harness := (true, "3890f5ec9a84ff03a9cac87f8a5a0191030c45f0fe960d1215d6eea77a5f3452"), looks := false }, kinds := [], alts := [], laidByText := true, laidKinds := [.widerDeep], laidTests := true, laidLooks := .later }
def FnBlkJoinUptoCardSaid : Prop := Claim7.holds Tryz.pinned (.plain (OpenSpec.upto fnBlkJoinSpec)) fnBlkJoinUptoCard

/-- THE SECOND FORM's CARD OF 'laws.FnBlkLower'. -/
def fnBlkLowerUptoCard : Claim7 := { stood := { row := fnBlkLowerUptoRow, standIns := [], harness := (true, "3890f5ec9a84ff03a9cac87f8a5a0191030c45f0fe960d1215d6eea77a5f3452"), looks := false }, kinds := [], alts := [], laidByText := true, laidKinds := [.widerDeep], laidTests := true, laidLooks := .later }
def FnBlkLowerUptoCardSaid : Prop := Claim7.holds Tryz.pinned (.plain (OpenSpec.upto fnBlkLowerSpec)) fnBlkLowerUptoCard
end Rows
end Go.Proofs.YtomdenodojmcgaaGreatDoor

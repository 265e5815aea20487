/-
  DERIVED. GIVEN WITH THE SEED: THE CARDS: each row of YthhkbfpkkbhibaaGreatDoorRows.lean that lists a variable, with what it lists TIED to the program's text (the seventh form; the later family's looks); each row that meets fmt, with fmt's text TOLD by the authors' own Lean function (tested against real Go, not proved from fmt's source: count such statements apart). THE CARD IS WHAT COUNTS. Prove the row's statement (the work); the ties are given (YthhkbfpkkbhibaaGreatDoorTie.lean); close each card by the builder's one call (the guide's Derived/Test/ToyasCard.lean, 'card_holds'). Laid BY PROGRAM, IN A SANDBOX (cutbox-door.mjs). By AI agents, Wed Nov 11 2026. No macro, syntax, notation, axiom, sorry.
-/
import Derived.Test.YthhkbfpkkbhibaaGreatDoorRows
import GoSem.ClaimSeven
namespace Go.Proofs.YthhkbfpkkbhibaaGreatDoor
namespace Rows

/-- THE TIED CARD OF 'laws.FnExactCacOk'. -/
def fnExactCacOkCard : Claim7 := { stood := { row := fnExactCacOkRow, standIns := [], harness := (true, "c97ebe739ebc1a611810616ca2523e830bc5cf34d39e551d776101f795ecf87e"), looks := false }, kinds := [], alts := [], laidByText := true, laidKinds := [.widerDeep], laidTests := true, laidLooks := .later }
def FnExactCacOkCardSaid : Prop := Claim7.holds Tryz.pinned (.plain (OpenSpec.ofChange fnExactCacOkSpec)) fnExactCacOkCard

/-- THE TIED CARD OF 'laws.FnExactEngOk'. -/
def fnExactEngOkCard : Claim7 := { stood := { row := fnExactEngOkRow, standIns := [], harness := (true, "c97ebe739ebc1a611810616ca2523e830bc5cf34d39e551d776101f795ecf87e"), looks := false }, kinds := [], alts := [], laidByText := true, laidKinds := [.widerDeep], laidTests := true, laidLooks := .later }
def FnExactEngOkCardSaid : Prop := Claim7.holds Tryz.pinned (.plain (OpenSpec.ofChange fnExactEngOkSpec)) fnExactEngOkCard

/-- THE SECOND FORM's CARD OF 'laws.FnExactCacOk'. -/
def fnExactCacOkUptoCard : Claim7 := { stood := { row := fnExactCacOkUptoRow, standIns := [], harness := (true, "c97ebe739ebc1a611810616ca2523e830bc5cf34d39e551d776101f795ecf87e"), looks := false }, kinds := [], alts := [], laidByText := true, laidKinds := [.widerDeep], laidTests := true, laidLooks := .later }
def FnExactCacOkUptoCardSaid : Prop := Claim7.holds Tryz.pinned (.plain (OpenSpec.upto fnExactCacOkSpec)) fnExactCacOkUptoCard

/-- THE SECOND FORM's CARD OF 'laws.FnExactEngOk'. -/
def fnExactEngOkUptoCard : Claim7 := { stood := { row := fnExactEngOkUptoRow, standIns := [], harness := (true, "c97ebe739ebc1a611810616ca2523e830bc5cf34d39e551d776101f795ecf87e"), looks := false }, kinds := [], alts := [], laidByText := true, laidKinds := [.widerDeep], laidTests := true, laidLooks := .later }
def FnExactEngOkUptoCardSaid : Prop := Claim7.holds Tryz.pinned (.plain (OpenSpec.upto fnExactEngOkSpec)) fnExactEngOkUptoCard
end Rows
end Go.Proofs.YthhkbfpkkbhibaaGreatDoor

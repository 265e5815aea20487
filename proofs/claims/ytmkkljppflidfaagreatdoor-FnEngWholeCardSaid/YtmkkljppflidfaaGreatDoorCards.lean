/-
  DERIVED. GIVEN WITH THE SEED: THE CARDS: each row of YtmkkljppflidfaaGreatDoorRows.lean that lists a variable, with what it lists TIED to the program's text (the seventh form; the later family's looks); each row that meets fmt, with fmt's text TOLD by the authors' own Lean function (tested against real Go, not proved from fmt's source: count such statements apart). THE CARD IS WHAT COUNTS. Prove the row's statement (the work); the ties are given (YtmkkljppflidfaaGreatDoorTie.lean); close each card by the builder's one call (the guide's Derived/Test/ToyasCard.lean, 'card_holds'). Laid BY PROGRAM, IN A SANDBOX (cutbox-door.mjs). By AI agents, Wed Nov 11 2026. No macro, syntax, notation, axiom, sorry.
-/
import Derived.Test.YtmkkljppflidfaaGreatDoorRows
import GoSem.ClaimSeven
namespace Go.Proofs.YtmkkljppflidfaaGreatDoor
namespace Rows

/-- THE TIED CARD OF 'laws.FnEngWhole'. -/
def fnEngWholeCard : Claim7 := { stood := { row := fnEngWholeRow, standIns := [], harness := (true, "52b9a913ef3422f64d61cf706b00bbb86a4fef0c91501f0afd5b0c03376c3eb5"), looks := false }, kinds := [], alts := [], laidByText := true, laidKinds := [.widerDeep], laidTests := true, laidLooks := .later }
def FnEngWholeCardSaid : Prop := Claim7.holds Tryz.pinned (.plain (OpenSpec.ofChange fnEngWholeSpec)) fnEngWholeCard

/-- THE TIED CARD OF 'laws.FnEngNew'. -/
def fnEngNewCard : Claim7 := { stood := { row := fnEngNewRow, standIns := [], harness := (true, "52b9a913ef3422f64d61cf706b00bbb86a4fef0c91501f0afd5b0c03376c3eb5"), looks := false }, kinds := [], alts := [], laidByText := true, laidKinds := [.widerDeep], laidTests := true, laidLooks := .later }
def FnEngNewCardSaid : Prop := Claim7.holds Tryz.pinned (.plain (OpenSpec.ofChange fnEngNewSpec)) fnEngNewCard

/-- THE TIED CARD OF 'laws.FnEngCached'. -/
def fnEngCachedCard : Claim7 := { stood := { row := fnEngCachedRow, standIns := [], harness := (true, "52b9a913ef3422f64d61cf706b00bbb86a4fef0c91501f0afd5b0c03376c3eb5"), looks := false }, kinds := [], alts := [], laidByText := true, laidKinds := [.widerDeep], laidTests := true, laidLooks := .later }
def FnEngCachedCardSaid : Prop := Claim7.holds Tryz.pinned (.plain (OpenSpec.ofChange fnEngCachedSpec)) fnEngCachedCard

/-- THE TIED CARD OF 'laws.FnEngLie'. -/
def fnEngLieCard : Claim7 := { stood := { row := fnEngLieRow, standIns := [], harness := (true, "52b9a913ef3422f64d61cf706b00bbb86a4fef0c91501f0afd5b0c03376c3eb5"), looks := false }, kinds := [], alts := [], laidByText := true, laidKinds := [.widerDeep], laidTests := true, laidLooks := .later }
def FnEngLieCardSaid : Prop := Claim7.holds Tryz.pinned (.plain (OpenSpec.ofChange fnEngLieSpec)) fnEngLieCard

/-- THE TIED CARD OF 'laws.FnEngOwn'. -/
def fnEngOwnCard : Claim7 := { stood := { row := fnEngOwnRow, standIns := [], harness := (true, "52b9a913ef3422f64d61cf706b00bbb86a4fef0c91501f0afd5b0c03376c3eb5"), looks := false }, kinds := [], alts := [], laidByText := true, laidKinds := [.widerDeep], laidTests := true, laidLooks := .later }
def FnEngOwnCardSaid : Prop := Claim7.holds Tryz.pinned (.plain (OpenSpec.ofChange fnEngOwnSpec)) fnEngOwnCard

/-- THE TIED CARD OF 'laws.FnEngKept'. -/
def fnEngKeptCard : Claim7 := { stood := { row := fnEngKeptRow, standIns := [], harness := (true, "52b9a913ef3422f64d61cf706b00bbb86a4fef0c91501f0afd5b0c03376c3eb5"), looks := false }, kinds := [], alts := [], laidByText := true, laidKinds := [.widerDeep], laidTests := true, laidLooks := .later }
def FnEngKeptCardSaid : Prop := Claim7.holds Tryz.pinned (.plain (OpenSpec.ofChange fnEngKeptSpec)) fnEngKeptCard

/-- THE TIED CARD OF 'laws.FnEngCerts'. -/
def fnEngCertsCard : Claim7 := { stood := { row := fnEngCertsRow, standIns := [], harness := (true, "52b9a913ef3422f64d61cf706b00bbb86a4fef0c91501f0afd5b0c03376c3eb5"), looks := false }, kinds := [], alts := [], laidByText := true, laidKinds := [.widerDeep], laidTests := true, laidLooks := .later }
def FnEngCertsCardSaid : Prop := Claim7.holds Tryz.pinned (.plain (OpenSpec.ofChange fnEngCertsSpec)) fnEngCertsCard

/-- THE TIED CARD OF 'laws.FnEngStops'. -/
def fnEngStopsCard : Claim7 := { stood := { row := fnEngStopsRow, standIns := [], harness := (true, "52b9a913ef3422f64d61cf706b00bbb86a4fef0c91501f0afd5b0c03376c3eb5"), looks := false }, kinds := [], alts := [], laidByText := true, laidKinds := [.widerDeep], laidTests := true, laidLooks := .later }
def FnEngStopsCardSaid : Prop := Claim7.holds Tryz.pinned (.plain (OpenSpec.ofChange fnEngStopsSpec)) fnEngStopsCard

/-- THE SECOND FORM's CARD OF 'laws.FnEngWhole'. -/
def fnEngWholeUptoCard : Claim7 := { stood := { row := fnEngWholeUptoRow, standIns := [], harness := (true, "52b9a913ef3422f64d61cf706b00bbb86a4fef0c91501f0afd5b0c03376c3eb5"), looks := false }, kinds := [], alts := [], laidByText := true, laidKinds := [.widerDeep], laidTests := true, laidLooks := .later }
def FnEngWholeUptoCardSaid : Prop := Claim7.holds Tryz.pinned (.plain (OpenSpec.upto fnEngWholeSpec)) fnEngWholeUptoCard

/-- THE SECOND FORM's CARD OF 'laws.FnEngNew'. -/
def fnEngNewUptoCard : Claim7 := { stood := { row := fnEngNewUptoRow, standIns := [], harness := (true, "52b9a913ef3422f64d61cf706b00bbb86a4fef0c91501f0afd5b0c03376c3eb5"), looks := false }, kinds := [], alts := [], laidByText := true, laidKinds := [.widerDeep], laidTests := true, laidLooks := .later }
def FnEngNewUptoCardSaid : Prop := Claim7.holds Tryz.pinned (.plain (OpenSpec.upto fnEngNewSpec)) fnEngNewUptoCard

/-- THE SECOND FORM's CARD OF 'laws.FnEngCached'. -/
def fnEngCachedUptoCard : Claim7 := { stood := { row := fnEngCachedUptoRow, standIns := [], harness := (true, "52b9a913ef3422f64d61cf706b00bbb86a4fef0c91501f0afd5b0c03376c3eb5"), looks := false }, kinds := [], alts := [], laidByText := true, laidKinds := [.widerDeep], laidTests := true, laidLooks := .later }
def FnEngCachedUptoCardSaid : Prop := Claim7.holds Tryz.pinned (.plain (OpenSpec.upto fnEngCachedSpec)) fnEngCachedUptoCard

/-- THE SECOND FORM's CARD OF 'laws.FnEngLie'. -/
def fnEngLieUptoCard : Claim7 := { stood := { row := fnEngLieUptoRow, standIns := [], harness := (true, "52b9a913ef3422f64d61cf706b00bbb86a4fef0c91501f0afd5b0c03376c3eb5"), looks := false }, kinds := [], alts := [], laidByText := true, laidKinds := [.widerDeep], laidTests := true, laidLooks := .later }
def FnEngLieUptoCardSaid : Prop := Claim7.holds Tryz.pinned (.plain (OpenSpec.upto fnEngLieSpec)) fnEngLieUptoCard

/-- THE SECOND FORM's CARD OF 'laws.FnEngOwn'. -/
def fnEngOwnUptoCard : Claim7 := { stood := { row := fnEngOwnUptoRow, standIns := [], harness := (true, "52b9a913ef3422f64d61cf706b00bbb86a4fef0c91501f0afd5b0c03376c3eb5"), looks := false }, kinds := [], alts := [], laidByText := true, laidKinds := [.widerDeep], laidTests := true, laidLooks := .later }
def FnEngOwnUptoCardSaid : Prop := Claim7.holds Tryz.pinned (.plain (OpenSpec.upto fnEngOwnSpec)) fnEngOwnUptoCard

/-- THE SECOND FORM's CARD OF 'laws.FnEngKept'. -/
def fnEngKeptUptoCard : Claim7 := { stood := { row := fnEngKeptUptoRow, standIns := [], harness := (true, "52b9a913ef3422f64d61cf706b00bbb86a4fef0c91501f0afd5b0c03376c3eb5"), looks := false }, kinds := [], alts := [], laidByText := true, laidKinds := [.widerDeep], laidTests := true, laidLooks := .later }
def FnEngKeptUptoCardSaid : Prop := Claim7.holds Tryz.pinned (.plain (OpenSpec.upto fnEngKeptSpec)) fnEngKeptUptoCard

/-- THE SECOND FORM's CARD OF 'laws.FnEngCerts'. -/
def fnEngCertsUptoCard : Claim7 := { stood := { row := fnEngCertsUptoRow, standIns := [], harness := (true, "52b9a913ef3422f64d61cf706b00bbb86a4fef0c91501f0afd5b0c03376c3eb5"), looks := false }, kinds := [], alts := [], laidByText := true, laidKinds := [.widerDeep], laidTests := true, laidLooks := .later }
def FnEngCertsUptoCardSaid : Prop := Claim7.holds Tryz.pinned (.plain (OpenSpec.upto fnEngCertsSpec)) fnEngCertsUptoCard

/-- THE SECOND FORM's CARD OF 'laws.FnEngStops'. -/
def fnEngStopsUptoCard : Claim7 := { stood := { row := fnEngStopsUptoRow, standIns := [], harness := (true, "52b9a913ef3422f64d61cf706b00bbb86a4fef0c91501f0afd5b0c03376c3eb5"), looks := false }, kinds := [], alts := [], laidByText := true, laidKinds := [.widerDeep], laidTests := true, laidLooks := .later }
def FnEngStopsUptoCardSaid : Prop := Claim7.holds Tryz.pinned (.plain (OpenSpec.upto fnEngStopsSpec)) fnEngStopsUptoCard
end Rows
end Go.Proofs.YtmkkljppflidfaaGreatDoor

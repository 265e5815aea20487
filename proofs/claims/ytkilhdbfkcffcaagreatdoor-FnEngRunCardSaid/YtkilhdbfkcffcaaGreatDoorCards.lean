/-
  DERIVED. GIVEN WITH THE SEED: THE CARDS: each row of YtkilhdbfkcffcaaGreatDoorRows.lean that lists a variable, with what it lists TIED to the program's text (the seventh form; the later family's looks); each row that meets fmt, with fmt's text TOLD by the authors' own Lean function (tested against real Go, not proved from fmt's source: count such statements apart). THE CARD IS WHAT COUNTS. Prove the row's statement (the work); the ties are given (YtkilhdbfkcffcaaGreatDoorTie.lean); close each card by the builder's one call (the guide's Derived/Test/ToyasCard.lean, 'card_holds'). Laid BY PROGRAM, IN A SANDBOX (cutbox-door.mjs). By AI agents, Wed Nov 11 2026. No macro, syntax, notation, axiom, sorry.
-/
import Derived.Test.YtkilhdbfkcffcaaGreatDoorRows
import GoSem.ClaimSeven
namespace Go.Proofs.YtkilhdbfkcffcaaGreatDoor
namespace Rows

/-- THE TIED CARD OF 'laws.FnEngRun'. -/
def fnEngRunCard : Claim7 := { stood := { row := fnEngRunRow, standIns := [], harness := (true, "ce5ae4986784f04d4e56a669256b136052382860097e4b5596d147455b42e4a1"), looks := false }, kinds := [], alts := [], laidByText := true, laidKinds := [.widerDeep], laidTests := true, laidLooks := .later }
def FnEngRunCardSaid : Prop := Claim7.holds Tryz.pinned (.plain (OpenSpec.ofChange fnEngRunSpec)) fnEngRunCard

/-- THE TIED CARD OF 'laws.FnEngMade'. -/
def fnEngMadeCard : Claim7 := { stood := { row := fnEngMadeRow, standIns := [], harness := (true, "ce5ae4986784f04d4e56a669256b136052382860097e4b5596d147455b42e4a1"), looks := false }, kinds := [], alts := [], laidByText := true, laidKinds := [.widerDeep], laidTests := true, laidLooks := .later }
def FnEngMadeCardSaid : Prop := Claim7.holds Tryz.pinned (.plain (OpenSpec.ofChange fnEngMadeSpec)) fnEngMadeCard

/-- THE TIED CARD OF 'laws.FnEngSplit'. -/
def fnEngSplitCard : Claim7 := { stood := { row := fnEngSplitRow, standIns := [], harness := (true, "ce5ae4986784f04d4e56a669256b136052382860097e4b5596d147455b42e4a1"), looks := false }, kinds := [], alts := [], laidByText := true, laidKinds := [.widerDeep], laidTests := true, laidLooks := .later }
def FnEngSplitCardSaid : Prop := Claim7.holds Tryz.pinned (.plain (OpenSpec.ofChange fnEngSplitSpec)) fnEngSplitCard

/-- THE TIED CARD OF 'laws.FnEngTurn'. -/
def fnEngTurnCard : Claim7 := { stood := { row := fnEngTurnRow, standIns := [], harness := (true, "ce5ae4986784f04d4e56a669256b136052382860097e4b5596d147455b42e4a1"), looks := false }, kinds := [], alts := [], laidByText := true, laidKinds := [.widerDeep], laidTests := true, laidLooks := .later }
def FnEngTurnCardSaid : Prop := Claim7.holds Tryz.pinned (.plain (OpenSpec.ofChange fnEngTurnSpec)) fnEngTurnCard

/-- THE SECOND FORM's CARD OF 'laws.FnEngRun'. -/
def fnEngRunUptoCard : Claim7 := { stood := { row := fnEngRunUptoRow, standIns := [], harness := (true, "ce5ae4986784f04d4e56a669256b136052382860097e4b5596d147455b42e4a1"), looks := false }, kinds := [], alts := [], laidByText := true, laidKinds := [.widerDeep], laidTests := true, laidLooks := .later }
def FnEngRunUptoCardSaid : Prop := Claim7.holds Tryz.pinned (.plain (OpenSpec.upto fnEngRunSpec)) fnEngRunUptoCard

/-- THE SECOND FORM's CARD OF 'laws.FnEngMade'. -/
def fnEngMadeUptoCard : Claim7 := { stood := { row := fnEngMadeUptoRow, standIns := [], harness := (true, "ce5ae4986784f04d4e56a669256b136052382860097e4b5596d147455b42e4a1"), looks := false }, kinds := [], alts := [], laidByText := true, laidKinds := [.widerDeep], laidTests := true, laidLooks := .later }
def FnEngMadeUptoCardSaid : Prop := Claim7.holds Tryz.pinned (.plain (OpenSpec.upto fnEngMadeSpec)) fnEngMadeUptoCard

/-- THE SECOND FORM's CARD OF 'laws.FnEngSplit'. -/
def fnEngSplitUptoCard : Claim7 := { stood := { row := fnEngSplitUptoRow, standIns := [], harness := (true, "ce5ae4986784f04d4e56a669256b136052382860097e4b5596d147455b42e4a1"), looks := false }, kinds := [], alts := [], laidByText := true, laidKinds := [.widerDeep], laidTests := true, laidLooks := .later }
def FnEngSplitUptoCardSaid : Prop := Claim7.holds Tryz.pinned (.plain (OpenSpec.upto fnEngSplitSpec)) fnEngSplitUptoCard

/-- THE SECOND FORM's CARD OF 'laws.FnEngTurn'. -/
def fnEngTurnUptoCard : Claim7 := { stood := { row := fnEngTurnUptoRow, standIns := [], harness := (true, "ce5ae4986784f04d4e56a669256b136052382860097e4b5596d147455b42e4a1"), looks := false }, kinds := [], alts := [], laidByText := true, laidKinds := [.widerDeep], laidTests := true, laidLooks := .later }
def FnEngTurnUptoCardSaid : Prop := Claim7.holds Tryz.pinned (.plain (OpenSpec.upto fnEngTurnSpec)) fnEngTurnUptoCard
end Rows
end Go.Proofs.YtkilhdbfkcffcaaGreatDoor

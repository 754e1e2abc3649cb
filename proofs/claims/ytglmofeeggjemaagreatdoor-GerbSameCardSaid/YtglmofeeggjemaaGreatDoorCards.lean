/-
  DERIVED. GIVEN WITH THE SEED: THE CARDS: each row of YtglmofeeggjemaaGreatDoorRows.lean that lists a variable, with what it lists TIED to the program's text (the seventh form; the later family's looks); each row that meets fmt, with fmt's text TOLD by the authors' own Lean function (tested against real Go, not proved from fmt's source: count such statements apart). THE CARD IS WHAT COUNTS. Prove the row's statement (the work); the ties are given (YtglmofeeggjemaaGreatDoorTie.lean); close each card by the builder's one call (the guide's Derived/Test/ToyasCard.lean, 'card_holds'). Laid BY PROGRAM, IN A SANDBOX (cutbox-door.mjs). By AI agents, Wed Nov 11 2026. No macro, syntax, notation, axiom, sorry.
-/
import Derived.Test.YtglmofeeggjemaaGreatDoorRows
import GoSem.ClaimSeven
namespace Go.Proofs.YtglmofeeggjemaaGreatDoor
namespace Rows

/-- THE TIED CARD OF 'heliographlaw15.GerbSame'. -/
def gerbSameCard : Claim7 := { stood := { row := gerbSameRow, standIns := [], harness := (true, "652c3788ce22b575b4dc73965306519696a3ac7f5b3ff016085c560b9a88b4f4"), looks := true }, kinds := [], alts := [], laidByText := true, laidKinds := [.data, .data, .data, .sentinel, .sentinel], laidTests := true, laidLooks := .later }
def GerbSameCardSaid : Prop := Claim7.holds Tryz.pinned (.plain (OpenSpec.ofChange gerbSameSpec)) gerbSameCard

/-- THE TIED CARD OF 'heliographlaw15.GerbParts'. -/
def gerbPartsCard : Claim7 := { stood := { row := gerbPartsRow, standIns := [], harness := (true, "652c3788ce22b575b4dc73965306519696a3ac7f5b3ff016085c560b9a88b4f4"), looks := true }, kinds := [], alts := [], laidByText := true, laidKinds := [.data, .data, .data, .sentinel, .sentinel], laidTests := true, laidLooks := .later }
def GerbPartsCardSaid : Prop := Claim7.holds Tryz.pinned (.plain (OpenSpec.ofChange gerbPartsSpec)) gerbPartsCard

/-- THE SECOND FORM's CARD OF 'heliographlaw15.GerbSame'. -/
def gerbSameUptoCard : Claim7 := { stood := { row := gerbSameUptoRow, standIns := [], harness := (true, "652c3788ce22b575b4dc73965306519696a3ac7f5b3ff016085c560b9a88b4f4"), looks := true }, kinds := [], alts := [], laidByText := true, laidKinds := [.data, .data, .data, .sentinel, .sentinel], laidTests := true, laidLooks := .later }
def GerbSameUptoCardSaid : Prop := Claim7.holds Tryz.pinned (.plain (OpenSpec.upto gerbSameSpec)) gerbSameUptoCard

/-- THE SECOND FORM's CARD OF 'heliographlaw15.GerbParts'. -/
def gerbPartsUptoCard : Claim7 := { stood := { row := gerbPartsUptoRow, standIns := [], harness := (true, "652c3788ce22b575b4dc73965306519696a3ac7f5b3ff016085c560b9a88b4f4"), looks := true }, kinds := [], alts := [], laidByText := true, laidKinds := [.data, .data, .data, .sentinel, .sentinel], laidTests := true, laidLooks := .later }
def GerbPartsUptoCardSaid : Prop := Claim7.holds Tryz.pinned (.plain (OpenSpec.upto gerbPartsSpec)) gerbPartsUptoCard
end Rows
end Go.Proofs.YtglmofeeggjemaaGreatDoor

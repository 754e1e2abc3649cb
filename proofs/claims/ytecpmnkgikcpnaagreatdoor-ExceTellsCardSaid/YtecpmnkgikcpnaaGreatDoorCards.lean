/-
  DERIVED. GIVEN WITH THE SEED: THE CARDS: each row of YtecpmnkgikcpnaaGreatDoorRows.lean that lists a variable, with what it lists TIED to the program's text (the seventh form; the later family's looks); each row that meets fmt, with fmt's text TOLD by the authors' own Lean function (tested against real Go, not proved from fmt's source: count such statements apart). THE CARD IS WHAT COUNTS. Prove the row's statement (the work); the ties are given (YtecpmnkgikcpnaaGreatDoorTie.lean); close each card by the builder's one call (the guide's Derived/Test/ToyasCard.lean, 'card_holds'). Laid BY PROGRAM, IN A SANDBOX (cutbox-door.mjs). By AI agents, Wed Nov 11 2026. No macro, syntax, notation, axiom, sorry.
-/
import Derived.Test.YtecpmnkgikcpnaaGreatDoorRows
import GoSem.ClaimSeven
namespace Go.Proofs.YtecpmnkgikcpnaaGreatDoor
namespace Rows

/-- THE TIED CARD OF 'heliographlaw19.ExceTells'. -/
def exceTellsCard : Claim7 := { stood := { row := exceTellsRow, standIns := [], harness := (true, "e20c1fccf78705185de111e5d80da47a0a6fbcd861e9f947f583d243691fd8df"), looks := false }, kinds := [], alts := [], laidByText := true, laidKinds := [.data, .data, .data, .data, .pinned], laidTests := true, laidLooks := .later }
def ExceTellsCardSaid : Prop := Claim7.holds Tryz.pinned (.plain (OpenSpec.ofChange exceTellsSpec)) exceTellsCard

/-- THE SECOND FORM's CARD OF 'heliographlaw19.ExceTells'. -/
def exceTellsUptoCard : Claim7 := { stood := { row := exceTellsUptoRow, standIns := [], harness := (true, "e20c1fccf78705185de111e5d80da47a0a6fbcd861e9f947f583d243691fd8df"), looks := false }, kinds := [], alts := [], laidByText := true, laidKinds := [.data, .data, .data, .data, .pinned], laidTests := true, laidLooks := .later }
def ExceTellsUptoCardSaid : Prop := Claim7.holds Tryz.pinned (.plain (OpenSpec.upto exceTellsSpec)) exceTellsUptoCard
end Rows
end Go.Proofs.YtecpmnkgikcpnaaGreatDoor

/-
  DERIVED. GIVEN WITH THE SEED: THE CARDS: each row of YtecpmnkgikcpnaaDoorRows.lean that lists a variable, with what it lists TIED to the program's text (the seventh form; the later family's looks); each row that meets fmt, with fmt's text TOLD by the authors' own Lean function (tested against real Go, not proved from fmt's source: count such statements apart). THE CARD IS WHAT COUNTS. Prove the row's statement (the work); the ties are given (YtecpmnkgikcpnaaDoorTie.lean); close each card by the builder's one call (the guide's Derived/Test/ToyasCard.lean, 'card_holds'). Laid BY PROGRAM, IN A SANDBOX (cutbox-door.mjs). By AI agents, Wed Nov 11 2026. No macro, syntax, notation, axiom, sorry.
-/
import Derived.Test.YtecpmnkgikcpnaaDoorRows
import GoSem.ClaimSeven
namespace Go.Proofs.YtecpmnkgikcpnaaDoor
namespace Rows

/-- THE TIED CARD OF 'heliographlaw20.HoleUnits'. -/
def holeUnitsCard : Claim7 := { stood := { row := holeUnitsRow, standIns := [], harness := (true, "ca9eabd2bb65dc496606e759972d573a60cfc2db77aa174cda7729a03de2ea88"), looks := false }, kinds := [], alts := [], laidByText := true, laidKinds := [.data, .pinned], laidTests := true, laidLooks := .later }
def HoleUnitsCardSaid : Prop := Claim7.holds Tryd.pinned (.plain (OpenSpec.ofChange holeUnitsSpec)) holeUnitsCard

/-- THE TIED CARD OF 'heliographlaw19.ExceForms'. -/
def exceFormsCard : Claim7 := { stood := { row := exceFormsRow, standIns := [], harness := (true, "ca9eabd2bb65dc496606e759972d573a60cfc2db77aa174cda7729a03de2ea88"), looks := false }, kinds := [], alts := [], laidByText := true, laidKinds := [.data, .data, .data, .data, .pinned], laidTests := true, laidLooks := .later }
def ExceFormsCardSaid : Prop := Claim7.holds Tryd.pinned (.plain (OpenSpec.ofChange exceFormsSpec)) exceFormsCard

/-- THE TIED CARD OF 'heliographlaw19.ExceBack'. -/
def exceBackCard : Claim7 := { stood := { row := exceBackRow, standIns := [], harness := (true, "ca9eabd2bb65dc496606e759972d573a60cfc2db77aa174cda7729a03de2ea88"), looks := false }, kinds := [], alts := [], laidByText := true, laidKinds := [.data, .data, .data, .data, .pinned], laidTests := true, laidLooks := .later }
def ExceBackCardSaid : Prop := Claim7.holds Tryd.pinned (.plain (OpenSpec.ofChange exceBackSpec)) exceBackCard

/-- THE TIED CARD OF 'heliographlaw19.ExceSame'. -/
def exceSameCard : Claim7 := { stood := { row := exceSameRow, standIns := [], harness := (true, "ca9eabd2bb65dc496606e759972d573a60cfc2db77aa174cda7729a03de2ea88"), looks := false }, kinds := [], alts := [], laidByText := true, laidKinds := [.data, .data, .data, .data, .pinned], laidTests := true, laidLooks := .later }
def ExceSameCardSaid : Prop := Claim7.holds Tryd.pinned (.plain (OpenSpec.ofChange exceSameSpec)) exceSameCard

/-- THE SECOND FORM's CARD OF 'heliographlaw20.HoleUnits'. -/
def holeUnitsUptoCard : Claim7 := { stood := { row := holeUnitsUptoRow, standIns := [], harness := (true, "ca9eabd2bb65dc496606e759972d573a60cfc2db77aa174cda7729a03de2ea88"), looks := false }, kinds := [], alts := [], laidByText := true, laidKinds := [.data, .pinned], laidTests := true, laidLooks := .later }
def HoleUnitsUptoCardSaid : Prop := Claim7.holds Tryd.pinned (.plain (OpenSpec.upto holeUnitsSpec)) holeUnitsUptoCard

/-- THE SECOND FORM's CARD OF 'heliographlaw19.ExceForms'. -/
def exceFormsUptoCard : Claim7 := { stood := { row := exceFormsUptoRow, standIns := [], harness := (true, "ca9eabd2bb65dc496606e759972d573a60cfc2db77aa174cda7729a03de2ea88"), looks := false }, kinds := [], alts := [], laidByText := true, laidKinds := [.data, .data, .data, .data, .pinned], laidTests := true, laidLooks := .later }
def ExceFormsUptoCardSaid : Prop := Claim7.holds Tryd.pinned (.plain (OpenSpec.upto exceFormsSpec)) exceFormsUptoCard

/-- THE SECOND FORM's CARD OF 'heliographlaw19.ExceBack'. -/
def exceBackUptoCard : Claim7 := { stood := { row := exceBackUptoRow, standIns := [], harness := (true, "ca9eabd2bb65dc496606e759972d573a60cfc2db77aa174cda7729a03de2ea88"), looks := false }, kinds := [], alts := [], laidByText := true, laidKinds := [.data, .data, .data, .data, .pinned], laidTests := true, laidLooks := .later }
def ExceBackUptoCardSaid : Prop := Claim7.holds Tryd.pinned (.plain (OpenSpec.upto exceBackSpec)) exceBackUptoCard

/-- THE SECOND FORM's CARD OF 'heliographlaw19.ExceSame'. -/
def exceSameUptoCard : Claim7 := { stood := { row := exceSameUptoRow, standIns := [], harness := (true, "ca9eabd2bb65dc496606e759972d573a60cfc2db77aa174cda7729a03de2ea88"), looks := false }, kinds := [], alts := [], laidByText := true, laidKinds := [.data, .data, .data, .data, .pinned], laidTests := true, laidLooks := .later }
def ExceSameUptoCardSaid : Prop := Claim7.holds Tryd.pinned (.plain (OpenSpec.upto exceSameSpec)) exceSameUptoCard
end Rows
end Go.Proofs.YtecpmnkgikcpnaaDoor

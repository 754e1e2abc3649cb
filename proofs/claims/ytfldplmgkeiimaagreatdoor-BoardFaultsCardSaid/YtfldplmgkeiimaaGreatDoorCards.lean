/-
  DERIVED. GIVEN WITH THE SEED: THE CARDS: each row of YtfldplmgkeiimaaGreatDoorRows.lean that lists a variable, with what it lists TIED to the program's text (the seventh form; the later family's looks); each row that meets fmt, with fmt's text TOLD by the authors' own Lean function (tested against real Go, not proved from fmt's source: count such statements apart). THE CARD IS WHAT COUNTS. Prove the row's statement (the work); the ties are given (YtfldplmgkeiimaaGreatDoorTie.lean); close each card by the builder's one call (the guide's Derived/Test/ToyasCard.lean, 'card_holds'). Laid BY PROGRAM, IN A SANDBOX (cutbox-door.mjs). By AI agents, Wed Nov 11 2026. No macro, syntax, notation, axiom, sorry.
-/
import Derived.Test.YtfldplmgkeiimaaGreatDoorRows
import GoSem.ClaimSeven
namespace Go.Proofs.YtfldplmgkeiimaaGreatDoor
namespace Rows

/-- THE TIED CARD OF 'heliographtop.TopHoles'. -/
def topHolesCard : Claim7 := { stood := { row := topHolesRow, standIns := [], harness := (true, "a15acdef7b72fa4b133f5127dfd1c82123f83d206ff2fe22d4aa0a7a22b1b6d9"), looks := true }, kinds := [], alts := [], laidByText := true, laidKinds := [.data, .data, .data, .data, .sentinel, .sentinel, .pinned], laidTests := true, laidLooks := .later }
def TopHolesCardSaid : Prop := Claim7.holds Tryz.pinned (.plain (OpenSpec.ofChange topHolesSpec)) topHolesCard

/-- THE TIED CARD OF 'heliographtop.TopMacros'. -/
def topMacrosCard : Claim7 := { stood := { row := topMacrosRow, standIns := [], harness := (true, "a15acdef7b72fa4b133f5127dfd1c82123f83d206ff2fe22d4aa0a7a22b1b6d9"), looks := true }, kinds := [], alts := [], laidByText := true, laidKinds := [.data, .data, .data, .data, .sentinel, .sentinel, .pinned], laidTests := true, laidLooks := .later }
def TopMacrosCardSaid : Prop := Claim7.holds Tryz.pinned (.plain (OpenSpec.ofChange topMacrosSpec)) topMacrosCard

/-- THE TIED CARD OF 'heliographtop.TopOrder'. -/
def topOrderCard : Claim7 := { stood := { row := topOrderRow, standIns := [], harness := (true, "a15acdef7b72fa4b133f5127dfd1c82123f83d206ff2fe22d4aa0a7a22b1b6d9"), looks := true }, kinds := [], alts := [], laidByText := true, laidKinds := [.data, .data, .data, .data, .sentinel, .sentinel, .pinned], laidTests := true, laidLooks := .later }
def TopOrderCardSaid : Prop := Claim7.holds Tryz.pinned (.plain (OpenSpec.ofChange topOrderSpec)) topOrderCard

/-- THE TIED CARD OF 'heliographlaw26.LazyOwn'. -/
def lazyOwnCard : Claim7 := { stood := { row := lazyOwnRow, standIns := [], harness := (true, "a15acdef7b72fa4b133f5127dfd1c82123f83d206ff2fe22d4aa0a7a22b1b6d9"), looks := true }, kinds := [], alts := [], laidByText := true, laidKinds := [.data, .data, .data, .data, .sentinel, .sentinel, .pinned], laidTests := true, laidLooks := .later }
def LazyOwnCardSaid : Prop := Claim7.holds Tryz.pinned (.plain (OpenSpec.ofChange lazyOwnSpec)) lazyOwnCard

/-- THE TIED CARD OF 'heliographlaw27.BoardAlphas'. -/
def boardAlphasCard : Claim7 := { stood := { row := boardAlphasRow, standIns := [], harness := (true, "a15acdef7b72fa4b133f5127dfd1c82123f83d206ff2fe22d4aa0a7a22b1b6d9"), looks := true }, kinds := [], alts := [], laidByText := true, laidKinds := [.data, .data, .data, .data, .sentinel, .sentinel, .pinned], laidTests := true, laidLooks := .later }
def BoardAlphasCardSaid : Prop := Claim7.holds Tryz.pinned (.plain (OpenSpec.ofChange boardAlphasSpec)) boardAlphasCard

/-- THE TIED CARD OF 'heliographlaw27.BoardBack'. -/
def boardBackCard : Claim7 := { stood := { row := boardBackRow, standIns := [], harness := (true, "a15acdef7b72fa4b133f5127dfd1c82123f83d206ff2fe22d4aa0a7a22b1b6d9"), looks := true }, kinds := [], alts := [], laidByText := true, laidKinds := [.data, .data, .data, .data, .sentinel, .sentinel, .pinned], laidTests := true, laidLooks := .later }
def BoardBackCardSaid : Prop := Claim7.holds Tryz.pinned (.plain (OpenSpec.ofChange boardBackSpec)) boardBackCard

/-- THE TIED CARD OF 'heliographlaw27.BoardFaults'. -/
def boardFaultsCard : Claim7 := { stood := { row := boardFaultsRow, standIns := [], harness := (true, "a15acdef7b72fa4b133f5127dfd1c82123f83d206ff2fe22d4aa0a7a22b1b6d9"), looks := true }, kinds := [], alts := [], laidByText := true, laidKinds := [.data, .data, .data, .data, .sentinel, .sentinel, .pinned], laidTests := true, laidLooks := .later }
def BoardFaultsCardSaid : Prop := Claim7.holds Tryz.pinned (.plain (OpenSpec.ofChange boardFaultsSpec)) boardFaultsCard

/-- THE TIED CARD OF 'heliographlaw27.BoardGreys'. -/
def boardGreysCard : Claim7 := { stood := { row := boardGreysRow, standIns := [], harness := (true, "a15acdef7b72fa4b133f5127dfd1c82123f83d206ff2fe22d4aa0a7a22b1b6d9"), looks := true }, kinds := [], alts := [], laidByText := true, laidKinds := [.data, .data, .data, .data, .sentinel, .sentinel, .pinned], laidTests := true, laidLooks := .later }
def BoardGreysCardSaid : Prop := Claim7.holds Tryz.pinned (.plain (OpenSpec.ofChange boardGreysSpec)) boardGreysCard

/-- THE TIED CARD OF 'heliographlaw27.BoardGrey'. -/
def boardGreyCard : Claim7 := { stood := { row := boardGreyRow, standIns := [], harness := (true, "a15acdef7b72fa4b133f5127dfd1c82123f83d206ff2fe22d4aa0a7a22b1b6d9"), looks := true }, kinds := [], alts := [], laidByText := true, laidKinds := [.data, .data, .data, .data, .sentinel, .sentinel, .pinned], laidTests := true, laidLooks := .later }
def BoardGreyCardSaid : Prop := Claim7.holds Tryz.pinned (.plain (OpenSpec.ofChange boardGreySpec)) boardGreyCard

/-- THE SECOND FORM's CARD OF 'heliographtop.TopHoles'. -/
def topHolesUptoCard : Claim7 := { stood := { row := topHolesUptoRow, standIns := [], harness := (true, "a15acdef7b72fa4b133f5127dfd1c82123f83d206ff2fe22d4aa0a7a22b1b6d9"), looks := true }, kinds := [], alts := [], laidByText := true, laidKinds := [.data, .data, .data, .data, .sentinel, .sentinel, .pinned], laidTests := true, laidLooks := .later }
def TopHolesUptoCardSaid : Prop := Claim7.holds Tryz.pinned (.plain (OpenSpec.upto topHolesSpec)) topHolesUptoCard

/-- THE SECOND FORM's CARD OF 'heliographtop.TopMacros'. -/
def topMacrosUptoCard : Claim7 := { stood := { row := topMacrosUptoRow, standIns := [], harness := (true, "a15acdef7b72fa4b133f5127dfd1c82123f83d206ff2fe22d4aa0a7a22b1b6d9"), looks := true }, kinds := [], alts := [], laidByText := true, laidKinds := [.data, .data, .data, .data, .sentinel, .sentinel, .pinned], laidTests := true, laidLooks := .later }
def TopMacrosUptoCardSaid : Prop := Claim7.holds Tryz.pinned (.plain (OpenSpec.upto topMacrosSpec)) topMacrosUptoCard

/-- THE SECOND FORM's CARD OF 'heliographtop.TopOrder'. -/
def topOrderUptoCard : Claim7 := { stood := { row := topOrderUptoRow, standIns := [], harness := (true, "a15acdef7b72fa4b133f5127dfd1c82123f83d206ff2fe22d4aa0a7a22b1b6d9"), looks := true }, kinds := [], alts := [], laidByText := true, laidKinds := [.data, .data, .data, .data, .sentinel, .sentinel, .pinned], laidTests := true, laidLooks := .later }
def TopOrderUptoCardSaid : Prop := Claim7.holds Tryz.pinned (.plain (OpenSpec.upto topOrderSpec)) topOrderUptoCard

/-- THE SECOND FORM's CARD OF 'heliographlaw26.LazyOwn'. -/
def lazyOwnUptoCard : Claim7 := { stood := { row := lazyOwnUptoRow, standIns := [], harness := (true, "a15acdef7b72fa4b133f5127dfd1c82123f83d206ff2fe22d4aa0a7a22b1b6d9"), looks := true }, kinds := [], alts := [], laidByText := true, laidKinds := [.data, .data, .data, .data, .sentinel, .sentinel, .pinned], laidTests := true, laidLooks := .later }
def LazyOwnUptoCardSaid : Prop := Claim7.holds Tryz.pinned (.plain (OpenSpec.upto lazyOwnSpec)) lazyOwnUptoCard

/-- THE SECOND FORM's CARD OF 'heliographlaw27.BoardAlphas'. -/
def boardAlphasUptoCard : Claim7 := { stood := { row := boardAlphasUptoRow, standIns := [], harness := (true, "a15acdef7b72fa4b133f5127dfd1c82123f83d206ff2fe22d4aa0a7a22b1b6d9"), looks := true }, kinds := [], alts := [], laidByText := true, laidKinds := [.data, .data, .data, .data, .sentinel, .sentinel, .pinned], laidTests := true, laidLooks := .later }
def BoardAlphasUptoCardSaid : Prop := Claim7.holds Tryz.pinned (.plain (OpenSpec.upto boardAlphasSpec)) boardAlphasUptoCard

/-- THE SECOND FORM's CARD OF 'heliographlaw27.BoardBack'. -/
def boardBackUptoCard : Claim7 := { stood := { row := boardBackUptoRow, standIns := [], harness := (true, "a15acdef7b72fa4b133f5127dfd1c82123f83d206ff2fe22d4aa0a7a22b1b6d9"), looks := true }, kinds := [], alts := [], laidByText := true, laidKinds := [.data, .data, .data, .data, .sentinel, .sentinel, .pinned], laidTests := true, laidLooks := .later }
def BoardBackUptoCardSaid : Prop := Claim7.holds Tryz.pinned (.plain (OpenSpec.upto boardBackSpec)) boardBackUptoCard

/-- THE SECOND FORM's CARD OF 'heliographlaw27.BoardFaults'. -/
def boardFaultsUptoCard : Claim7 := { stood := { row := boardFaultsUptoRow, standIns := [], harness := (true, "a15acdef7b72fa4b133f5127dfd1c82123f83d206ff2fe22d4aa0a7a22b1b6d9"), looks := true }, kinds := [], alts := [], laidByText := true, laidKinds := [.data, .data, .data, .data, .sentinel, .sentinel, .pinned], laidTests := true, laidLooks := .later }
def BoardFaultsUptoCardSaid : Prop := Claim7.holds Tryz.pinned (.plain (OpenSpec.upto boardFaultsSpec)) boardFaultsUptoCard

/-- THE SECOND FORM's CARD OF 'heliographlaw27.BoardGreys'. -/
def boardGreysUptoCard : Claim7 := { stood := { row := boardGreysUptoRow, standIns := [], harness := (true, "a15acdef7b72fa4b133f5127dfd1c82123f83d206ff2fe22d4aa0a7a22b1b6d9"), looks := true }, kinds := [], alts := [], laidByText := true, laidKinds := [.data, .data, .data, .data, .sentinel, .sentinel, .pinned], laidTests := true, laidLooks := .later }
def BoardGreysUptoCardSaid : Prop := Claim7.holds Tryz.pinned (.plain (OpenSpec.upto boardGreysSpec)) boardGreysUptoCard

/-- THE SECOND FORM's CARD OF 'heliographlaw27.BoardGrey'. -/
def boardGreyUptoCard : Claim7 := { stood := { row := boardGreyUptoRow, standIns := [], harness := (true, "a15acdef7b72fa4b133f5127dfd1c82123f83d206ff2fe22d4aa0a7a22b1b6d9"), looks := true }, kinds := [], alts := [], laidByText := true, laidKinds := [.data, .data, .data, .data, .sentinel, .sentinel, .pinned], laidTests := true, laidLooks := .later }
def BoardGreyUptoCardSaid : Prop := Claim7.holds Tryz.pinned (.plain (OpenSpec.upto boardGreySpec)) boardGreyUptoCard
end Rows
end Go.Proofs.YtfldplmgkeiimaaGreatDoor

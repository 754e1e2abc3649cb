/-
  DERIVED. GIVEN WITH THE SEED: THE CARDS: each row of YtkaiaijcieaofaaGreatDoorRows.lean that lists a variable, with what it lists TIED to the program's text (the seventh form; the later family's looks); each row that meets fmt, with fmt's text TOLD by the authors' own Lean function (tested against real Go, not proved from fmt's source: count such statements apart). THE CARD IS WHAT COUNTS. Prove the row's statement (the work); the ties are given (YtkaiaijcieaofaaGreatDoorTie.lean); close each card by the builder's one call (the guide's Derived/Test/ToyasCard.lean, 'card_holds'). Laid BY PROGRAM, IN A SANDBOX (cutbox-door.mjs). By AI agents, Wed Nov 11 2026. No macro, syntax, notation, axiom, sorry.
-/
import Derived.Test.YtkaiaijcieaofaaGreatDoorRows
import GoSem.ClaimSeven
namespace Go.Proofs.YtkaiaijcieaofaaGreatDoor
namespace Rows

/-- THE TIED CARD OF 'heliographlaw26.LazyOwn'. -/
def lazyOwnCard : Claim7 := { stood := { row := lazyOwnRow, standIns := [], harness := (true, "45b16583a5b353d7cc5746352a3ecef9eaf0663943c20e1d33816af3568a63e9"), looks := true }, kinds := [], alts := [], laidByText := true, laidKinds := [.data, .data, .data, .data, .sentinel, .sentinel, .pinned], laidTests := true, laidLooks := .later }
def LazyOwnCardSaid : Prop := Claim7.holds Tryz.pinned (.plain (OpenSpec.ofChange lazyOwnSpec)) lazyOwnCard

/-- THE SECOND FORM's CARD OF 'heliographlaw26.LazyOwn'. -/
def lazyOwnUptoCard : Claim7 := { stood := { row := lazyOwnUptoRow, standIns := [], harness := (true, "45b16583a5b353d7cc5746352a3ecef9eaf0663943c20e1d33816af3568a63e9"), looks := true }, kinds := [], alts := [], laidByText := true, laidKinds := [.data, .data, .data, .data, .sentinel, .sentinel, .pinned], laidTests := true, laidLooks := .later }
def LazyOwnUptoCardSaid : Prop := Claim7.holds Tryz.pinned (.plain (OpenSpec.upto lazyOwnSpec)) lazyOwnUptoCard
end Rows
end Go.Proofs.YtkaiaijcieaofaaGreatDoor

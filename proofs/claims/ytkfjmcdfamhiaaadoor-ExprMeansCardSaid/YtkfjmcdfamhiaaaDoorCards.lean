/-
  DERIVED. GIVEN WITH THE SEED: THE CARDS: each row of YtkfjmcdfamhiaaaDoorRows.lean that lists a variable, with what it lists TIED to the program's text (the seventh form; the later family's looks); each row that meets fmt, with fmt's text TOLD by the authors' own Lean function (tested against real Go, not proved from fmt's source: count such statements apart). THE CARD IS WHAT COUNTS. Prove the row's statement (the work); the ties are given (YtkfjmcdfamhiaaaDoorTie.lean); close each card by the builder's one call (the guide's Derived/Test/ToyasCard.lean, 'card_holds'). Laid BY PROGRAM, IN A SANDBOX (cutbox-door.mjs). By AI agents, Wed Nov 11 2026. No macro, syntax, notation, axiom, sorry.
-/
import Derived.Test.YtkfjmcdfamhiaaaDoorRows
import GoSem.ClaimSeven
namespace Go.Proofs.YtkfjmcdfamhiaaaDoor
namespace Rows

/-- THE TIED CARD OF 'heliographlaw12.ExprDeep'. -/
def exprDeepCard : Claim7 := { stood := { row := exprDeepRow, standIns := [], harness := (true, "76aac96a23cf0dd8fbf80822062e0b6b55551cc24a926a1bd0d0e3dbb04b0132"), looks := false }, kinds := [], alts := [], laidByText := true, laidKinds := [.data, .data, .data, .data, .pinned], laidTests := true, laidLooks := .later }
def ExprDeepCardSaid : Prop := Claim7.holds Tryd.pinned (.plain (OpenSpec.ofChange exprDeepSpec)) exprDeepCard

/-- THE TIED CARD OF 'heliographlaw12.ExprBack'. -/
def exprBackCard : Claim7 := { stood := { row := exprBackRow, standIns := [], harness := (true, "76aac96a23cf0dd8fbf80822062e0b6b55551cc24a926a1bd0d0e3dbb04b0132"), looks := false }, kinds := [], alts := [], laidByText := true, laidKinds := [.data, .data, .data, .data, .pinned], laidTests := true, laidLooks := .later }
def ExprBackCardSaid : Prop := Claim7.holds Tryd.pinned (.plain (OpenSpec.ofChange exprBackSpec)) exprBackCard

/-- THE TIED CARD OF 'heliographlaw12.ExprExact'. -/
def exprExactCard : Claim7 := { stood := { row := exprExactRow, standIns := [], harness := (true, "76aac96a23cf0dd8fbf80822062e0b6b55551cc24a926a1bd0d0e3dbb04b0132"), looks := false }, kinds := [], alts := [], laidByText := true, laidKinds := [.data, .data, .data, .data, .pinned], laidTests := true, laidLooks := .later }
def ExprExactCardSaid : Prop := Claim7.holds Tryd.pinned (.plain (OpenSpec.ofChange exprExactSpec)) exprExactCard

/-- THE TIED CARD OF 'heliographlaw12.ExprMeans'. -/
def exprMeansCard : Claim7 := { stood := { row := exprMeansRow, standIns := [], harness := (true, "76aac96a23cf0dd8fbf80822062e0b6b55551cc24a926a1bd0d0e3dbb04b0132"), looks := false }, kinds := [], alts := [], laidByText := true, laidKinds := [.data, .data, .data, .data, .pinned], laidTests := true, laidLooks := .later }
def ExprMeansCardSaid : Prop := Claim7.holds Tryd.pinned (.plain (OpenSpec.ofChange exprMeansSpec)) exprMeansCard

/-- THE SECOND FORM's CARD OF 'heliographlaw12.ExprDeep'. -/
def exprDeepUptoCard : Claim7 := { stood := { row := exprDeepUptoRow, standIns := [], harness := (true, "76aac96a23cf0dd8fbf80822062e0b6b55551cc24a926a1bd0d0e3dbb04b0132"), looks := false }, kinds := [], alts := [], laidByText := true, laidKinds := [.data, .data, .data, .data, .pinned], laidTests := true, laidLooks := .later }
def ExprDeepUptoCardSaid : Prop := Claim7.holds Tryd.pinned (.plain (OpenSpec.upto exprDeepSpec)) exprDeepUptoCard

/-- THE SECOND FORM's CARD OF 'heliographlaw12.ExprBack'. -/
def exprBackUptoCard : Claim7 := { stood := { row := exprBackUptoRow, standIns := [], harness := (true, "76aac96a23cf0dd8fbf80822062e0b6b55551cc24a926a1bd0d0e3dbb04b0132"), looks := false }, kinds := [], alts := [], laidByText := true, laidKinds := [.data, .data, .data, .data, .pinned], laidTests := true, laidLooks := .later }
def ExprBackUptoCardSaid : Prop := Claim7.holds Tryd.pinned (.plain (OpenSpec.upto exprBackSpec)) exprBackUptoCard

/-- THE SECOND FORM's CARD OF 'heliographlaw12.ExprExact'. -/
def exprExactUptoCard : Claim7 := { stood := { row := exprExactUptoRow, standIns := [], harness := (true, "76aac96a23cf0dd8fbf80822062e0b6b55551cc24a926a1bd0d0e3dbb04b0132"), looks := false }, kinds := [], alts := [], laidByText := true, laidKinds := [.data, .data, .data, .data, .pinned], laidTests := true, laidLooks := .later }
def ExprExactUptoCardSaid : Prop := Claim7.holds Tryd.pinned (.plain (OpenSpec.upto exprExactSpec)) exprExactUptoCard

/-- THE SECOND FORM's CARD OF 'heliographlaw12.ExprMeans'. -/
def exprMeansUptoCard : Claim7 := { stood := { row := exprMeansUptoRow, standIns := [], harness := (true, "76aac96a23cf0dd8fbf80822062e0b6b55551cc24a926a1bd0d0e3dbb04b0132"), looks := false }, kinds := [], alts := [], laidByText := true, laidKinds := [.data, .data, .data, .data, .pinned], laidTests := true, laidLooks := .later }
def ExprMeansUptoCardSaid : Prop := Claim7.holds Tryd.pinned (.plain (OpenSpec.upto exprMeansSpec)) exprMeansUptoCard
end Rows
end Go.Proofs.YtkfjmcdfamhiaaaDoor

/-
  DERIVED. GIVEN WITH THE SEED: THE CARDS: each row of YtmclabehdjdpnaaDoorRows.lean that lists a variable, with what it lists TIED to the program's text (the seventh form; the later family's looks); each row that meets fmt, with fmt's text TOLD by the authors' own Lean function (tested against real Go, not proved from fmt's source: count such statements apart). THE CARD IS WHAT COUNTS. Prove the row's statement (the work); the ties are given (YtmclabehdjdpnaaDoorTie.lean); close each card by the builder's one call (the guide's Derived/Test/ToyasCard.lean, 'card_holds'). Laid BY PROGRAM, IN A SANDBOX (cutbox-door.mjs). By AI agents, Wed Nov 11 2026. No macro, syntax, notation, axiom, sorry.
-/
import Derived.Test.YtmclabehdjdpnaaDoorRows
import GoSem.ClaimSeven
namespace Go.Proofs.YtmclabehdjdpnaaDoor
namespace Rows

/-- THE TIED CARD OF 'heliographlaw0.NamesNumbers'. -/
def namesNumbersCard : Claim7 := { stood := { row := namesNumbersRow, standIns := [], harness := (true, "8987c1eb5cc7efe5e0f092cc7d29351531d2efec5d09e2f72d1bb50376ac3bec"), looks := false }, kinds := [], alts := [], laidByText := true, laidKinds := [.data, .data, .data], laidTests := true, laidLooks := .later }
def NamesNumbersCardSaid : Prop := Claim7.holds Tryd.pinned (.plain (OpenSpec.ofChange namesNumbersSpec)) namesNumbersCard

/-- THE TIED CARD OF 'heliographlaw25.PnmSizes'. -/
def pnmSizesCard : Claim7 := { stood := { row := pnmSizesRow, standIns := [], harness := (true, "8987c1eb5cc7efe5e0f092cc7d29351531d2efec5d09e2f72d1bb50376ac3bec"), looks := false }, kinds := [], alts := [], laidByText := true, laidKinds := [.data, .data, .data], laidTests := true, laidLooks := .later }
def PnmSizesCardSaid : Prop := Claim7.holds Tryd.pinned (.plain (OpenSpec.ofChange pnmSizesSpec)) pnmSizesCard

/-- THE TIED CARD OF 'heliographlaw25.PnmTells'. -/
def pnmTellsCard : Claim7 := { stood := { row := pnmTellsRow, standIns := [], harness := (true, "8987c1eb5cc7efe5e0f092cc7d29351531d2efec5d09e2f72d1bb50376ac3bec"), looks := false }, kinds := [], alts := [], laidByText := true, laidKinds := [.data, .data, .data], laidTests := true, laidLooks := .later }
def PnmTellsCardSaid : Prop := Claim7.holds Tryd.pinned (.plain (OpenSpec.ofChange pnmTellsSpec)) pnmTellsCard

/-- THE TIED CARD OF 'heliographlaw25.PnmBack'. -/
def pnmBackCard : Claim7 := { stood := { row := pnmBackRow, standIns := [], harness := (true, "8987c1eb5cc7efe5e0f092cc7d29351531d2efec5d09e2f72d1bb50376ac3bec"), looks := false }, kinds := [], alts := [], laidByText := true, laidKinds := [.data, .data, .data], laidTests := true, laidLooks := .later }
def PnmBackCardSaid : Prop := Claim7.holds Tryd.pinned (.plain (OpenSpec.ofChange pnmBackSpec)) pnmBackCard

/-- THE TIED CARD OF 'heliographlaw2.DeciBounds'. -/
def deciBoundsCard : Claim7 := { stood := { row := deciBoundsRow, standIns := [], harness := (true, "8987c1eb5cc7efe5e0f092cc7d29351531d2efec5d09e2f72d1bb50376ac3bec"), looks := false }, kinds := [], alts := [], laidByText := true, laidKinds := [.data, .data, .data, .data, .pinned], laidTests := true, laidLooks := .later }
def DeciBoundsCardSaid : Prop := Claim7.holds Tryd.pinned (.plain (OpenSpec.ofChange deciBoundsSpec)) deciBoundsCard

/-- THE TIED CARD OF 'heliographlaw2.DeciTells'. -/
def deciTellsCard : Claim7 := { stood := { row := deciTellsRow, standIns := [], harness := (true, "8987c1eb5cc7efe5e0f092cc7d29351531d2efec5d09e2f72d1bb50376ac3bec"), looks := false }, kinds := [], alts := [], laidByText := true, laidKinds := [.data, .data, .data, .data, .pinned], laidTests := true, laidLooks := .later }
def DeciTellsCardSaid : Prop := Claim7.holds Tryd.pinned (.plain (OpenSpec.ofChange deciTellsSpec)) deciTellsCard

/-- THE TIED CARD OF 'heliographlaw2.DeciBack'. -/
def deciBackCard : Claim7 := { stood := { row := deciBackRow, standIns := [], harness := (true, "8987c1eb5cc7efe5e0f092cc7d29351531d2efec5d09e2f72d1bb50376ac3bec"), looks := false }, kinds := [], alts := [], laidByText := true, laidKinds := [.data, .data, .data, .data, .pinned], laidTests := true, laidLooks := .later }
def DeciBackCardSaid : Prop := Claim7.holds Tryd.pinned (.plain (OpenSpec.ofChange deciBackSpec)) deciBackCard

/-- THE TIED CARD OF 'heliographlaw2.DeciParts'. -/
def deciPartsCard : Claim7 := { stood := { row := deciPartsRow, standIns := [], harness := (true, "8987c1eb5cc7efe5e0f092cc7d29351531d2efec5d09e2f72d1bb50376ac3bec"), looks := false }, kinds := [], alts := [], laidByText := true, laidKinds := [.data, .data, .data, .data, .pinned], laidTests := true, laidLooks := .later }
def DeciPartsCardSaid : Prop := Claim7.holds Tryd.pinned (.plain (OpenSpec.ofChange deciPartsSpec)) deciPartsCard

/-- THE TIED CARD OF 'heliographlaw3.UnitTrails'. -/
def unitTrailsCard : Claim7 := { stood := { row := unitTrailsRow, standIns := [], harness := (true, "8987c1eb5cc7efe5e0f092cc7d29351531d2efec5d09e2f72d1bb50376ac3bec"), looks := false }, kinds := [], alts := [], laidByText := true, laidKinds := [.data, .data, .data, .data, .pinned], laidTests := true, laidLooks := .later }
def UnitTrailsCardSaid : Prop := Claim7.holds Tryd.pinned (.plain (OpenSpec.ofChange unitTrailsSpec)) unitTrailsCard

/-- THE TIED CARD OF 'heliographlaw3.UnitTells'. -/
def unitTellsCard : Claim7 := { stood := { row := unitTellsRow, standIns := [], harness := (true, "8987c1eb5cc7efe5e0f092cc7d29351531d2efec5d09e2f72d1bb50376ac3bec"), looks := false }, kinds := [], alts := [], laidByText := true, laidKinds := [.data, .data, .data, .data, .pinned], laidTests := true, laidLooks := .later }
def UnitTellsCardSaid : Prop := Claim7.holds Tryd.pinned (.plain (OpenSpec.ofChange unitTellsSpec)) unitTellsCard

/-- THE TIED CARD OF 'heliographlaw3.UnitBack'. -/
def unitBackCard : Claim7 := { stood := { row := unitBackRow, standIns := [], harness := (true, "8987c1eb5cc7efe5e0f092cc7d29351531d2efec5d09e2f72d1bb50376ac3bec"), looks := false }, kinds := [], alts := [], laidByText := true, laidKinds := [.data, .data, .data, .data, .pinned], laidTests := true, laidLooks := .later }
def UnitBackCardSaid : Prop := Claim7.holds Tryd.pinned (.plain (OpenSpec.ofChange unitBackSpec)) unitBackCard

/-- THE TIED CARD OF 'heliographlaw3.UnitMeets'. -/
def unitMeetsCard : Claim7 := { stood := { row := unitMeetsRow, standIns := [], harness := (true, "8987c1eb5cc7efe5e0f092cc7d29351531d2efec5d09e2f72d1bb50376ac3bec"), looks := false }, kinds := [], alts := [], laidByText := true, laidKinds := [.data, .data, .data, .data, .pinned], laidTests := true, laidLooks := .later }
def UnitMeetsCardSaid : Prop := Claim7.holds Tryd.pinned (.plain (OpenSpec.ofChange unitMeetsSpec)) unitMeetsCard

/-- THE SECOND FORM's CARD OF 'heliographlaw0.NamesNumbers'. -/
def namesNumbersUptoCard : Claim7 := { stood := { row := namesNumbersUptoRow, standIns := [], harness := (true, "8987c1eb5cc7efe5e0f092cc7d29351531d2efec5d09e2f72d1bb50376ac3bec"), looks := false }, kinds := [], alts := [], laidByText := true, laidKinds := [.data, .data, .data], laidTests := true, laidLooks := .later }
def NamesNumbersUptoCardSaid : Prop := Claim7.holds Tryd.pinned (.plain (OpenSpec.upto namesNumbersSpec)) namesNumbersUptoCard

/-- THE SECOND FORM's CARD OF 'heliographlaw25.PnmSizes'. -/
def pnmSizesUptoCard : Claim7 := { stood := { row := pnmSizesUptoRow, standIns := [], harness := (true, "8987c1eb5cc7efe5e0f092cc7d29351531d2efec5d09e2f72d1bb50376ac3bec"), looks := false }, kinds := [], alts := [], laidByText := true, laidKinds := [.data, .data, .data], laidTests := true, laidLooks := .later }
def PnmSizesUptoCardSaid : Prop := Claim7.holds Tryd.pinned (.plain (OpenSpec.upto pnmSizesSpec)) pnmSizesUptoCard

/-- THE SECOND FORM's CARD OF 'heliographlaw25.PnmTells'. -/
def pnmTellsUptoCard : Claim7 := { stood := { row := pnmTellsUptoRow, standIns := [], harness := (true, "8987c1eb5cc7efe5e0f092cc7d29351531d2efec5d09e2f72d1bb50376ac3bec"), looks := false }, kinds := [], alts := [], laidByText := true, laidKinds := [.data, .data, .data], laidTests := true, laidLooks := .later }
def PnmTellsUptoCardSaid : Prop := Claim7.holds Tryd.pinned (.plain (OpenSpec.upto pnmTellsSpec)) pnmTellsUptoCard

/-- THE SECOND FORM's CARD OF 'heliographlaw25.PnmBack'. -/
def pnmBackUptoCard : Claim7 := { stood := { row := pnmBackUptoRow, standIns := [], harness := (true, "8987c1eb5cc7efe5e0f092cc7d29351531d2efec5d09e2f72d1bb50376ac3bec"), looks := false }, kinds := [], alts := [], laidByText := true, laidKinds := [.data, .data, .data], laidTests := true, laidLooks := .later }
def PnmBackUptoCardSaid : Prop := Claim7.holds Tryd.pinned (.plain (OpenSpec.upto pnmBackSpec)) pnmBackUptoCard

/-- THE SECOND FORM's CARD OF 'heliographlaw2.DeciBounds'. -/
def deciBoundsUptoCard : Claim7 := { stood := { row := deciBoundsUptoRow, standIns := [], harness := (true, "8987c1eb5cc7efe5e0f092cc7d29351531d2efec5d09e2f72d1bb50376ac3bec"), looks := false }, kinds := [], alts := [], laidByText := true, laidKinds := [.data, .data, .data, .data, .pinned], laidTests := true, laidLooks := .later }
def DeciBoundsUptoCardSaid : Prop := Claim7.holds Tryd.pinned (.plain (OpenSpec.upto deciBoundsSpec)) deciBoundsUptoCard

/-- THE SECOND FORM's CARD OF 'heliographlaw2.DeciTells'. -/
def deciTellsUptoCard : Claim7 := { stood := { row := deciTellsUptoRow, standIns := [], harness := (true, "8987c1eb5cc7efe5e0f092cc7d29351531d2efec5d09e2f72d1bb50376ac3bec"), looks := false }, kinds := [], alts := [], laidByText := true, laidKinds := [.data, .data, .data, .data, .pinned], laidTests := true, laidLooks := .later }
def DeciTellsUptoCardSaid : Prop := Claim7.holds Tryd.pinned (.plain (OpenSpec.upto deciTellsSpec)) deciTellsUptoCard

/-- THE SECOND FORM's CARD OF 'heliographlaw2.DeciBack'. -/
def deciBackUptoCard : Claim7 := { stood := { row := deciBackUptoRow, standIns := [], harness := (true, "8987c1eb5cc7efe5e0f092cc7d29351531d2efec5d09e2f72d1bb50376ac3bec"), looks := false }, kinds := [], alts := [], laidByText := true, laidKinds := [.data, .data, .data, .data, .pinned], laidTests := true, laidLooks := .later }
def DeciBackUptoCardSaid : Prop := Claim7.holds Tryd.pinned (.plain (OpenSpec.upto deciBackSpec)) deciBackUptoCard

/-- THE SECOND FORM's CARD OF 'heliographlaw2.DeciParts'. -/
def deciPartsUptoCard : Claim7 := { stood := { row := deciPartsUptoRow, standIns := [], harness := (true, "8987c1eb5cc7efe5e0f092cc7d29351531d2efec5d09e2f72d1bb50376ac3bec"), looks := false }, kinds := [], alts := [], laidByText := true, laidKinds := [.data, .data, .data, .data, .pinned], laidTests := true, laidLooks := .later }
def DeciPartsUptoCardSaid : Prop := Claim7.holds Tryd.pinned (.plain (OpenSpec.upto deciPartsSpec)) deciPartsUptoCard

/-- THE SECOND FORM's CARD OF 'heliographlaw3.UnitTrails'. -/
def unitTrailsUptoCard : Claim7 := { stood := { row := unitTrailsUptoRow, standIns := [], harness := (true, "8987c1eb5cc7efe5e0f092cc7d29351531d2efec5d09e2f72d1bb50376ac3bec"), looks := false }, kinds := [], alts := [], laidByText := true, laidKinds := [.data, .data, .data, .data, .pinned], laidTests := true, laidLooks := .later }
def UnitTrailsUptoCardSaid : Prop := Claim7.holds Tryd.pinned (.plain (OpenSpec.upto unitTrailsSpec)) unitTrailsUptoCard

/-- THE SECOND FORM's CARD OF 'heliographlaw3.UnitTells'. -/
def unitTellsUptoCard : Claim7 := { stood := { row := unitTellsUptoRow, standIns := [], harness := (true, "8987c1eb5cc7efe5e0f092cc7d29351531d2efec5d09e2f72d1bb50376ac3bec"), looks := false }, kinds := [], alts := [], laidByText := true, laidKinds := [.data, .data, .data, .data, .pinned], laidTests := true, laidLooks := .later }
def UnitTellsUptoCardSaid : Prop := Claim7.holds Tryd.pinned (.plain (OpenSpec.upto unitTellsSpec)) unitTellsUptoCard

/-- THE SECOND FORM's CARD OF 'heliographlaw3.UnitBack'. -/
def unitBackUptoCard : Claim7 := { stood := { row := unitBackUptoRow, standIns := [], harness := (true, "8987c1eb5cc7efe5e0f092cc7d29351531d2efec5d09e2f72d1bb50376ac3bec"), looks := false }, kinds := [], alts := [], laidByText := true, laidKinds := [.data, .data, .data, .data, .pinned], laidTests := true, laidLooks := .later }
def UnitBackUptoCardSaid : Prop := Claim7.holds Tryd.pinned (.plain (OpenSpec.upto unitBackSpec)) unitBackUptoCard

/-- THE SECOND FORM's CARD OF 'heliographlaw3.UnitMeets'. -/
def unitMeetsUptoCard : Claim7 := { stood := { row := unitMeetsUptoRow, standIns := [], harness := (true, "8987c1eb5cc7efe5e0f092cc7d29351531d2efec5d09e2f72d1bb50376ac3bec"), looks := false }, kinds := [], alts := [], laidByText := true, laidKinds := [.data, .data, .data, .data, .pinned], laidTests := true, laidLooks := .later }
def UnitMeetsUptoCardSaid : Prop := Claim7.holds Tryd.pinned (.plain (OpenSpec.upto unitMeetsSpec)) unitMeetsUptoCard
end Rows
end Go.Proofs.YtmclabehdjdpnaaDoor

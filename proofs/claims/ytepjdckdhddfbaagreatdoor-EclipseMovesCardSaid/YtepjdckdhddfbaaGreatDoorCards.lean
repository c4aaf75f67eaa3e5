/-
  DERIVED. GIVEN WITH THE SEED: THE CARDS: each row of YtepjdckdhddfbaaGreatDoorRows.lean that lists a variable, with what it lists TIED to the program's text (the seventh form; the later family's looks); each row that meets fmt, with fmt's text TOLD by the authors' own Lean function (tested against real Go, not proved from fmt's source: count such statements apart). THE CARD IS WHAT COUNTS. Prove the row's statement (the work); the ties are given (YtepjdckdhddfbaaGreatDoorTie.lean); close each card by the builder's one call (the guide's Derived/Test/ToyasCard.lean, 'card_holds'). Laid BY PROGRAM, IN A SANDBOX (cutbox-door.mjs). By AI agents, Wed Nov 11 2026. No macro, syntax, notation, axiom, sorry.
-/
import Derived.Test.YtepjdckdhddfbaaGreatDoorRows
import GoSem.ClaimSeven
namespace Go.Proofs.YtepjdckdhddfbaaGreatDoor
namespace Rows

/-- THE TIED CARD OF 'tellurionlaw07.EclipsePrints'. -/
def eclipsePrintsCard : Claim7 := { stood := { row := eclipsePrintsRow, standIns := [], harness := (true, "3935588a274329483ec0b5feff908a72916f84273b0dd370d56e5180bf3ed620"), looks := true }, kinds := [], alts := [], laidByText := true, laidKinds := [.data, .data, .data, .data, .pinned], laidTests := true, laidLooks := .later }
def EclipsePrintsCardSaid : Prop := Claim7.holds Tryz.pinned (.plain (OpenSpec.ofChange eclipsePrintsSpec)) eclipsePrintsCard

/-- THE TIED CARD OF 'tellurionlaw07.EclipseReads'. -/
def eclipseReadsCard : Claim7 := { stood := { row := eclipseReadsRow, standIns := [], harness := (true, "3935588a274329483ec0b5feff908a72916f84273b0dd370d56e5180bf3ed620"), looks := true }, kinds := [], alts := [], laidByText := true, laidKinds := [.data, .data, .data, .data, .pinned], laidTests := true, laidLooks := .later }
def EclipseReadsCardSaid : Prop := Claim7.holds Tryz.pinned (.plain (OpenSpec.ofChange eclipseReadsSpec)) eclipseReadsCard

/-- THE TIED CARD OF 'tellurionlaw07.EclipseSpoilt'. -/
def eclipseSpoiltCard : Claim7 := { stood := { row := eclipseSpoiltRow, standIns := [], harness := (true, "3935588a274329483ec0b5feff908a72916f84273b0dd370d56e5180bf3ed620"), looks := true }, kinds := [], alts := [], laidByText := true, laidKinds := [.data, .data, .data, .data, .pinned], laidTests := true, laidLooks := .later }
def EclipseSpoiltCardSaid : Prop := Claim7.holds Tryz.pinned (.plain (OpenSpec.ofChange eclipseSpoiltSpec)) eclipseSpoiltCard

/-- THE TIED CARD OF 'tellurionlaw07.EclipseShades'. -/
def eclipseShadesCard : Claim7 := { stood := { row := eclipseShadesRow, standIns := [], harness := (true, "3935588a274329483ec0b5feff908a72916f84273b0dd370d56e5180bf3ed620"), looks := true }, kinds := [], alts := [], laidByText := true, laidKinds := [.data, .data, .data, .data, .pinned], laidTests := true, laidLooks := .later }
def EclipseShadesCardSaid : Prop := Claim7.holds Tryz.pinned (.plain (OpenSpec.ofChange eclipseShadesSpec)) eclipseShadesCard

/-- THE TIED CARD OF 'tellurionlaw07.EclipseLines'. -/
def eclipseLinesCard : Claim7 := { stood := { row := eclipseLinesRow, standIns := [], harness := (true, "3935588a274329483ec0b5feff908a72916f84273b0dd370d56e5180bf3ed620"), looks := true }, kinds := [], alts := [], laidByText := true, laidKinds := [.data, .data, .data, .data, .pinned], laidTests := true, laidLooks := .later }
def EclipseLinesCardSaid : Prop := Claim7.holds Tryz.pinned (.plain (OpenSpec.ofChange eclipseLinesSpec)) eclipseLinesCard

/-- THE TIED CARD OF 'tellurionlaw07.EclipseBigger'. -/
def eclipseBiggerCard : Claim7 := { stood := { row := eclipseBiggerRow, standIns := [], harness := (true, "3935588a274329483ec0b5feff908a72916f84273b0dd370d56e5180bf3ed620"), looks := true }, kinds := [], alts := [], laidByText := true, laidKinds := [.data, .data, .data, .data, .pinned], laidTests := true, laidLooks := .later }
def EclipseBiggerCardSaid : Prop := Claim7.holds Tryz.pinned (.plain (OpenSpec.ofChange eclipseBiggerSpec)) eclipseBiggerCard

/-- THE TIED CARD OF 'tellurionlaw07.EclipseMoves'. -/
def eclipseMovesCard : Claim7 := { stood := { row := eclipseMovesRow, standIns := [], harness := (true, "3935588a274329483ec0b5feff908a72916f84273b0dd370d56e5180bf3ed620"), looks := true }, kinds := [], alts := [], laidByText := true, laidKinds := [.data, .data, .data, .data, .pinned], laidTests := true, laidLooks := .later }
def EclipseMovesCardSaid : Prop := Claim7.holds Tryz.pinned (.plain (OpenSpec.ofChange eclipseMovesSpec)) eclipseMovesCard

/-- THE SECOND FORM's CARD OF 'tellurionlaw07.EclipsePrints'. -/
def eclipsePrintsUptoCard : Claim7 := { stood := { row := eclipsePrintsUptoRow, standIns := [], harness := (true, "3935588a274329483ec0b5feff908a72916f84273b0dd370d56e5180bf3ed620"), looks := true }, kinds := [], alts := [], laidByText := true, laidKinds := [.data, .data, .data, .data, .pinned], laidTests := true, laidLooks := .later }
def EclipsePrintsUptoCardSaid : Prop := Claim7.holds Tryz.pinned (.plain (OpenSpec.upto eclipsePrintsSpec)) eclipsePrintsUptoCard

/-- THE SECOND FORM's CARD OF 'tellurionlaw07.EclipseReads'. -/
def eclipseReadsUptoCard : Claim7 := { stood := { row := eclipseReadsUptoRow, standIns := [], harness := (true, "3935588a274329483ec0b5feff908a72916f84273b0dd370d56e5180bf3ed620"), looks := true }, kinds := [], alts := [], laidByText := true, laidKinds := [.data, .data, .data, .data, .pinned], laidTests := true, laidLooks := .later }
def EclipseReadsUptoCardSaid : Prop := Claim7.holds Tryz.pinned (.plain (OpenSpec.upto eclipseReadsSpec)) eclipseReadsUptoCard

/-- THE SECOND FORM's CARD OF 'tellurionlaw07.EclipseSpoilt'. -/
def eclipseSpoiltUptoCard : Claim7 := { stood := { row := eclipseSpoiltUptoRow, standIns := [], harness := (true, "3935588a274329483ec0b5feff908a72916f84273b0dd370d56e5180bf3ed620"), looks := true }, kinds := [], alts := [], laidByText := true, laidKinds := [.data, .data, .data, .data, .pinned], laidTests := true, laidLooks := .later }
def EclipseSpoiltUptoCardSaid : Prop := Claim7.holds Tryz.pinned (.plain (OpenSpec.upto eclipseSpoiltSpec)) eclipseSpoiltUptoCard

/-- THE SECOND FORM's CARD OF 'tellurionlaw07.EclipseShades'. -/
def eclipseShadesUptoCard : Claim7 := { stood := { row := eclipseShadesUptoRow, standIns := [], harness := (true, "3935588a274329483ec0b5feff908a72916f84273b0dd370d56e5180bf3ed620"), looks := true }, kinds := [], alts := [], laidByText := true, laidKinds := [.data, .data, .data, .data, .pinned], laidTests := true, laidLooks := .later }
def EclipseShadesUptoCardSaid : Prop := Claim7.holds Tryz.pinned (.plain (OpenSpec.upto eclipseShadesSpec)) eclipseShadesUptoCard

/-- THE SECOND FORM's CARD OF 'tellurionlaw07.EclipseLines'. -/
def eclipseLinesUptoCard : Claim7 := { stood := { row := eclipseLinesUptoRow, standIns := [], harness := (true, "3935588a274329483ec0b5feff908a72916f84273b0dd370d56e5180bf3ed620"), looks := true }, kinds := [], alts := [], laidByText := true, laidKinds := [.data, .data, .data, .data, .pinned], laidTests := true, laidLooks := .later }
def EclipseLinesUptoCardSaid : Prop := Claim7.holds Tryz.pinned (.plain (OpenSpec.upto eclipseLinesSpec)) eclipseLinesUptoCard

/-- THE SECOND FORM's CARD OF 'tellurionlaw07.EclipseBigger'. -/
def eclipseBiggerUptoCard : Claim7 := { stood := { row := eclipseBiggerUptoRow, standIns := [], harness := (true, "3935588a274329483ec0b5feff908a72916f84273b0dd370d56e5180bf3ed620"), looks := true }, kinds := [], alts := [], laidByText := true, laidKinds := [.data, .data, .data, .data, .pinned], laidTests := true, laidLooks := .later }
def EclipseBiggerUptoCardSaid : Prop := Claim7.holds Tryz.pinned (.plain (OpenSpec.upto eclipseBiggerSpec)) eclipseBiggerUptoCard

/-- THE SECOND FORM's CARD OF 'tellurionlaw07.EclipseMoves'. -/
def eclipseMovesUptoCard : Claim7 := { stood := { row := eclipseMovesUptoRow, standIns := [], harness := (true, "3935588a274329483ec0b5feff908a72916f84273b0dd370d56e5180bf3ed620"), looks := true }, kinds := [], alts := [], laidByText := true, laidKinds := [.data, .data, .data, .data, .pinned], laidTests := true, laidLooks := .later }
def EclipseMovesUptoCardSaid : Prop := Claim7.holds Tryz.pinned (.plain (OpenSpec.upto eclipseMovesSpec)) eclipseMovesUptoCard
end Rows
end Go.Proofs.YtepjdckdhddfbaaGreatDoor

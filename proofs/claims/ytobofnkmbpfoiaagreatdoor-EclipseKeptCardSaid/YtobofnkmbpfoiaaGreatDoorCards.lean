/-
  DERIVED. GIVEN WITH THE SEED: THE CARDS: each row of YtobofnkmbpfoiaaGreatDoorRows.lean that lists a variable, with what it lists TIED to the program's text (the seventh form; the later family's looks); each row that meets fmt, with fmt's text TOLD by the authors' own Lean function (tested against real Go, not proved from fmt's source: count such statements apart). THE CARD IS WHAT COUNTS. Prove the row's statement (the work); the ties are given (YtobofnkmbpfoiaaGreatDoorTie.lean); close each card by the builder's one call (the guide's Derived/Test/ToyasCard.lean, 'card_holds'). Laid BY PROGRAM, IN A SANDBOX (cutbox-door.mjs). By AI agents, Wed Nov 11 2026. No macro, syntax, notation, axiom, sorry.
-/
import Derived.Test.YtobofnkmbpfoiaaGreatDoorRows
import GoSem.ClaimSeven
namespace Go.Proofs.YtobofnkmbpfoiaaGreatDoor
namespace Rows

/-- THE TIED CARD OF 'tellurionlaw07.EclipseKept'. -/
def eclipseKeptCard : Claim7 := { stood := { row := eclipseKeptRow, standIns := [], harness := (true, "539264a627cb68ddccdac5f6e1e21e2c3e7f21e824bfeb59e102ee06b2d34115"), looks := true }, kinds := [], alts := [], laidByText := true, laidKinds := [.data, .data, .data, .data, .pinned], laidTests := true, laidLooks := .later }
def EclipseKeptCardSaid : Prop := Claim7.holds Tryz.pinned (.plain (OpenSpec.ofChange eclipseKeptSpec)) eclipseKeptCard

/-- THE TIED CARD OF 'tellurionlaw07.EclipseForetells'. -/
def eclipseForetellsCard : Claim7 := { stood := { row := eclipseForetellsRow, standIns := [], harness := (true, "539264a627cb68ddccdac5f6e1e21e2c3e7f21e824bfeb59e102ee06b2d34115"), looks := true }, kinds := [], alts := [], laidByText := true, laidKinds := [.data, .data, .data, .data, .pinned], laidTests := true, laidLooks := .later }
def EclipseForetellsCardSaid : Prop := Claim7.holds Tryz.pinned (.plain (OpenSpec.ofChange eclipseForetellsSpec)) eclipseForetellsCard

/-- THE TIED CARD OF 'tellurionlaw07.EclipseTold'. -/
def eclipseToldCard : Claim7 := { stood := { row := eclipseToldRow, standIns := [], harness := (true, "539264a627cb68ddccdac5f6e1e21e2c3e7f21e824bfeb59e102ee06b2d34115"), looks := true }, kinds := [], alts := [], laidByText := true, laidKinds := [.data, .data, .data, .data, .pinned], laidTests := true, laidLooks := .later }
def EclipseToldCardSaid : Prop := Claim7.holds Tryz.pinned (.plain (OpenSpec.ofChange eclipseToldSpec)) eclipseToldCard

/-- THE TIED CARD OF 'tellurionlaw07.EclipseWithins'. -/
def eclipseWithinsCard : Claim7 := { stood := { row := eclipseWithinsRow, standIns := [], harness := (true, "539264a627cb68ddccdac5f6e1e21e2c3e7f21e824bfeb59e102ee06b2d34115"), looks := true }, kinds := [], alts := [], laidByText := true, laidKinds := [.data, .data, .data, .data, .pinned], laidTests := true, laidLooks := .later }
def EclipseWithinsCardSaid : Prop := Claim7.holds Tryz.pinned (.plain (OpenSpec.ofChange eclipseWithinsSpec)) eclipseWithinsCard

/-- THE TIED CARD OF 'tellurionlaw07.EclipseMisses'. -/
def eclipseMissesCard : Claim7 := { stood := { row := eclipseMissesRow, standIns := [], harness := (true, "539264a627cb68ddccdac5f6e1e21e2c3e7f21e824bfeb59e102ee06b2d34115"), looks := true }, kinds := [], alts := [], laidByText := true, laidKinds := [.data, .data, .data, .data, .pinned], laidTests := true, laidLooks := .later }
def EclipseMissesCardSaid : Prop := Claim7.holds Tryz.pinned (.plain (OpenSpec.ofChange eclipseMissesSpec)) eclipseMissesCard

/-- THE TIED CARD OF 'tellurionlaw07.EclipseTrusted'. -/
def eclipseTrustedCard : Claim7 := { stood := { row := eclipseTrustedRow, standIns := [], harness := (true, "539264a627cb68ddccdac5f6e1e21e2c3e7f21e824bfeb59e102ee06b2d34115"), looks := true }, kinds := [], alts := [], laidByText := true, laidKinds := [.data, .data, .data, .data, .pinned], laidTests := true, laidLooks := .later }
def EclipseTrustedCardSaid : Prop := Claim7.holds Tryz.pinned (.plain (OpenSpec.ofChange eclipseTrustedSpec)) eclipseTrustedCard

/-- THE TIED CARD OF 'tellurionlaw07.EclipseFound'. -/
def eclipseFoundCard : Claim7 := { stood := { row := eclipseFoundRow, standIns := [], harness := (true, "539264a627cb68ddccdac5f6e1e21e2c3e7f21e824bfeb59e102ee06b2d34115"), looks := true }, kinds := [], alts := [], laidByText := true, laidKinds := [.data, .data, .data, .data, .pinned], laidTests := true, laidLooks := .later }
def EclipseFoundCardSaid : Prop := Claim7.holds Tryz.pinned (.plain (OpenSpec.ofChange eclipseFoundSpec)) eclipseFoundCard

/-- THE TIED CARD OF 'tellurionlaw07.EclipseWidens'. -/
def eclipseWidensCard : Claim7 := { stood := { row := eclipseWidensRow, standIns := [], harness := (true, "539264a627cb68ddccdac5f6e1e21e2c3e7f21e824bfeb59e102ee06b2d34115"), looks := true }, kinds := [], alts := [], laidByText := true, laidKinds := [.data, .data, .data, .data, .pinned], laidTests := true, laidLooks := .later }
def EclipseWidensCardSaid : Prop := Claim7.holds Tryz.pinned (.plain (OpenSpec.ofChange eclipseWidensSpec)) eclipseWidensCard

/-- THE TIED CARD OF 'tellurionlaw07.EclipseEnough'. -/
def eclipseEnoughCard : Claim7 := { stood := { row := eclipseEnoughRow, standIns := [], harness := (true, "539264a627cb68ddccdac5f6e1e21e2c3e7f21e824bfeb59e102ee06b2d34115"), looks := true }, kinds := [], alts := [], laidByText := true, laidKinds := [.data, .data, .data, .data, .pinned], laidTests := true, laidLooks := .later }
def EclipseEnoughCardSaid : Prop := Claim7.holds Tryz.pinned (.plain (OpenSpec.ofChange eclipseEnoughSpec)) eclipseEnoughCard

/-- THE TIED CARD OF 'tellurionlaw07.EclipseNever'. -/
def eclipseNeverCard : Claim7 := { stood := { row := eclipseNeverRow, standIns := [], harness := (true, "539264a627cb68ddccdac5f6e1e21e2c3e7f21e824bfeb59e102ee06b2d34115"), looks := true }, kinds := [], alts := [], laidByText := true, laidKinds := [.data, .data, .data, .data, .pinned], laidTests := true, laidLooks := .later }
def EclipseNeverCardSaid : Prop := Claim7.holds Tryz.pinned (.plain (OpenSpec.ofChange eclipseNeverSpec)) eclipseNeverCard

/-- THE TIED CARD OF 'tellurionlaw07.EclipseMore'. -/
def eclipseMoreCard : Claim7 := { stood := { row := eclipseMoreRow, standIns := [], harness := (true, "539264a627cb68ddccdac5f6e1e21e2c3e7f21e824bfeb59e102ee06b2d34115"), looks := true }, kinds := [], alts := [], laidByText := true, laidKinds := [.data, .data, .data, .data, .pinned], laidTests := true, laidLooks := .later }
def EclipseMoreCardSaid : Prop := Claim7.holds Tryz.pinned (.plain (OpenSpec.ofChange eclipseMoreSpec)) eclipseMoreCard

/-- THE TIED CARD OF 'tellurionlaw07.EclipseHands'. -/
def eclipseHandsCard : Claim7 := { stood := { row := eclipseHandsRow, standIns := [], harness := (true, "539264a627cb68ddccdac5f6e1e21e2c3e7f21e824bfeb59e102ee06b2d34115"), looks := true }, kinds := [], alts := [], laidByText := true, laidKinds := [.data, .data, .data, .data, .pinned], laidTests := true, laidLooks := .later }
def EclipseHandsCardSaid : Prop := Claim7.holds Tryz.pinned (.plain (OpenSpec.ofChange eclipseHandsSpec)) eclipseHandsCard

/-- THE SECOND FORM's CARD OF 'tellurionlaw07.EclipseKept'. -/
def eclipseKeptUptoCard : Claim7 := { stood := { row := eclipseKeptUptoRow, standIns := [], harness := (true, "539264a627cb68ddccdac5f6e1e21e2c3e7f21e824bfeb59e102ee06b2d34115"), looks := true }, kinds := [], alts := [], laidByText := true, laidKinds := [.data, .data, .data, .data, .pinned], laidTests := true, laidLooks := .later }
def EclipseKeptUptoCardSaid : Prop := Claim7.holds Tryz.pinned (.plain (OpenSpec.upto eclipseKeptSpec)) eclipseKeptUptoCard

/-- THE SECOND FORM's CARD OF 'tellurionlaw07.EclipseForetells'. -/
def eclipseForetellsUptoCard : Claim7 := { stood := { row := eclipseForetellsUptoRow, standIns := [], harness := (true, "539264a627cb68ddccdac5f6e1e21e2c3e7f21e824bfeb59e102ee06b2d34115"), looks := true }, kinds := [], alts := [], laidByText := true, laidKinds := [.data, .data, .data, .data, .pinned], laidTests := true, laidLooks := .later }
def EclipseForetellsUptoCardSaid : Prop := Claim7.holds Tryz.pinned (.plain (OpenSpec.upto eclipseForetellsSpec)) eclipseForetellsUptoCard

/-- THE SECOND FORM's CARD OF 'tellurionlaw07.EclipseTold'. -/
def eclipseToldUptoCard : Claim7 := { stood := { row := eclipseToldUptoRow, standIns := [], harness := (true, "539264a627cb68ddccdac5f6e1e21e2c3e7f21e824bfeb59e102ee06b2d34115"), looks := true }, kinds := [], alts := [], laidByText := true, laidKinds := [.data, .data, .data, .data, .pinned], laidTests := true, laidLooks := .later }
def EclipseToldUptoCardSaid : Prop := Claim7.holds Tryz.pinned (.plain (OpenSpec.upto eclipseToldSpec)) eclipseToldUptoCard

/-- THE SECOND FORM's CARD OF 'tellurionlaw07.EclipseWithins'. -/
def eclipseWithinsUptoCard : Claim7 := { stood := { row := eclipseWithinsUptoRow, standIns := [], harness := (true, "539264a627cb68ddccdac5f6e1e21e2c3e7f21e824bfeb59e102ee06b2d34115"), looks := true }, kinds := [], alts := [], laidByText := true, laidKinds := [.data, .data, .data, .data, .pinned], laidTests := true, laidLooks := .later }
def EclipseWithinsUptoCardSaid : Prop := Claim7.holds Tryz.pinned (.plain (OpenSpec.upto eclipseWithinsSpec)) eclipseWithinsUptoCard

/-- THE SECOND FORM's CARD OF 'tellurionlaw07.EclipseMisses'. -/
def eclipseMissesUptoCard : Claim7 := { stood := { row := eclipseMissesUptoRow, standIns := [], harness := (true, "539264a627cb68ddccdac5f6e1e21e2c3e7f21e824bfeb59e102ee06b2d34115"), looks := true }, kinds := [], alts := [], laidByText := true, laidKinds := [.data, .data, .data, .data, .pinned], laidTests := true, laidLooks := .later }
def EclipseMissesUptoCardSaid : Prop := Claim7.holds Tryz.pinned (.plain (OpenSpec.upto eclipseMissesSpec)) eclipseMissesUptoCard

/-- THE SECOND FORM's CARD OF 'tellurionlaw07.EclipseTrusted'. -/
def eclipseTrustedUptoCard : Claim7 := { stood := { row := eclipseTrustedUptoRow, standIns := [], harness := (true, "539264a627cb68ddccdac5f6e1e21e2c3e7f21e824bfeb59e102ee06b2d34115"), looks := true }, kinds := [], alts := [], laidByText := true, laidKinds := [.data, .data, .data, .data, .pinned], laidTests := true, laidLooks := .later }
def EclipseTrustedUptoCardSaid : Prop := Claim7.holds Tryz.pinned (.plain (OpenSpec.upto eclipseTrustedSpec)) eclipseTrustedUptoCard

/-- THE SECOND FORM's CARD OF 'tellurionlaw07.EclipseFound'. -/
def eclipseFoundUptoCard : Claim7 := { stood := { row := eclipseFoundUptoRow, standIns := [], harness := (true, "539264a627cb68ddccdac5f6e1e21e2c3e7f21e824bfeb59e102ee06b2d34115"), looks := true }, kinds := [], alts := [], laidByText := true, laidKinds := [.data, .data, .data, .data, .pinned], laidTests := true, laidLooks := .later }
def EclipseFoundUptoCardSaid : Prop := Claim7.holds Tryz.pinned (.plain (OpenSpec.upto eclipseFoundSpec)) eclipseFoundUptoCard

/-- THE SECOND FORM's CARD OF 'tellurionlaw07.EclipseWidens'. -/
def eclipseWidensUptoCard : Claim7 := { stood := { row := eclipseWidensUptoRow, standIns := [], harness := (true, "539264a627cb68ddccdac5f6e1e21e2c3e7f21e824bfeb59e102ee06b2d34115"), looks := true }, kinds := [], alts := [], laidByText := true, laidKinds := [.data, .data, .data, .data, .pinned], laidTests := true, laidLooks := .later }
def EclipseWidensUptoCardSaid : Prop := Claim7.holds Tryz.pinned (.plain (OpenSpec.upto eclipseWidensSpec)) eclipseWidensUptoCard

/-- THE SECOND FORM's CARD OF 'tellurionlaw07.EclipseEnough'. -/
def eclipseEnoughUptoCard : Claim7 := { stood := { row := eclipseEnoughUptoRow, standIns := [], harness := (true, "539264a627cb68ddccdac5f6e1e21e2c3e7f21e824bfeb59e102ee06b2d34115"), looks := true }, kinds := [], alts := [], laidByText := true, laidKinds := [.data, .data, .data, .data, .pinned], laidTests := true, laidLooks := .later }
def EclipseEnoughUptoCardSaid : Prop := Claim7.holds Tryz.pinned (.plain (OpenSpec.upto eclipseEnoughSpec)) eclipseEnoughUptoCard

/-- THE SECOND FORM's CARD OF 'tellurionlaw07.EclipseNever'. -/
def eclipseNeverUptoCard : Claim7 := { stood := { row := eclipseNeverUptoRow, standIns := [], harness := (true, "539264a627cb68ddccdac5f6e1e21e2c3e7f21e824bfeb59e102ee06b2d34115"), looks := true }, kinds := [], alts := [], laidByText := true, laidKinds := [.data, .data, .data, .data, .pinned], laidTests := true, laidLooks := .later }
def EclipseNeverUptoCardSaid : Prop := Claim7.holds Tryz.pinned (.plain (OpenSpec.upto eclipseNeverSpec)) eclipseNeverUptoCard

/-- THE SECOND FORM's CARD OF 'tellurionlaw07.EclipseMore'. -/
def eclipseMoreUptoCard : Claim7 := { stood := { row := eclipseMoreUptoRow, standIns := [], harness := (true, "539264a627cb68ddccdac5f6e1e21e2c3e7f21e824bfeb59e102ee06b2d34115"), looks := true }, kinds := [], alts := [], laidByText := true, laidKinds := [.data, .data, .data, .data, .pinned], laidTests := true, laidLooks := .later }
def EclipseMoreUptoCardSaid : Prop := Claim7.holds Tryz.pinned (.plain (OpenSpec.upto eclipseMoreSpec)) eclipseMoreUptoCard

/-- THE SECOND FORM's CARD OF 'tellurionlaw07.EclipseHands'. -/
def eclipseHandsUptoCard : Claim7 := { stood := { row := eclipseHandsUptoRow, standIns := [], harness := (true, "539264a627cb68ddccdac5f6e1e21e2c3e7f21e824bfeb59e102ee06b2d34115"), looks := true }, kinds := [], alts := [], laidByText := true, laidKinds := [.data, .data, .data, .data, .pinned], laidTests := true, laidLooks := .later }
def EclipseHandsUptoCardSaid : Prop := Claim7.holds Tryz.pinned (.plain (OpenSpec.upto eclipseHandsSpec)) eclipseHandsUptoCard
end Rows
end Go.Proofs.YtobofnkmbpfoiaaGreatDoor

/-
  DERIVED. GIVEN WITH THE SEED: THE CARDS: each row of YtkfnogdkfedaaaaGreatDoorRows.lean that lists a variable, with what it lists TIED to the program's text (the seventh form; the later family's looks); each row that meets fmt, with fmt's text TOLD by the authors' own Lean function (tested against real Go, not proved from fmt's source: count such statements apart). THE CARD IS WHAT COUNTS. Prove the row's statement (the work); the ties are given (YtkfnogdkfedaaaaGreatDoorTie.lean); close each card by the builder's one call (the guide's Derived/Test/ToyasCard.lean, 'card_holds'). Laid BY PROGRAM, IN A SANDBOX (cutbox-door.mjs). By AI agents, Wed Nov 11 2026. No macro, syntax, notation, axiom, sorry.
-/
import Derived.Test.YtkfnogdkfedaaaaGreatDoorRows
import GoSem.ClaimSeven
namespace Go.Proofs.YtkfnogdkfedaaaaGreatDoor
namespace Rows

/-- THE TIED CARD OF 'gatekeep2.ControlsComeBack'. -/
def controlsComeBackCard : Claim7 := { stood := { row := controlsComeBackRow, standIns := [], harness := (true, "40c3a049b14b0d346b11e617870cc33aa8424c30e500544e6c1f61ffd63f9780"), looks := true }, kinds := [], alts := [], laidByText := true, laidKinds := [.data, .data, .data, .data, .sentinel, .sentinel, .data, .data, .pinned, .pinned], laidTests := true, laidLooks := .later }
def ControlsComeBackCardSaid : Prop := Claim7.holds Tryz.pinned (.plain (OpenSpec.ofChange controlsComeBackSpec)) controlsComeBackCard

/-- THE TIED CARD OF 'gatekeep2.HeadersSet'. -/
def headersSetCard : Claim7 := { stood := { row := headersSetRow, standIns := [], harness := (true, "40c3a049b14b0d346b11e617870cc33aa8424c30e500544e6c1f61ffd63f9780"), looks := true }, kinds := [], alts := [], laidByText := true, laidKinds := [.data, .data, .data, .data, .sentinel, .sentinel, .data, .data, .pinned, .pinned], laidTests := true, laidLooks := .later }
def HeadersSetCardSaid : Prop := Claim7.holds Tryz.pinned (.plain (OpenSpec.ofChange headersSetSpec)) headersSetCard

/-- THE TIED CARD OF 'gatekeep2.SwitchesProtect'. -/
def switchesProtectCard : Claim7 := { stood := { row := switchesProtectRow, standIns := [], harness := (true, "40c3a049b14b0d346b11e617870cc33aa8424c30e500544e6c1f61ffd63f9780"), looks := true }, kinds := [], alts := [], laidByText := true, laidKinds := [.data, .data, .data, .data, .sentinel, .sentinel, .data, .data, .pinned, .pinned], laidTests := true, laidLooks := .later }
def SwitchesProtectCardSaid : Prop := Claim7.holds Tryz.pinned (.plain (OpenSpec.ofChange switchesProtectSpec)) switchesProtectCard

/-- THE TIED CARD OF 'gatekeep2.ScopesAgree'. -/
def scopesAgreeCard : Claim7 := { stood := { row := scopesAgreeRow, standIns := [], harness := (true, "40c3a049b14b0d346b11e617870cc33aa8424c30e500544e6c1f61ffd63f9780"), looks := true }, kinds := [], alts := [], laidByText := true, laidKinds := [.data, .data, .data, .data, .sentinel, .sentinel, .data, .data, .pinned, .pinned], laidTests := true, laidLooks := .later }
def ScopesAgreeCardSaid : Prop := Claim7.holds Tryz.pinned (.plain (OpenSpec.ofChange scopesAgreeSpec)) scopesAgreeCard

/-- THE TIED CARD OF 'gatekeep2.HealthIsByItself'. -/
def healthIsByItselfCard : Claim7 := { stood := { row := healthIsByItselfRow, standIns := [], harness := (true, "40c3a049b14b0d346b11e617870cc33aa8424c30e500544e6c1f61ffd63f9780"), looks := true }, kinds := [], alts := [], laidByText := true, laidKinds := [.data, .data, .data, .data, .sentinel, .sentinel, .data, .data, .pinned, .pinned], laidTests := true, laidLooks := .later }
def HealthIsByItselfCardSaid : Prop := Claim7.holds Tryz.pinned (.plain (OpenSpec.ofChange healthIsByItselfSpec)) healthIsByItselfCard

/-- THE TIED CARD OF 'gatekeep2.RotationsCover'. -/
def rotationsCoverCard : Claim7 := { stood := { row := rotationsCoverRow, standIns := [], harness := (true, "40c3a049b14b0d346b11e617870cc33aa8424c30e500544e6c1f61ffd63f9780"), looks := true }, kinds := [], alts := [], laidByText := true, laidKinds := [.data, .data, .data, .data, .sentinel, .sentinel, .data, .data, .pinned, .pinned], laidTests := true, laidLooks := .later }
def RotationsCoverCardSaid : Prop := Claim7.holds Tryz.pinned (.plain (OpenSpec.ofChange rotationsCoverSpec)) rotationsCoverCard

/-- THE TIED CARD OF 'gatekeep2.PricesGrow'. -/
def pricesGrowCard : Claim7 := { stood := { row := pricesGrowRow, standIns := [], harness := (true, "40c3a049b14b0d346b11e617870cc33aa8424c30e500544e6c1f61ffd63f9780"), looks := true }, kinds := [], alts := [], laidByText := true, laidKinds := [.data, .data, .data, .data, .sentinel, .sentinel, .data, .data, .pinned, .pinned], laidTests := true, laidLooks := .later }
def PricesGrowCardSaid : Prop := Claim7.holds Tryz.pinned (.plain (OpenSpec.ofChange pricesGrowSpec)) pricesGrowCard

/-- THE TIED CARD OF 'gatekeep2.BoundsHold'. -/
def boundsHoldCard : Claim7 := { stood := { row := boundsHoldRow, standIns := [], harness := (true, "40c3a049b14b0d346b11e617870cc33aa8424c30e500544e6c1f61ffd63f9780"), looks := true }, kinds := [], alts := [], laidByText := true, laidKinds := [.data, .data, .data, .data, .sentinel, .sentinel, .data, .data, .pinned, .pinned], laidTests := true, laidLooks := .later }
def BoundsHoldCardSaid : Prop := Claim7.holds Tryz.pinned (.plain (OpenSpec.ofChange boundsHoldSpec)) boundsHoldCard

/-- THE TIED CARD OF 'gatekeep2.KeysStay'. -/
def keysStayCard : Claim7 := { stood := { row := keysStayRow, standIns := [], harness := (true, "40c3a049b14b0d346b11e617870cc33aa8424c30e500544e6c1f61ffd63f9780"), looks := true }, kinds := [], alts := [], laidByText := true, laidKinds := [.data, .data, .data, .data, .sentinel, .sentinel, .data, .data, .pinned, .pinned], laidTests := true, laidLooks := .later }
def KeysStayCardSaid : Prop := Claim7.holds Tryz.pinned (.plain (OpenSpec.ofChange keysStaySpec)) keysStayCard

/-- THE SECOND FORM's CARD OF 'gatekeep2.ControlsComeBack'. -/
def controlsComeBackUptoCard : Claim7 := { stood := { row := controlsComeBackUptoRow, standIns := [], harness := (true, "40c3a049b14b0d346b11e617870cc33aa8424c30e500544e6c1f61ffd63f9780"), looks := true }, kinds := [], alts := [], laidByText := true, laidKinds := [.data, .data, .data, .data, .sentinel, .sentinel, .data, .data, .pinned, .pinned], laidTests := true, laidLooks := .later }
def ControlsComeBackUptoCardSaid : Prop := Claim7.holds Tryz.pinned (.plain (OpenSpec.upto controlsComeBackSpec)) controlsComeBackUptoCard

/-- THE SECOND FORM's CARD OF 'gatekeep2.HeadersSet'. -/
def headersSetUptoCard : Claim7 := { stood := { row := headersSetUptoRow, standIns := [], harness := (true, "40c3a049b14b0d346b11e617870cc33aa8424c30e500544e6c1f61ffd63f9780"), looks := true }, kinds := [], alts := [], laidByText := true, laidKinds := [.data, .data, .data, .data, .sentinel, .sentinel, .data, .data, .pinned, .pinned], laidTests := true, laidLooks := .later }
def HeadersSetUptoCardSaid : Prop := Claim7.holds Tryz.pinned (.plain (OpenSpec.upto headersSetSpec)) headersSetUptoCard

/-- THE SECOND FORM's CARD OF 'gatekeep2.SwitchesProtect'. -/
def switchesProtectUptoCard : Claim7 := { stood := { row := switchesProtectUptoRow, standIns := [], harness := (true, "40c3a049b14b0d346b11e617870cc33aa8424c30e500544e6c1f61ffd63f9780"), looks := true }, kinds := [], alts := [], laidByText := true, laidKinds := [.data, .data, .data, .data, .sentinel, .sentinel, .data, .data, .pinned, .pinned], laidTests := true, laidLooks := .later }
def SwitchesProtectUptoCardSaid : Prop := Claim7.holds Tryz.pinned (.plain (OpenSpec.upto switchesProtectSpec)) switchesProtectUptoCard

/-- THE SECOND FORM's CARD OF 'gatekeep2.ScopesAgree'. -/
def scopesAgreeUptoCard : Claim7 := { stood := { row := scopesAgreeUptoRow, standIns := [], harness := (true, "40c3a049b14b0d346b11e617870cc33aa8424c30e500544e6c1f61ffd63f9780"), looks := true }, kinds := [], alts := [], laidByText := true, laidKinds := [.data, .data, .data, .data, .sentinel, .sentinel, .data, .data, .pinned, .pinned], laidTests := true, laidLooks := .later }
def ScopesAgreeUptoCardSaid : Prop := Claim7.holds Tryz.pinned (.plain (OpenSpec.upto scopesAgreeSpec)) scopesAgreeUptoCard

/-- THE SECOND FORM's CARD OF 'gatekeep2.HealthIsByItself'. -/
def healthIsByItselfUptoCard : Claim7 := { stood := { row := healthIsByItselfUptoRow, standIns := [], harness := (true, "40c3a049b14b0d346b11e617870cc33aa8424c30e500544e6c1f61ffd63f9780"), looks := true }, kinds := [], alts := [], laidByText := true, laidKinds := [.data, .data, .data, .data, .sentinel, .sentinel, .data, .data, .pinned, .pinned], laidTests := true, laidLooks := .later }
def HealthIsByItselfUptoCardSaid : Prop := Claim7.holds Tryz.pinned (.plain (OpenSpec.upto healthIsByItselfSpec)) healthIsByItselfUptoCard

/-- THE SECOND FORM's CARD OF 'gatekeep2.RotationsCover'. -/
def rotationsCoverUptoCard : Claim7 := { stood := { row := rotationsCoverUptoRow, standIns := [], harness := (true, "40c3a049b14b0d346b11e617870cc33aa8424c30e500544e6c1f61ffd63f9780"), looks := true }, kinds := [], alts := [], laidByText := true, laidKinds := [.data, .data, .data, .data, .sentinel, .sentinel, .data, .data, .pinned, .pinned], laidTests := true, laidLooks := .later }
def RotationsCoverUptoCardSaid : Prop := Claim7.holds Tryz.pinned (.plain (OpenSpec.upto rotationsCoverSpec)) rotationsCoverUptoCard

/-- THE SECOND FORM's CARD OF 'gatekeep2.PricesGrow'. -/
def pricesGrowUptoCard : Claim7 := { stood := { row := pricesGrowUptoRow, standIns := [], harness := (true, "40c3a049b14b0d346b11e617870cc33aa8424c30e500544e6c1f61ffd63f9780"), looks := true }, kinds := [], alts := [], laidByText := true, laidKinds := [.data, .data, .data, .data, .sentinel, .sentinel, .data, .data, .pinned, .pinned], laidTests := true, laidLooks := .later }
def PricesGrowUptoCardSaid : Prop := Claim7.holds Tryz.pinned (.plain (OpenSpec.upto pricesGrowSpec)) pricesGrowUptoCard

/-- THE SECOND FORM's CARD OF 'gatekeep2.BoundsHold'. -/
def boundsHoldUptoCard : Claim7 := { stood := { row := boundsHoldUptoRow, standIns := [], harness := (true, "40c3a049b14b0d346b11e617870cc33aa8424c30e500544e6c1f61ffd63f9780"), looks := true }, kinds := [], alts := [], laidByText := true, laidKinds := [.data, .data, .data, .data, .sentinel, .sentinel, .data, .data, .pinned, .pinned], laidTests := true, laidLooks := .later }
def BoundsHoldUptoCardSaid : Prop := Claim7.holds Tryz.pinned (.plain (OpenSpec.upto boundsHoldSpec)) boundsHoldUptoCard

/-- THE SECOND FORM's CARD OF 'gatekeep2.KeysStay'. -/
def keysStayUptoCard : Claim7 := { stood := { row := keysStayUptoRow, standIns := [], harness := (true, "40c3a049b14b0d346b11e617870cc33aa8424c30e500544e6c1f61ffd63f9780"), looks := true }, kinds := [], alts := [], laidByText := true, laidKinds := [.data, .data, .data, .data, .sentinel, .sentinel, .data, .data, .pinned, .pinned], laidTests := true, laidLooks := .later }
def KeysStayUptoCardSaid : Prop := Claim7.holds Tryz.pinned (.plain (OpenSpec.upto keysStaySpec)) keysStayUptoCard
end Rows
end Go.Proofs.YtkfnogdkfedaaaaGreatDoor

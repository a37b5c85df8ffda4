/-
  DERIVED. GIVEN WITH THE SEED: THE CARDS: each row of YthgjnpmebjlecaaGreatDoorRows.lean that lists a variable, with what it lists TIED to the program's text (the seventh form; the later family's looks); each row that meets fmt, with fmt's text TOLD by the authors' own Lean function (tested against real Go, not proved from fmt's source: count such statements apart). THE CARD IS WHAT COUNTS. Prove the row's statement (the work); the ties are given (YthgjnpmebjlecaaGreatDoorTie.lean); close each card by the builder's one call (the guide's Derived/Test/ToyasCard.lean, 'card_holds'). Laid BY PROGRAM, IN A SANDBOX (cutbox-door.mjs). By AI agents, Wed Nov 11 2026. No macro, syntax, notation, axiom, sorry.
-/
import Derived.Test.YthgjnpmebjlecaaGreatDoorRows
import GoSem.ClaimSeven
namespace Go.Proofs.YthgjnpmebjlecaaGreatDoor
namespace Rows

/-- THE TIED CARD OF 'gatekeep2.RoundsAreFair'. -/
def roundsAreFairCard : Claim7 := { stood := { row := roundsAreFairRow, standIns := [], harness := (true, "e93cb64ece7ff276976630ac5545c3f3b25f1c87c1cf62e3ff66c485db48a93d"), looks := true }, kinds := [], alts := [], laidByText := true, laidKinds := [.data, .data, .data, .data, .sentinel, .sentinel, .data, .data, .pinned, .pinned], laidTests := true, laidLooks := .later }
def RoundsAreFairCardSaid : Prop := Claim7.holds Tryz.pinned (.plain (OpenSpec.ofChange roundsAreFairSpec)) roundsAreFairCard

/-- THE TIED CARD OF 'gatekeep2.PercentilesRank'. -/
def percentilesRankCard : Claim7 := { stood := { row := percentilesRankRow, standIns := [], harness := (true, "e93cb64ece7ff276976630ac5545c3f3b25f1c87c1cf62e3ff66c485db48a93d"), looks := true }, kinds := [], alts := [], laidByText := true, laidKinds := [.data, .data, .data, .data, .sentinel, .sentinel, .data, .data, .pinned, .pinned], laidTests := true, laidLooks := .later }
def PercentilesRankCardSaid : Prop := Claim7.holds Tryz.pinned (.plain (OpenSpec.ofChange percentilesRankSpec)) percentilesRankCard

/-- THE TIED CARD OF 'gatekeep2.ControlsComeBack'. -/
def controlsComeBackCard : Claim7 := { stood := { row := controlsComeBackRow, standIns := [], harness := (true, "e93cb64ece7ff276976630ac5545c3f3b25f1c87c1cf62e3ff66c485db48a93d"), looks := true }, kinds := [], alts := [], laidByText := true, laidKinds := [.data, .data, .data, .data, .sentinel, .sentinel, .data, .data, .pinned, .pinned], laidTests := true, laidLooks := .later }
def ControlsComeBackCardSaid : Prop := Claim7.holds Tryz.pinned (.plain (OpenSpec.ofChange controlsComeBackSpec)) controlsComeBackCard

/-- THE SECOND FORM's CARD OF 'gatekeep2.RoundsAreFair'. -/
def roundsAreFairUptoCard : Claim7 := { stood := { row := roundsAreFairUptoRow, standIns := [], harness := (true, "e93cb64ece7ff276976630ac5545c3f3b25f1c87c1cf62e3ff66c485db48a93d"), looks := true }, kinds := [], alts := [], laidByText := true, laidKinds := [.data, .data, .data, .data, .sentinel, .sentinel, .data, .data, .pinned, .pinned], laidTests := true, laidLooks := .later }
def RoundsAreFairUptoCardSaid : Prop := Claim7.holds Tryz.pinned (.plain (OpenSpec.upto roundsAreFairSpec)) roundsAreFairUptoCard

/-- THE SECOND FORM's CARD OF 'gatekeep2.PercentilesRank'. -/
def percentilesRankUptoCard : Claim7 := { stood := { row := percentilesRankUptoRow, standIns := [], harness := (true, "e93cb64ece7ff276976630ac5545c3f3b25f1c87c1cf62e3ff66c485db48a93d"), looks := true }, kinds := [], alts := [], laidByText := true, laidKinds := [.data, .data, .data, .data, .sentinel, .sentinel, .data, .data, .pinned, .pinned], laidTests := true, laidLooks := .later }
def PercentilesRankUptoCardSaid : Prop := Claim7.holds Tryz.pinned (.plain (OpenSpec.upto percentilesRankSpec)) percentilesRankUptoCard

/-- THE SECOND FORM's CARD OF 'gatekeep2.ControlsComeBack'. -/
def controlsComeBackUptoCard : Claim7 := { stood := { row := controlsComeBackUptoRow, standIns := [], harness := (true, "e93cb64ece7ff276976630ac5545c3f3b25f1c87c1cf62e3ff66c485db48a93d"), looks := true }, kinds := [], alts := [], laidByText := true, laidKinds := [.data, .data, .data, .data, .sentinel, .sentinel, .data, .data, .pinned, .pinned], laidTests := true, laidLooks := .later }
def ControlsComeBackUptoCardSaid : Prop := Claim7.holds Tryz.pinned (.plain (OpenSpec.upto controlsComeBackSpec)) controlsComeBackUptoCard
end Rows
end Go.Proofs.YthgjnpmebjlecaaGreatDoor

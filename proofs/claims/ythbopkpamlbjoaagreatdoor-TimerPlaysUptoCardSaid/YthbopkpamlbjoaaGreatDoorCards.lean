/-
  DERIVED. GIVEN WITH THE SEED: THE CARDS: each row of YthbopkpamlbjoaaGreatDoorRows.lean that lists a variable, with what it lists TIED to the program's text (the seventh form; the later family's looks); each row that meets fmt, with fmt's text TOLD by the authors' own Lean function (tested against real Go, not proved from fmt's source: count such statements apart). THE CARD IS WHAT COUNTS. Prove the row's statement (the work); the ties are given (YthbopkpamlbjoaaGreatDoorTie.lean); close each card by the builder's one call (the guide's Derived/Test/ToyasCard.lean, 'card_holds'). Laid BY PROGRAM, IN A SANDBOX (cutbox-door.mjs). By AI agents, Wed Nov 11 2026. No macro, syntax, notation, axiom, sorry.
-/
import Derived.Test.YthbopkpamlbjoaaGreatDoorRows
import GoSem.ClaimSeven
namespace Go.Proofs.YthbopkpamlbjoaaGreatDoor
namespace Rows

/-- THE TIED CARD OF 'clepsydralaw10.NextFirst'. -/
def nextFirstCard : Claim7 := { stood := { row := nextFirstRow, standIns := [], harness := (true, "60add8a4c9f3c8fabb5ff255f3d1499bd0cb24e6c53bc2d2d7150e64c5265d6a"), looks := true }, kinds := [], alts := [], laidByText := true, laidKinds := [.data, .data, .data, .data, .sentinel, .sentinel, .pinned], laidTests := true, laidLooks := .later }
def NextFirstCardSaid : Prop := Claim7.holds Tryz.pinned (.plain (OpenSpec.ofChange nextFirstSpec)) nextFirstCard

/-- THE TIED CARD OF 'clepsydralaw29.TimerCalendar'. -/
def timerCalendarCard : Claim7 := { stood := { row := timerCalendarRow, standIns := [], harness := (true, "60add8a4c9f3c8fabb5ff255f3d1499bd0cb24e6c53bc2d2d7150e64c5265d6a"), looks := true }, kinds := [], alts := [], laidByText := true, laidKinds := [.data, .data, .data, .data, .sentinel, .sentinel, .pinned], laidTests := true, laidLooks := .later }
def TimerCalendarCardSaid : Prop := Claim7.holds Tryz.pinned (.plain (OpenSpec.ofChange timerCalendarSpec)) timerCalendarCard

/-- THE TIED CARD OF 'clepsydralaw29.TimerMore'. -/
def timerMoreCard : Claim7 := { stood := { row := timerMoreRow, standIns := [], harness := (true, "60add8a4c9f3c8fabb5ff255f3d1499bd0cb24e6c53bc2d2d7150e64c5265d6a"), looks := true }, kinds := [], alts := [], laidByText := true, laidKinds := [.data, .data, .data, .data, .sentinel, .sentinel, .pinned], laidTests := true, laidLooks := .later }
def TimerMoreCardSaid : Prop := Claim7.holds Tryz.pinned (.plain (OpenSpec.ofChange timerMoreSpec)) timerMoreCard

/-- THE TIED CARD OF 'clepsydralaw29.TimerNever'. -/
def timerNeverCard : Claim7 := { stood := { row := timerNeverRow, standIns := [], harness := (true, "60add8a4c9f3c8fabb5ff255f3d1499bd0cb24e6c53bc2d2d7150e64c5265d6a"), looks := true }, kinds := [], alts := [], laidByText := true, laidKinds := [.data, .data, .data, .data, .sentinel, .sentinel, .pinned], laidTests := true, laidLooks := .later }
def TimerNeverCardSaid : Prop := Claim7.holds Tryz.pinned (.plain (OpenSpec.ofChange timerNeverSpec)) timerNeverCard

/-- THE TIED CARD OF 'clepsydralaw29.TimerPlays'. -/
def timerPlaysCard : Claim7 := { stood := { row := timerPlaysRow, standIns := [], harness := (true, "60add8a4c9f3c8fabb5ff255f3d1499bd0cb24e6c53bc2d2d7150e64c5265d6a"), looks := true }, kinds := [], alts := [], laidByText := true, laidKinds := [.data, .data, .data, .data, .sentinel, .sentinel, .pinned], laidTests := true, laidLooks := .later }
def TimerPlaysCardSaid : Prop := Claim7.holds Tryz.pinned (.plain (OpenSpec.ofChange timerPlaysSpec)) timerPlaysCard

/-- THE TIED CARD OF 'clepsydralaw29.TimerKnown'. -/
def timerKnownCard : Claim7 := { stood := { row := timerKnownRow, standIns := [], harness := (true, "60add8a4c9f3c8fabb5ff255f3d1499bd0cb24e6c53bc2d2d7150e64c5265d6a"), looks := true }, kinds := [], alts := [], laidByText := true, laidKinds := [.data, .data, .data, .data, .sentinel, .sentinel, .pinned], laidTests := true, laidLooks := .later }
def TimerKnownCardSaid : Prop := Claim7.holds Tryz.pinned (.plain (OpenSpec.ofChange timerKnownSpec)) timerKnownCard

/-- THE SECOND FORM's CARD OF 'clepsydralaw10.NextFirst'. -/
def nextFirstUptoCard : Claim7 := { stood := { row := nextFirstUptoRow, standIns := [], harness := (true, "60add8a4c9f3c8fabb5ff255f3d1499bd0cb24e6c53bc2d2d7150e64c5265d6a"), looks := true }, kinds := [], alts := [], laidByText := true, laidKinds := [.data, .data, .data, .data, .sentinel, .sentinel, .pinned], laidTests := true, laidLooks := .later }
def NextFirstUptoCardSaid : Prop := Claim7.holds Tryz.pinned (.plain (OpenSpec.upto nextFirstSpec)) nextFirstUptoCard

/-- THE SECOND FORM's CARD OF 'clepsydralaw29.TimerCalendar'. -/
def timerCalendarUptoCard : Claim7 := { stood := { row := timerCalendarUptoRow, standIns := [], harness := (true, "60add8a4c9f3c8fabb5ff255f3d1499bd0cb24e6c53bc2d2d7150e64c5265d6a"), looks := true }, kinds := [], alts := [], laidByText := true, laidKinds := [.data, .data, .data, .data, .sentinel, .sentinel, .pinned], laidTests := true, laidLooks := .later }
def TimerCalendarUptoCardSaid : Prop := Claim7.holds Tryz.pinned (.plain (OpenSpec.upto timerCalendarSpec)) timerCalendarUptoCard

/-- THE SECOND FORM's CARD OF 'clepsydralaw29.TimerMore'. -/
def timerMoreUptoCard : Claim7 := { stood := { row := timerMoreUptoRow, standIns := [], harness := (true, "60add8a4c9f3c8fabb5ff255f3d1499bd0cb24e6c53bc2d2d7150e64c5265d6a"), looks := true }, kinds := [], alts := [], laidByText := true, laidKinds := [.data, .data, .data, .data, .sentinel, .sentinel, .pinned], laidTests := true, laidLooks := .later }
def TimerMoreUptoCardSaid : Prop := Claim7.holds Tryz.pinned (.plain (OpenSpec.upto timerMoreSpec)) timerMoreUptoCard

/-- THE SECOND FORM's CARD OF 'clepsydralaw29.TimerNever'. -/
def timerNeverUptoCard : Claim7 := { stood := { row := timerNeverUptoRow, standIns := [], harness := (true, "60add8a4c9f3c8fabb5ff255f3d1499bd0cb24e6c53bc2d2d7150e64c5265d6a"), looks := true }, kinds := [], alts := [], laidByText := true, laidKinds := [.data, .data, .data, .data, .sentinel, .sentinel, .pinned], laidTests := true, laidLooks := .later }
def TimerNeverUptoCardSaid : Prop := Claim7.holds Tryz.pinned (.plain (OpenSpec.upto timerNeverSpec)) timerNeverUptoCard

/-- THE SECOND FORM's CARD OF 'clepsydralaw29.TimerPlays'. -/
def timerPlaysUptoCard : Claim7 := { stood := { row := timerPlaysUptoRow, standIns := [], harness := (true, "60add8a4c9f3c8fabb5ff255f3d1499bd0cb24e6c53bc2d2d7150e64c5265d6a"), looks := true }, kinds := [], alts := [], laidByText := true, laidKinds := [.data, .data, .data, .data, .sentinel, .sentinel, .pinned], laidTests := true, laidLooks := .later }
def TimerPlaysUptoCardSaid : Prop := Claim7.holds Tryz.pinned (.plain (OpenSpec.upto timerPlaysSpec)) timerPlaysUptoCard

/-- THE SECOND FORM's CARD OF 'clepsydralaw29.TimerKnown'. -/
def timerKnownUptoCard : Claim7 := { stood := { row := timerKnownUptoRow, standIns := [], harness := (true, "60add8a4c9f3c8fabb5ff255f3d1499bd0cb24e6c53bc2d2d7150e64c5265d6a"), looks := true }, kinds := [], alts := [], laidByText := true, laidKinds := [.data, .data, .data, .data, .sentinel, .sentinel, .pinned], laidTests := true, laidLooks := .later }
def TimerKnownUptoCardSaid : Prop := Claim7.holds Tryz.pinned (.plain (OpenSpec.upto timerKnownSpec)) timerKnownUptoCard
end Rows
end Go.Proofs.YthbopkpamlbjoaaGreatDoor

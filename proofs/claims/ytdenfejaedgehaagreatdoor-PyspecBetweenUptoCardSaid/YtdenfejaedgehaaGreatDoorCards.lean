/-
  DERIVED. GIVEN WITH THE SEED: THE CARDS: each row of YtdenfejaedgehaaGreatDoorRows.lean that lists a variable, with what it lists TIED to the program's text (the seventh form; the later family's looks); each row that meets fmt, with fmt's text TOLD by the authors' own Lean function (tested against real Go, not proved from fmt's source: count such statements apart). THE CARD IS WHAT COUNTS. Prove the row's statement (the work); the ties are given (YtdenfejaedgehaaGreatDoorTie.lean); close each card by the builder's one call (the guide's Derived/Test/ToyasCard.lean, 'card_holds'). Laid BY PROGRAM, IN A SANDBOX (cutbox-door.mjs). By AI agents, Wed Nov 11 2026. No macro, syntax, notation, axiom, sorry.
-/
import Derived.Test.YtdenfejaedgehaaGreatDoorRows
import GoSem.ClaimSeven
namespace Go.Proofs.YtdenfejaedgehaaGreatDoor
namespace Rows

/-- THE TIED CARD OF 'dovetaillaw10.PyspecBack'. -/
def pyspecBackCard : Claim7 := { stood := { row := pyspecBackRow, standIns := [], harness := (true, "b88a31f1b074ea2a0b58370d5fbe808b146f1a8c95fc641153118555b8a7c54a"), looks := false }, kinds := [], alts := [], laidByText := true, laidKinds := [.data, .pinned], laidTests := true, laidLooks := .later }
def PyspecBackCardSaid : Prop := Claim7.holds Tryz.pinned (.plain (OpenSpec.ofChange pyspecBackSpec)) pyspecBackCard

/-- THE TIED CARD OF 'dovetaillaw10.PyspecBetween'. -/
def pyspecBetweenCard : Claim7 := { stood := { row := pyspecBetweenRow, standIns := [], harness := (true, "b88a31f1b074ea2a0b58370d5fbe808b146f1a8c95fc641153118555b8a7c54a"), looks := false }, kinds := [], alts := [], laidByText := true, laidKinds := [.data, .pinned], laidTests := true, laidLooks := .later }
def PyspecBetweenCardSaid : Prop := Claim7.holds Tryz.pinned (.plain (OpenSpec.ofChange pyspecBetweenSpec)) pyspecBetweenCard

/-- THE TIED CARD OF 'dovetaillaw10.PyspecBoth'. -/
def pyspecBothCard : Claim7 := { stood := { row := pyspecBothRow, standIns := [], harness := (true, "b88a31f1b074ea2a0b58370d5fbe808b146f1a8c95fc641153118555b8a7c54a"), looks := false }, kinds := [], alts := [], laidByText := true, laidKinds := [.data, .pinned], laidTests := true, laidLooks := .later }
def PyspecBothCardSaid : Prop := Claim7.holds Tryz.pinned (.plain (OpenSpec.ofChange pyspecBothSpec)) pyspecBothCard

/-- THE SECOND FORM's CARD OF 'dovetaillaw10.PyspecBack'. -/
def pyspecBackUptoCard : Claim7 := { stood := { row := pyspecBackUptoRow, standIns := [], harness := (true, "b88a31f1b074ea2a0b58370d5fbe808b146f1a8c95fc641153118555b8a7c54a"), looks := false }, kinds := [], alts := [], laidByText := true, laidKinds := [.data, .pinned], laidTests := true, laidLooks := .later }
def PyspecBackUptoCardSaid : Prop := Claim7.holds Tryz.pinned (.plain (OpenSpec.upto pyspecBackSpec)) pyspecBackUptoCard

/-- THE SECOND FORM's CARD OF 'dovetaillaw10.PyspecBetween'. -/
def pyspecBetweenUptoCard : Claim7 := { stood := { row := pyspecBetweenUptoRow, standIns := [], harness := (true, "b88a31f1b074ea2a0b58370d5fbe808b146f1a8c95fc641153118555b8a7c54a"), looks := false }, kinds := [], alts := [], laidByText := true, laidKinds := [.data, .pinned], laidTests := true, laidLooks := .later }
def PyspecBetweenUptoCardSaid : Prop := Claim7.holds Tryz.pinned (.plain (OpenSpec.upto pyspecBetweenSpec)) pyspecBetweenUptoCard

/-- THE SECOND FORM's CARD OF 'dovetaillaw10.PyspecBoth'. -/
def pyspecBothUptoCard : Claim7 := { stood := { row := pyspecBothUptoRow, standIns := [], harness := (true, "b88a31f1b074ea2a0b58370d5fbe808b146f1a8c95fc641153118555b8a7c54a"), looks := false }, kinds := [], alts := [], laidByText := true, laidKinds := [.data, .pinned], laidTests := true, laidLooks := .later }
def PyspecBothUptoCardSaid : Prop := Claim7.holds Tryz.pinned (.plain (OpenSpec.upto pyspecBothSpec)) pyspecBothUptoCard
end Rows
end Go.Proofs.YtdenfejaedgehaaGreatDoor

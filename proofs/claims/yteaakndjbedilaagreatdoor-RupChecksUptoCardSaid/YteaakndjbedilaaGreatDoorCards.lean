/-
  DERIVED. GIVEN WITH THE SEED: THE CARDS: each row of YteaakndjbedilaaGreatDoorRows.lean that lists a variable, with what it lists TIED to the program's text (the seventh form; the later family's looks); each row that meets fmt, with fmt's text TOLD by the authors' own Lean function (tested against real Go, not proved from fmt's source: count such statements apart). THE CARD IS WHAT COUNTS. Prove the row's statement (the work); the ties are given (YteaakndjbedilaaGreatDoorTie.lean); close each card by the builder's one call (the guide's Derived/Test/ToyasCard.lean, 'card_holds'). Laid BY PROGRAM, IN A SANDBOX (cutbox-door.mjs). By AI agents, Wed Nov 11 2026. No macro, syntax, notation, axiom, sorry.
-/
import Derived.Test.YteaakndjbedilaaGreatDoorRows
import GoSem.ClaimSeven
namespace Go.Proofs.YteaakndjbedilaaGreatDoor
namespace Rows

/-- THE TIED CARD OF 'dovetaillaw29.RupChecks'. -/
def rupChecksCard : Claim7 := { stood := { row := rupChecksRow, standIns := [], harness := (true, "938f54c4900b40fe2539dc1e9383053b3332895a0cd82ad0e97c98ad46cc26f6"), looks := true }, kinds := [], alts := [], laidByText := true, laidKinds := [.data, .data, .data, .data, .sentinel, .sentinel, .pinned], laidTests := true, laidLooks := .later }
def RupChecksCardSaid : Prop := Claim7.holds Tryz.pinned (.plain (OpenSpec.ofChange rupChecksSpec)) rupChecksCard

/-- THE TIED CARD OF 'dovetaillaw29.RupMore'. -/
def rupMoreCard : Claim7 := { stood := { row := rupMoreRow, standIns := [], harness := (true, "938f54c4900b40fe2539dc1e9383053b3332895a0cd82ad0e97c98ad46cc26f6"), looks := true }, kinds := [], alts := [], laidByText := true, laidKinds := [.data, .data, .data, .data, .sentinel, .sentinel, .pinned], laidTests := true, laidLooks := .later }
def RupMoreCardSaid : Prop := Claim7.holds Tryz.pinned (.plain (OpenSpec.ofChange rupMoreSpec)) rupMoreCard

/-- THE SECOND FORM's CARD OF 'dovetaillaw29.RupChecks'. -/
def rupChecksUptoCard : Claim7 := { stood := { row := rupChecksUptoRow, standIns := [], harness := (true, "938f54c4900b40fe2539dc1e9383053b3332895a0cd82ad0e97c98ad46cc26f6"), looks := true }, kinds := [], alts := [], laidByText := true, laidKinds := [.data, .data, .data, .data, .sentinel, .sentinel, .pinned], laidTests := true, laidLooks := .later }
def RupChecksUptoCardSaid : Prop := Claim7.holds Tryz.pinned (.plain (OpenSpec.upto rupChecksSpec)) rupChecksUptoCard

/-- THE SECOND FORM's CARD OF 'dovetaillaw29.RupMore'. -/
def rupMoreUptoCard : Claim7 := { stood := { row := rupMoreUptoRow, standIns := [], harness := (true, "938f54c4900b40fe2539dc1e9383053b3332895a0cd82ad0e97c98ad46cc26f6"), looks := true }, kinds := [], alts := [], laidByText := true, laidKinds := [.data, .data, .data, .data, .sentinel, .sentinel, .pinned], laidTests := true, laidLooks := .later }
def RupMoreUptoCardSaid : Prop := Claim7.holds Tryz.pinned (.plain (OpenSpec.upto rupMoreSpec)) rupMoreUptoCard
end Rows
end Go.Proofs.YteaakndjbedilaaGreatDoor

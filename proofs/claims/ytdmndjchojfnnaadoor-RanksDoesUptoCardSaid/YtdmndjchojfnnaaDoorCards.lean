/-
  DERIVED. GIVEN WITH THE SEED: THE CARDS: each row of YtdmndjchojfnnaaDoorRows.lean that lists a variable, with what it lists TIED to the program's text (the seventh form; the later family's looks); each row that meets fmt, with fmt's text TOLD by the authors' own Lean function (tested against real Go, not proved from fmt's source: count such statements apart). THE CARD IS WHAT COUNTS. Prove the row's statement (the work); the ties are given (YtdmndjchojfnnaaDoorTie.lean); close each card by the builder's one call (the guide's Derived/Test/ToyasCard.lean, 'card_holds'). Laid BY PROGRAM, IN A SANDBOX (cutbox-door.mjs). By AI agents, Wed Nov 11 2026. No macro, syntax, notation, axiom, sorry.
-/
import Derived.Test.YtdmndjchojfnnaaDoorRows
import GoSem.ClaimSeven
namespace Go.Proofs.YtdmndjchojfnnaaDoor
namespace Rows

/-- THE TIED CARD OF 'dovetaillaw07.RanksAlgebra'. -/
def ranksAlgebraCard : Claim7 := { stood := { row := ranksAlgebraRow, standIns := [], harness := (true, "e229485ed317ed97fb30e2db4874a49fb44bc05babb41df992dc5126ed1790e2"), looks := false }, kinds := [], alts := [], laidByText := true, laidKinds := [.data, .data, .data], laidTests := true, laidLooks := .later }
def RanksAlgebraCardSaid : Prop := Claim7.holds Tryd.pinned (.plain (OpenSpec.ofChange ranksAlgebraSpec)) ranksAlgebraCard

/-- THE TIED CARD OF 'dovetaillaw07.RanksMakes'. -/
def ranksMakesCard : Claim7 := { stood := { row := ranksMakesRow, standIns := [], harness := (true, "e229485ed317ed97fb30e2db4874a49fb44bc05babb41df992dc5126ed1790e2"), looks := false }, kinds := [], alts := [], laidByText := true, laidKinds := [.data, .data, .data], laidTests := true, laidLooks := .later }
def RanksMakesCardSaid : Prop := Claim7.holds Tryd.pinned (.plain (OpenSpec.ofChange ranksMakesSpec)) ranksMakesCard

/-- THE TIED CARD OF 'dovetaillaw07.RanksDoes'. -/
def ranksDoesCard : Claim7 := { stood := { row := ranksDoesRow, standIns := [], harness := (true, "e229485ed317ed97fb30e2db4874a49fb44bc05babb41df992dc5126ed1790e2"), looks := false }, kinds := [], alts := [], laidByText := true, laidKinds := [.data, .data, .data], laidTests := true, laidLooks := .later }
def RanksDoesCardSaid : Prop := Claim7.holds Tryd.pinned (.plain (OpenSpec.ofChange ranksDoesSpec)) ranksDoesCard

/-- THE TIED CARD OF 'dovetaillaw07.RanksBack'. -/
def ranksBackCard : Claim7 := { stood := { row := ranksBackRow, standIns := [], harness := (true, "e229485ed317ed97fb30e2db4874a49fb44bc05babb41df992dc5126ed1790e2"), looks := false }, kinds := [], alts := [], laidByText := true, laidKinds := [.data, .data, .data], laidTests := true, laidLooks := .later }
def RanksBackCardSaid : Prop := Claim7.holds Tryd.pinned (.plain (OpenSpec.ofChange ranksBackSpec)) ranksBackCard

/-- THE SECOND FORM's CARD OF 'dovetaillaw07.RanksAlgebra'. -/
def ranksAlgebraUptoCard : Claim7 := { stood := { row := ranksAlgebraUptoRow, standIns := [], harness := (true, "e229485ed317ed97fb30e2db4874a49fb44bc05babb41df992dc5126ed1790e2"), looks := false }, kinds := [], alts := [], laidByText := true, laidKinds := [.data, .data, .data], laidTests := true, laidLooks := .later }
def RanksAlgebraUptoCardSaid : Prop := Claim7.holds Tryd.pinned (.plain (OpenSpec.upto ranksAlgebraSpec)) ranksAlgebraUptoCard

/-- THE SECOND FORM's CARD OF 'dovetaillaw07.RanksMakes'. -/
def ranksMakesUptoCard : Claim7 := { stood := { row := ranksMakesUptoRow, standIns := [], harness := (true, "e229485ed317ed97fb30e2db4874a49fb44bc05babb41df992dc5126ed1790e2"), looks := false }, kinds := [], alts := [], laidByText := true, laidKinds := [.data, .data, .data], laidTests := true, laidLooks := .later }
def RanksMakesUptoCardSaid : Prop := Claim7.holds Tryd.pinned (.plain (OpenSpec.upto ranksMakesSpec)) ranksMakesUptoCard

/-- THE SECOND FORM's CARD OF 'dovetaillaw07.RanksDoes'. -/
def ranksDoesUptoCard : Claim7 := { stood := { row := ranksDoesUptoRow, standIns := [], harness := (true, "e229485ed317ed97fb30e2db4874a49fb44bc05babb41df992dc5126ed1790e2"), looks := false }, kinds := [], alts := [], laidByText := true, laidKinds := [.data, .data, .data], laidTests := true, laidLooks := .later }
def RanksDoesUptoCardSaid : Prop := Claim7.holds Tryd.pinned (.plain (OpenSpec.upto ranksDoesSpec)) ranksDoesUptoCard

/-- THE SECOND FORM's CARD OF 'dovetaillaw07.RanksBack'. -/
def ranksBackUptoCard : Claim7 := { stood := { row := ranksBackUptoRow, standIns := [], harness := (true, "e229485ed317ed97fb30e2db4874a49fb44bc05babb41df992dc5126ed1790e2"), looks := false }, kinds := [], alts := [], laidByText := true, laidKinds := [.data, .data, .data], laidTests := true, laidLooks := .later }
def RanksBackUptoCardSaid : Prop := Claim7.holds Tryd.pinned (.plain (OpenSpec.upto ranksBackSpec)) ranksBackUptoCard
end Rows
end Go.Proofs.YtdmndjchojfnnaaDoor

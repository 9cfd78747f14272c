/-
  DERIVED. GIVEN WITH THE SEED: THE CARDS: each row of YthbepckidhmbfaaDoorRows.lean that lists a variable, with what it lists TIED to the program's text (the seventh form; the later family's looks); each row that meets fmt, with fmt's text TOLD by the authors' own Lean function (tested against real Go, not proved from fmt's source: count such statements apart). THE CARD IS WHAT COUNTS. Prove the row's statement (the work); the ties are given (YthbepckidhmbfaaDoorTie.lean); close each card by the builder's one call (the guide's Derived/Test/ToyasCard.lean, 'card_holds'). Laid BY PROGRAM, IN A SANDBOX (cutbox-door.mjs). By AI agents, Wed Nov 11 2026. No macro, syntax, notation, axiom, sorry.
-/
import Derived.Test.YthbepckidhmbfaaDoorRows
import GoSem.ClaimSeven
namespace Go.Proofs.YthbepckidhmbfaaDoor
namespace Rows

/-- THE TIED CARD OF 'dovetaillaw03.PepOrder'. -/
def pepOrderCard : Claim7 := { stood := { row := pepOrderRow, standIns := [], harness := (true, "16eb314430a4b9228a1393e761b46e284548f4efadb95d81ba36b594dc67d05e"), looks := false }, kinds := [], alts := [], laidByText := true, laidKinds := [.data, .pinned], laidTests := true, laidLooks := .later }
def PepOrderCardSaid : Prop := Claim7.holds Tryd.pinned (.plain (OpenSpec.ofChange pepOrderSpec)) pepOrderCard

/-- THE TIED CARD OF 'dovetaillaw03.PepBack'. -/
def pepBackCard : Claim7 := { stood := { row := pepBackRow, standIns := [], harness := (true, "16eb314430a4b9228a1393e761b46e284548f4efadb95d81ba36b594dc67d05e"), looks := false }, kinds := [], alts := [], laidByText := true, laidKinds := [.data, .pinned], laidTests := true, laidLooks := .later }
def PepBackCardSaid : Prop := Claim7.holds Tryd.pinned (.plain (OpenSpec.ofChange pepBackSpec)) pepBackCard

/-- THE TIED CARD OF 'dovetaillaw03.PepRow'. -/
def pepRowCard : Claim7 := { stood := { row := pepRowRow, standIns := [], harness := (true, "16eb314430a4b9228a1393e761b46e284548f4efadb95d81ba36b594dc67d05e"), looks := false }, kinds := [], alts := [], laidByText := true, laidKinds := [.data, .pinned], laidTests := true, laidLooks := .later }
def PepRowCardSaid : Prop := Claim7.holds Tryd.pinned (.plain (OpenSpec.ofChange pepRowSpec)) pepRowCard

/-- THE SECOND FORM's CARD OF 'dovetaillaw03.PepOrder'. -/
def pepOrderUptoCard : Claim7 := { stood := { row := pepOrderUptoRow, standIns := [], harness := (true, "16eb314430a4b9228a1393e761b46e284548f4efadb95d81ba36b594dc67d05e"), looks := false }, kinds := [], alts := [], laidByText := true, laidKinds := [.data, .pinned], laidTests := true, laidLooks := .later }
def PepOrderUptoCardSaid : Prop := Claim7.holds Tryd.pinned (.plain (OpenSpec.upto pepOrderSpec)) pepOrderUptoCard

/-- THE SECOND FORM's CARD OF 'dovetaillaw03.PepBack'. -/
def pepBackUptoCard : Claim7 := { stood := { row := pepBackUptoRow, standIns := [], harness := (true, "16eb314430a4b9228a1393e761b46e284548f4efadb95d81ba36b594dc67d05e"), looks := false }, kinds := [], alts := [], laidByText := true, laidKinds := [.data, .pinned], laidTests := true, laidLooks := .later }
def PepBackUptoCardSaid : Prop := Claim7.holds Tryd.pinned (.plain (OpenSpec.upto pepBackSpec)) pepBackUptoCard

/-- THE SECOND FORM's CARD OF 'dovetaillaw03.PepRow'. -/
def pepRowUptoCard : Claim7 := { stood := { row := pepRowUptoRow, standIns := [], harness := (true, "16eb314430a4b9228a1393e761b46e284548f4efadb95d81ba36b594dc67d05e"), looks := false }, kinds := [], alts := [], laidByText := true, laidKinds := [.data, .pinned], laidTests := true, laidLooks := .later }
def PepRowUptoCardSaid : Prop := Claim7.holds Tryd.pinned (.plain (OpenSpec.upto pepRowSpec)) pepRowUptoCard
end Rows
end Go.Proofs.YthbepckidhmbfaaDoor

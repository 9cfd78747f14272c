/-
  DERIVED. GIVEN WITH THE SEED: THE CARDS: each row of YtgkpnkfbhhfonaaDoorRows.lean that lists a variable, with what it lists TIED to the program's text (the seventh form; the later family's looks); each row that meets fmt, with fmt's text TOLD by the authors' own Lean function (tested against real Go, not proved from fmt's source: count such statements apart). THE CARD IS WHAT COUNTS. Prove the row's statement (the work); the ties are given (YtgkpnkfbhhfonaaDoorTie.lean); close each card by the builder's one call (the guide's Derived/Test/ToyasCard.lean, 'card_holds'). Laid BY PROGRAM, IN A SANDBOX (cutbox-door.mjs). By AI agents, Wed Nov 11 2026. No macro, syntax, notation, axiom, sorry.
-/
import Derived.Test.YtgkpnkfbhhfonaaDoorRows
import GoSem.ClaimSeven
namespace Go.Proofs.YtgkpnkfbhhfonaaDoor
namespace Rows

/-- THE TIED CARD OF 'dovetaillaw29.RupTexts'. -/
def rupTextsCard : Claim7 := { stood := { row := rupTextsRow, standIns := [], harness := (true, "1793f73d843505e2ce426dc4353135f7fece51151df52cacc3b2cb1d7cabbb08"), looks := true }, kinds := [], alts := [], laidByText := true, laidKinds := [.data, .data, .data, .data, .sentinel, .sentinel, .pinned], laidTests := true, laidLooks := .later }
def RupTextsCardSaid : Prop := Claim7.holds Tryd.pinned (.plain (OpenSpec.ofChange rupTextsSpec)) rupTextsCard

/-- THE TIED CARD OF 'dovetaillaw29.RupSound'. -/
def rupSoundCard : Claim7 := { stood := { row := rupSoundRow, standIns := [], harness := (true, "1793f73d843505e2ce426dc4353135f7fece51151df52cacc3b2cb1d7cabbb08"), looks := true }, kinds := [], alts := [], laidByText := true, laidKinds := [.data, .data, .data, .data, .sentinel, .sentinel, .pinned], laidTests := true, laidLooks := .later }
def RupSoundCardSaid : Prop := Claim7.holds Tryd.pinned (.plain (OpenSpec.ofChange rupSoundSpec)) rupSoundCard

/-- THE TIED CARD OF 'dovetaillaw29.RupBack'. -/
def rupBackCard : Claim7 := { stood := { row := rupBackRow, standIns := [], harness := (true, "1793f73d843505e2ce426dc4353135f7fece51151df52cacc3b2cb1d7cabbb08"), looks := true }, kinds := [], alts := [], laidByText := true, laidKinds := [.data, .data, .data, .data, .sentinel, .sentinel, .pinned], laidTests := true, laidLooks := .later }
def RupBackCardSaid : Prop := Claim7.holds Tryd.pinned (.plain (OpenSpec.ofChange rupBackSpec)) rupBackCard

/-- THE SECOND FORM's CARD OF 'dovetaillaw29.RupTexts'. -/
def rupTextsUptoCard : Claim7 := { stood := { row := rupTextsUptoRow, standIns := [], harness := (true, "1793f73d843505e2ce426dc4353135f7fece51151df52cacc3b2cb1d7cabbb08"), looks := true }, kinds := [], alts := [], laidByText := true, laidKinds := [.data, .data, .data, .data, .sentinel, .sentinel, .pinned], laidTests := true, laidLooks := .later }
def RupTextsUptoCardSaid : Prop := Claim7.holds Tryd.pinned (.plain (OpenSpec.upto rupTextsSpec)) rupTextsUptoCard

/-- THE SECOND FORM's CARD OF 'dovetaillaw29.RupSound'. -/
def rupSoundUptoCard : Claim7 := { stood := { row := rupSoundUptoRow, standIns := [], harness := (true, "1793f73d843505e2ce426dc4353135f7fece51151df52cacc3b2cb1d7cabbb08"), looks := true }, kinds := [], alts := [], laidByText := true, laidKinds := [.data, .data, .data, .data, .sentinel, .sentinel, .pinned], laidTests := true, laidLooks := .later }
def RupSoundUptoCardSaid : Prop := Claim7.holds Tryd.pinned (.plain (OpenSpec.upto rupSoundSpec)) rupSoundUptoCard

/-- THE SECOND FORM's CARD OF 'dovetaillaw29.RupBack'. -/
def rupBackUptoCard : Claim7 := { stood := { row := rupBackUptoRow, standIns := [], harness := (true, "1793f73d843505e2ce426dc4353135f7fece51151df52cacc3b2cb1d7cabbb08"), looks := true }, kinds := [], alts := [], laidByText := true, laidKinds := [.data, .data, .data, .data, .sentinel, .sentinel, .pinned], laidTests := true, laidLooks := .later }
def RupBackUptoCardSaid : Prop := Claim7.holds Tryd.pinned (.plain (OpenSpec.upto rupBackSpec)) rupBackUptoCard
end Rows
end Go.Proofs.YtgkpnkfbhhfonaaDoor

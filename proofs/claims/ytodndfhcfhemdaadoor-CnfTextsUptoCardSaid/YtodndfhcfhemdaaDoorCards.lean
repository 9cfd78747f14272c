/-
  DERIVED. GIVEN WITH THE SEED: THE CARDS: each row of YtodndfhcfhemdaaDoorRows.lean that lists a variable, with what it lists TIED to the program's text (the seventh form; the later family's looks); each row that meets fmt, with fmt's text TOLD by the authors' own Lean function (tested against real Go, not proved from fmt's source: count such statements apart). THE CARD IS WHAT COUNTS. Prove the row's statement (the work); the ties are given (YtodndfhcfhemdaaDoorTie.lean); close each card by the builder's one call (the guide's Derived/Test/ToyasCard.lean, 'card_holds'). Laid BY PROGRAM, IN A SANDBOX (cutbox-door.mjs). By AI agents, Wed Nov 11 2026. No macro, syntax, notation, axiom, sorry.
-/
import Derived.Test.YtodndfhcfhemdaaDoorRows
import GoSem.ClaimSeven
namespace Go.Proofs.YtodndfhcfhemdaaDoor
namespace Rows

/-- THE TIED CARD OF 'dovetaillaw24.CnfTells'. -/
def cnfTellsCard : Claim7 := { stood := { row := cnfTellsRow, standIns := [], harness := (true, "b0142b05b16b1ae9e5f83a52ab3851b7bd2a9ef5fe9e43a24441cf7c708c76b8"), looks := true }, kinds := [], alts := [], laidByText := true, laidKinds := [.data, .data, .data], laidTests := true, laidLooks := .later }
def CnfTellsCardSaid : Prop := Claim7.holds Tryd.pinned (.plain (OpenSpec.ofChange cnfTellsSpec)) cnfTellsCard

/-- THE TIED CARD OF 'dovetaillaw24.CnfAtMost'. -/
def cnfAtMostCard : Claim7 := { stood := { row := cnfAtMostRow, standIns := [], harness := (true, "b0142b05b16b1ae9e5f83a52ab3851b7bd2a9ef5fe9e43a24441cf7c708c76b8"), looks := true }, kinds := [], alts := [], laidByText := true, laidKinds := [.data, .data, .data], laidTests := true, laidLooks := .later }
def CnfAtMostCardSaid : Prop := Claim7.holds Tryd.pinned (.plain (OpenSpec.ofChange cnfAtMostSpec)) cnfAtMostCard

/-- THE TIED CARD OF 'dovetaillaw24.CnfModels'. -/
def cnfModelsCard : Claim7 := { stood := { row := cnfModelsRow, standIns := [], harness := (true, "b0142b05b16b1ae9e5f83a52ab3851b7bd2a9ef5fe9e43a24441cf7c708c76b8"), looks := true }, kinds := [], alts := [], laidByText := true, laidKinds := [.data, .data, .data], laidTests := true, laidLooks := .later }
def CnfModelsCardSaid : Prop := Claim7.holds Tryd.pinned (.plain (OpenSpec.ofChange cnfModelsSpec)) cnfModelsCard

/-- THE TIED CARD OF 'dovetaillaw24.CnfTexts'. -/
def cnfTextsCard : Claim7 := { stood := { row := cnfTextsRow, standIns := [], harness := (true, "b0142b05b16b1ae9e5f83a52ab3851b7bd2a9ef5fe9e43a24441cf7c708c76b8"), looks := true }, kinds := [], alts := [], laidByText := true, laidKinds := [.data, .data, .data, .sentinel, .sentinel], laidTests := true, laidLooks := .later }
def CnfTextsCardSaid : Prop := Claim7.holds Tryd.pinned (.plain (OpenSpec.ofChange cnfTextsSpec)) cnfTextsCard

/-- THE SECOND FORM's CARD OF 'dovetaillaw24.CnfTells'. -/
def cnfTellsUptoCard : Claim7 := { stood := { row := cnfTellsUptoRow, standIns := [], harness := (true, "b0142b05b16b1ae9e5f83a52ab3851b7bd2a9ef5fe9e43a24441cf7c708c76b8"), looks := true }, kinds := [], alts := [], laidByText := true, laidKinds := [.data, .data, .data], laidTests := true, laidLooks := .later }
def CnfTellsUptoCardSaid : Prop := Claim7.holds Tryd.pinned (.plain (OpenSpec.upto cnfTellsSpec)) cnfTellsUptoCard

/-- THE SECOND FORM's CARD OF 'dovetaillaw24.CnfAtMost'. -/
def cnfAtMostUptoCard : Claim7 := { stood := { row := cnfAtMostUptoRow, standIns := [], harness := (true, "b0142b05b16b1ae9e5f83a52ab3851b7bd2a9ef5fe9e43a24441cf7c708c76b8"), looks := true }, kinds := [], alts := [], laidByText := true, laidKinds := [.data, .data, .data], laidTests := true, laidLooks := .later }
def CnfAtMostUptoCardSaid : Prop := Claim7.holds Tryd.pinned (.plain (OpenSpec.upto cnfAtMostSpec)) cnfAtMostUptoCard

/-- THE SECOND FORM's CARD OF 'dovetaillaw24.CnfModels'. -/
def cnfModelsUptoCard : Claim7 := { stood := { row := cnfModelsUptoRow, standIns := [], harness := (true, "b0142b05b16b1ae9e5f83a52ab3851b7bd2a9ef5fe9e43a24441cf7c708c76b8"), looks := true }, kinds := [], alts := [], laidByText := true, laidKinds := [.data, .data, .data], laidTests := true, laidLooks := .later }
def CnfModelsUptoCardSaid : Prop := Claim7.holds Tryd.pinned (.plain (OpenSpec.upto cnfModelsSpec)) cnfModelsUptoCard

/-- THE SECOND FORM's CARD OF 'dovetaillaw24.CnfTexts'. -/
def cnfTextsUptoCard : Claim7 := { stood := { row := cnfTextsUptoRow, standIns := [], harness := (true, "b0142b05b16b1ae9e5f83a52ab3851b7bd2a9ef5fe9e43a24441cf7c708c76b8"), looks := true }, kinds := [], alts := [], laidByText := true, laidKinds := [.data, .data, .data, .sentinel, .sentinel], laidTests := true, laidLooks := .later }
def CnfTextsUptoCardSaid : Prop := Claim7.holds Tryd.pinned (.plain (OpenSpec.upto cnfTextsSpec)) cnfTextsUptoCard
end Rows
end Go.Proofs.YtodndfhcfhemdaaDoor

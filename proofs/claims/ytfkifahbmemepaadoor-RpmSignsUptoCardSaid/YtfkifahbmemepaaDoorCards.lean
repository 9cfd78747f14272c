/-
  DERIVED. GIVEN WITH THE SEED: THE CARDS: each row of YtfkifahbmemepaaDoorRows.lean that lists a variable, with what it lists TIED to the program's text (the seventh form; the later family's looks); each row that meets fmt, with fmt's text TOLD by the authors' own Lean function (tested against real Go, not proved from fmt's source: count such statements apart). THE CARD IS WHAT COUNTS. Prove the row's statement (the work); the ties are given (YtfkifahbmemepaaDoorTie.lean); close each card by the builder's one call (the guide's Derived/Test/ToyasCard.lean, 'card_holds'). Laid BY PROGRAM, IN A SANDBOX (cutbox-door.mjs). By AI agents, Wed Nov 11 2026. No macro, syntax, notation, axiom, sorry.
-/
import Derived.Test.YtfkifahbmemepaaDoorRows
import GoSem.ClaimSeven
namespace Go.Proofs.YtfkifahbmemepaaDoor
namespace Rows

/-- THE TIED CARD OF 'dovetaillaw01.ScanDigits'. -/
def scanDigitsCard : Claim7 := { stood := { row := scanDigitsRow, standIns := [], harness := (true, "89f351667407fc420e7ba6c513c057ffc2706cc8db9610dbc6614b2e85c1ae00"), looks := false }, kinds := [], alts := [], laidByText := true, laidKinds := [.data, .pinned], laidTests := true, laidLooks := .later }
def ScanDigitsCardSaid : Prop := Claim7.holds Tryd.pinned (.plain (OpenSpec.ofChange scanDigitsSpec)) scanDigitsCard

/-- THE TIED CARD OF 'dovetaillaw01.ScanOrder'. -/
def scanOrderCard : Claim7 := { stood := { row := scanOrderRow, standIns := [], harness := (true, "89f351667407fc420e7ba6c513c057ffc2706cc8db9610dbc6614b2e85c1ae00"), looks := false }, kinds := [], alts := [], laidByText := true, laidKinds := [.data, .pinned], laidTests := true, laidLooks := .later }
def ScanOrderCardSaid : Prop := Claim7.holds Tryd.pinned (.plain (OpenSpec.ofChange scanOrderSpec)) scanOrderCard

/-- THE TIED CARD OF 'dovetaillaw01.ScanBack'. -/
def scanBackCard : Claim7 := { stood := { row := scanBackRow, standIns := [], harness := (true, "89f351667407fc420e7ba6c513c057ffc2706cc8db9610dbc6614b2e85c1ae00"), looks := false }, kinds := [], alts := [], laidByText := true, laidKinds := [.data, .pinned], laidTests := true, laidLooks := .later }
def ScanBackCardSaid : Prop := Claim7.holds Tryd.pinned (.plain (OpenSpec.ofChange scanBackSpec)) scanBackCard

/-- THE TIED CARD OF 'dovetaillaw01.ScanRuns'. -/
def scanRunsCard : Claim7 := { stood := { row := scanRunsRow, standIns := [], harness := (true, "89f351667407fc420e7ba6c513c057ffc2706cc8db9610dbc6614b2e85c1ae00"), looks := false }, kinds := [], alts := [], laidByText := true, laidKinds := [.data, .pinned], laidTests := true, laidLooks := .later }
def ScanRunsCardSaid : Prop := Claim7.holds Tryd.pinned (.plain (OpenSpec.ofChange scanRunsSpec)) scanRunsCard

/-- THE TIED CARD OF 'dovetaillaw15.StanzaLoose'. -/
def stanzaLooseCard : Claim7 := { stood := { row := stanzaLooseRow, standIns := [], harness := (true, "89f351667407fc420e7ba6c513c057ffc2706cc8db9610dbc6614b2e85c1ae00"), looks := false }, kinds := [], alts := [], laidByText := true, laidKinds := [.data, .pinned], laidTests := true, laidLooks := .later }
def StanzaLooseCardSaid : Prop := Claim7.holds Tryd.pinned (.plain (OpenSpec.ofChange stanzaLooseSpec)) stanzaLooseCard

/-- THE TIED CARD OF 'dovetaillaw05.RpmReads'. -/
def rpmReadsCard : Claim7 := { stood := { row := rpmReadsRow, standIns := [], harness := (true, "89f351667407fc420e7ba6c513c057ffc2706cc8db9610dbc6614b2e85c1ae00"), looks := false }, kinds := [], alts := [], laidByText := true, laidKinds := [.data, .pinned], laidTests := true, laidLooks := .later }
def RpmReadsCardSaid : Prop := Claim7.holds Tryd.pinned (.plain (OpenSpec.ofChange rpmReadsSpec)) rpmReadsCard

/-- THE TIED CARD OF 'dovetaillaw05.RpmOrder'. -/
def rpmOrderCard : Claim7 := { stood := { row := rpmOrderRow, standIns := [], harness := (true, "89f351667407fc420e7ba6c513c057ffc2706cc8db9610dbc6614b2e85c1ae00"), looks := false }, kinds := [], alts := [], laidByText := true, laidKinds := [.data, .pinned], laidTests := true, laidLooks := .later }
def RpmOrderCardSaid : Prop := Claim7.holds Tryd.pinned (.plain (OpenSpec.ofChange rpmOrderSpec)) rpmOrderCard

/-- THE TIED CARD OF 'dovetaillaw05.RpmSigns'. -/
def rpmSignsCard : Claim7 := { stood := { row := rpmSignsRow, standIns := [], harness := (true, "89f351667407fc420e7ba6c513c057ffc2706cc8db9610dbc6614b2e85c1ae00"), looks := false }, kinds := [], alts := [], laidByText := true, laidKinds := [.data, .pinned], laidTests := true, laidLooks := .later }
def RpmSignsCardSaid : Prop := Claim7.holds Tryd.pinned (.plain (OpenSpec.ofChange rpmSignsSpec)) rpmSignsCard

/-- THE TIED CARD OF 'dovetaillaw05.RpmDoes'. -/
def rpmDoesCard : Claim7 := { stood := { row := rpmDoesRow, standIns := [], harness := (true, "89f351667407fc420e7ba6c513c057ffc2706cc8db9610dbc6614b2e85c1ae00"), looks := false }, kinds := [], alts := [], laidByText := true, laidKinds := [.data, .pinned], laidTests := true, laidLooks := .later }
def RpmDoesCardSaid : Prop := Claim7.holds Tryd.pinned (.plain (OpenSpec.ofChange rpmDoesSpec)) rpmDoesCard

/-- THE TIED CARD OF 'dovetaillaw05.RpmBack'. -/
def rpmBackCard : Claim7 := { stood := { row := rpmBackRow, standIns := [], harness := (true, "89f351667407fc420e7ba6c513c057ffc2706cc8db9610dbc6614b2e85c1ae00"), looks := false }, kinds := [], alts := [], laidByText := true, laidKinds := [.data, .pinned], laidTests := true, laidLooks := .later }
def RpmBackCardSaid : Prop := Claim7.holds Tryd.pinned (.plain (OpenSpec.ofChange rpmBackSpec)) rpmBackCard

/-- THE TIED CARD OF 'dovetaillaw15.StanzaBack'. -/
def stanzaBackCard : Claim7 := { stood := { row := stanzaBackRow, standIns := [], harness := (true, "89f351667407fc420e7ba6c513c057ffc2706cc8db9610dbc6614b2e85c1ae00"), looks := false }, kinds := [], alts := [], laidByText := true, laidKinds := [.data, .pinned], laidTests := true, laidLooks := .later }
def StanzaBackCardSaid : Prop := Claim7.holds Tryd.pinned (.plain (OpenSpec.ofChange stanzaBackSpec)) stanzaBackCard

/-- THE TIED CARD OF 'dovetaillaw15.StanzaTells'. -/
def stanzaTellsCard : Claim7 := { stood := { row := stanzaTellsRow, standIns := [], harness := (true, "89f351667407fc420e7ba6c513c057ffc2706cc8db9610dbc6614b2e85c1ae00"), looks := false }, kinds := [], alts := [], laidByText := true, laidKinds := [.data, .pinned], laidTests := true, laidLooks := .later }
def StanzaTellsCardSaid : Prop := Claim7.holds Tryd.pinned (.plain (OpenSpec.ofChange stanzaTellsSpec)) stanzaTellsCard

/-- THE SECOND FORM's CARD OF 'dovetaillaw01.ScanDigits'. -/
def scanDigitsUptoCard : Claim7 := { stood := { row := scanDigitsUptoRow, standIns := [], harness := (true, "89f351667407fc420e7ba6c513c057ffc2706cc8db9610dbc6614b2e85c1ae00"), looks := false }, kinds := [], alts := [], laidByText := true, laidKinds := [.data, .pinned], laidTests := true, laidLooks := .later }
def ScanDigitsUptoCardSaid : Prop := Claim7.holds Tryd.pinned (.plain (OpenSpec.upto scanDigitsSpec)) scanDigitsUptoCard

/-- THE SECOND FORM's CARD OF 'dovetaillaw01.ScanOrder'. -/
def scanOrderUptoCard : Claim7 := { stood := { row := scanOrderUptoRow, standIns := [], harness := (true, "89f351667407fc420e7ba6c513c057ffc2706cc8db9610dbc6614b2e85c1ae00"), looks := false }, kinds := [], alts := [], laidByText := true, laidKinds := [.data, .pinned], laidTests := true, laidLooks := .later }
def ScanOrderUptoCardSaid : Prop := Claim7.holds Tryd.pinned (.plain (OpenSpec.upto scanOrderSpec)) scanOrderUptoCard

/-- THE SECOND FORM's CARD OF 'dovetaillaw01.ScanBack'. -/
def scanBackUptoCard : Claim7 := { stood := { row := scanBackUptoRow, standIns := [], harness := (true, "89f351667407fc420e7ba6c513c057ffc2706cc8db9610dbc6614b2e85c1ae00"), looks := false }, kinds := [], alts := [], laidByText := true, laidKinds := [.data, .pinned], laidTests := true, laidLooks := .later }
def ScanBackUptoCardSaid : Prop := Claim7.holds Tryd.pinned (.plain (OpenSpec.upto scanBackSpec)) scanBackUptoCard

/-- THE SECOND FORM's CARD OF 'dovetaillaw01.ScanRuns'. -/
def scanRunsUptoCard : Claim7 := { stood := { row := scanRunsUptoRow, standIns := [], harness := (true, "89f351667407fc420e7ba6c513c057ffc2706cc8db9610dbc6614b2e85c1ae00"), looks := false }, kinds := [], alts := [], laidByText := true, laidKinds := [.data, .pinned], laidTests := true, laidLooks := .later }
def ScanRunsUptoCardSaid : Prop := Claim7.holds Tryd.pinned (.plain (OpenSpec.upto scanRunsSpec)) scanRunsUptoCard

/-- THE SECOND FORM's CARD OF 'dovetaillaw15.StanzaLoose'. -/
def stanzaLooseUptoCard : Claim7 := { stood := { row := stanzaLooseUptoRow, standIns := [], harness := (true, "89f351667407fc420e7ba6c513c057ffc2706cc8db9610dbc6614b2e85c1ae00"), looks := false }, kinds := [], alts := [], laidByText := true, laidKinds := [.data, .pinned], laidTests := true, laidLooks := .later }
def StanzaLooseUptoCardSaid : Prop := Claim7.holds Tryd.pinned (.plain (OpenSpec.upto stanzaLooseSpec)) stanzaLooseUptoCard

/-- THE SECOND FORM's CARD OF 'dovetaillaw05.RpmReads'. -/
def rpmReadsUptoCard : Claim7 := { stood := { row := rpmReadsUptoRow, standIns := [], harness := (true, "89f351667407fc420e7ba6c513c057ffc2706cc8db9610dbc6614b2e85c1ae00"), looks := false }, kinds := [], alts := [], laidByText := true, laidKinds := [.data, .pinned], laidTests := true, laidLooks := .later }
def RpmReadsUptoCardSaid : Prop := Claim7.holds Tryd.pinned (.plain (OpenSpec.upto rpmReadsSpec)) rpmReadsUptoCard

/-- THE SECOND FORM's CARD OF 'dovetaillaw05.RpmOrder'. -/
def rpmOrderUptoCard : Claim7 := { stood := { row := rpmOrderUptoRow, standIns := [], harness := (true, "89f351667407fc420e7ba6c513c057ffc2706cc8db9610dbc6614b2e85c1ae00"), looks := false }, kinds := [], alts := [], laidByText := true, laidKinds := [.data, .pinned], laidTests := true, laidLooks := .later }
def RpmOrderUptoCardSaid : Prop := Claim7.holds Tryd.pinned (.plain (OpenSpec.upto rpmOrderSpec)) rpmOrderUptoCard

/-- THE SECOND FORM's CARD OF 'dovetaillaw05.RpmSigns'. -/
def rpmSignsUptoCard : Claim7 := { stood := { row := rpmSignsUptoRow, standIns := [], harness := (true, "89f351667407fc420e7ba6c513c057ffc2706cc8db9610dbc6614b2e85c1ae00"), looks := false }, kinds := [], alts := [], laidByText := true, laidKinds := [.data, .pinned], laidTests := true, laidLooks := .later }
def RpmSignsUptoCardSaid : Prop := Claim7.holds Tryd.pinned (.plain (OpenSpec.upto rpmSignsSpec)) rpmSignsUptoCard

/-- THE SECOND FORM's CARD OF 'dovetaillaw05.RpmDoes'. -/
def rpmDoesUptoCard : Claim7 := { stood := { row := rpmDoesUptoRow, standIns := [], harness := (true, "89f351667407fc420e7ba6c513c057ffc2706cc8db9610dbc6614b2e85c1ae00"), looks := false }, kinds := [], alts := [], laidByText := true, laidKinds := [.data, .pinned], laidTests := true, laidLooks := .later }
def RpmDoesUptoCardSaid : Prop := Claim7.holds Tryd.pinned (.plain (OpenSpec.upto rpmDoesSpec)) rpmDoesUptoCard

/-- THE SECOND FORM's CARD OF 'dovetaillaw05.RpmBack'. -/
def rpmBackUptoCard : Claim7 := { stood := { row := rpmBackUptoRow, standIns := [], harness := (true, "89f351667407fc420e7ba6c513c057ffc2706cc8db9610dbc6614b2e85c1ae00"), looks := false }, kinds := [], alts := [], laidByText := true, laidKinds := [.data, .pinned], laidTests := true, laidLooks := .later }
def RpmBackUptoCardSaid : Prop := Claim7.holds Tryd.pinned (.plain (OpenSpec.upto rpmBackSpec)) rpmBackUptoCard

/-- THE SECOND FORM's CARD OF 'dovetaillaw15.StanzaBack'. -/
def stanzaBackUptoCard : Claim7 := { stood := { row := stanzaBackUptoRow, standIns := [], harness := (true, "89f351667407fc420e7ba6c513c057ffc2706cc8db9610dbc6614b2e85c1ae00"), looks := false }, kinds := [], alts := [], laidByText := true, laidKinds := [.data, .pinned], laidTests := true, laidLooks := .later }
def StanzaBackUptoCardSaid : Prop := Claim7.holds Tryd.pinned (.plain (OpenSpec.upto stanzaBackSpec)) stanzaBackUptoCard

/-- THE SECOND FORM's CARD OF 'dovetaillaw15.StanzaTells'. -/
def stanzaTellsUptoCard : Claim7 := { stood := { row := stanzaTellsUptoRow, standIns := [], harness := (true, "89f351667407fc420e7ba6c513c057ffc2706cc8db9610dbc6614b2e85c1ae00"), looks := false }, kinds := [], alts := [], laidByText := true, laidKinds := [.data, .pinned], laidTests := true, laidLooks := .later }
def StanzaTellsUptoCardSaid : Prop := Claim7.holds Tryd.pinned (.plain (OpenSpec.upto stanzaTellsSpec)) stanzaTellsUptoCard
end Rows
end Go.Proofs.YtfkifahbmemepaaDoor

/-
  NARROWER THAN 'FOR EVERY INPUT', by the rows' own cells (each row's printed sentence says how): ScanDigits: laid · ScanOrder: laid · ScanBack: laid · ScanRuns: laid · StanzaLoose: laid · RpmReads: laid · RpmOrder: laid · RpmSigns: laid · RpmDoes: laid · RpmBack: laid · StanzaBack: laid · StanzaTells: laid.
  DERIVED. THE GIVEN ROWS OF THIS SEAT. 12 by the template 'for every input the law returns true; each argument reads behind the call as it read before'; 0 by the template 'total and deterministic' (their statements: YtfkifahbmemepaaDoorTotals.lean).
  GIVEN WITH THE SEED: the statements are not yours to turn. If you find one false, say at which input.
  Laid BY PROGRAM, IN A SANDBOX (cutbox-rows.mjs): the forced cells as the released guide's own fill.sh prints them over the translation 2bdfc6f213baf59e… (all of the seat's roots in one cut). By AI agents, Wed Nov 11 2026. No macro, syntax, notation, axiom, sorry.
-/
import Derived.Test.YtfkifahbmemepaaDoorChecked
import GoSem.PinnedTables
import GoSem.Claim
import GoSem.ClaimJoined
import GoSem.ClaimMapViews
import Derived.JoinedTies
import Derived.KernelRfl
namespace Go.Proofs.YtfkifahbmemepaaDoor
/- THE CELL 'sum', in the pinned program and in every row, IS THE sha256 OF THE DUMP (.gsa) THAT YtfkifahbmemepaaDoorProg.lean LOADS. Nothing in Lean hashes anything: it is a label: what it is worth is what the hold of that sum in a sandbox is worth. -/
noncomputable def Tryd.pinned : Pinned := { name := "ytfkifahbmemepaadoor", sum := "2bdfc6f213baf59e55b200d8962e43f78a58882d0a08aef929a250bd5ebfc333", checked := Tryd.checked }
namespace Rows
def none {H : Type} : Left H := { results := [], args := [] }

/- WHAT THE LISTED PACKAGE-LEVEL VARIABLES READ AS WHEN THE CALL BEGINS. Each datum BY PROGRAM (the guide's laid-datum.mjs) off the statement by which the dump's own 'gosem.cut.vars' lays the variable. In a bare row this is a premise. The card (YtfkifahbmemepaaDoorCards.lean) ties it to the program's text. -/
def laid_unicode_utf8_acceptRanges {H : Type} : DataW H := .agg [.agg [.lit (.int .u8 128), .lit (.int .u8 191)], .agg [.lit (.int .u8 160), .lit (.int .u8 191)], .agg [.lit (.int .u8 128), .lit (.int .u8 159)], .agg [.lit (.int .u8 144), .lit (.int .u8 191)], .agg [.lit (.int .u8 128), .lit (.int .u8 143)], .agg [.lit (.int .u8 0), .lit (.int .u8 0)], .agg [.lit (.int .u8 0), .lit (.int .u8 0)], .agg [.lit (.int .u8 0), .lit (.int .u8 0)], .agg [.lit (.int .u8 0), .lit (.int .u8 0)], .agg [.lit (.int .u8 0), .lit (.int .u8 0)], .agg [.lit (.int .u8 0), .lit (.int .u8 0)], .agg [.lit (.int .u8 0), .lit (.int .u8 0)], .agg [.lit (.int .u8 0), .lit (.int .u8 0)], .agg [.lit (.int .u8 0), .lit (.int .u8 0)], .agg [.lit (.int .u8 0), .lit (.int .u8 0)], .agg [.lit (.int .u8 0), .lit (.int .u8 0)]]
/-- One of Go's own tables, pinned by name: the form's constant. -/
def laid_unicode_utf8_first : DataW Unit := Go.Pinned.utf8First

/-- 'dovetaillaw01.ScanDigits': WHATEVER THE INPUT: true; the input reads as it did. -/
def scanDigitsSpec : ChangeSpec := { name := "scanDigits", fn := fun _ => fun
  | [d1, d2] => { results := [.lit (.bool true)], args := [d1, d2] }
  | _ => none }
def scanDigitsRow : OpenClaim := { program := "ytfkifahbmemepaadoor", sum := "2bdfc6f213baf59e55b200d8962e43f78a58882d0a08aef929a250bd5ebfc333", func := "dovetail/dovetaillaw01.ScanDigits", spec := "scanDigits", inPlace := ["internal/bytealg.IndexByteString", "internal/bytealg.IndexString", "internal/bytealg.abigen_runtime_cmpstring"], unfollowed := true, recurses := true, named := ["unicode/utf8.first", "unicode/utf8.acceptRanges", "internal/bytealg.MaxLen"], apart := false, laid := [("unicode/utf8.acceptRanges", laid_unicode_utf8_acceptRanges), ("unicode/utf8.first", laid_unicode_utf8_first)] }
def ScanDigitsSaid : Prop := scanDigitsRow.holds Tryd.pinned (OpenSpec.ofChange scanDigitsSpec)

/-- ITS FALSE NEIGHBOUR: 'it returns false'. Refute it at one input. -/
def scanDigitsWrong : ChangeSpec := { name := "scanDigits", fn := fun _ => fun
  | [d1, d2] => { results := [.lit (.bool false)], args := [d1, d2] }
  | _ => none }
def ScanDigitsWrongFalsely : Prop := scanDigitsRow.holds Tryd.pinned (OpenSpec.ofChange scanDigitsWrong)

/-- 'dovetaillaw01.ScanOrder': WHATEVER THE INPUT: true; the input reads as it did. -/
def scanOrderSpec : ChangeSpec := { name := "scanOrder", fn := fun _ => fun
  | [d1, d2, d3] => { results := [.lit (.bool true)], args := [d1, d2, d3] }
  | _ => none }
def scanOrderRow : OpenClaim := { program := "ytfkifahbmemepaadoor", sum := "2bdfc6f213baf59e55b200d8962e43f78a58882d0a08aef929a250bd5ebfc333", func := "dovetail/dovetaillaw01.ScanOrder", spec := "scanOrder", inPlace := ["internal/bytealg.IndexByteString", "internal/bytealg.IndexString", "internal/bytealg.abigen_runtime_cmpstring"], unfollowed := true, recurses := true, named := ["unicode/utf8.first", "unicode/utf8.acceptRanges", "internal/bytealg.MaxLen"], apart := false, laid := [("unicode/utf8.acceptRanges", laid_unicode_utf8_acceptRanges), ("unicode/utf8.first", laid_unicode_utf8_first)] }
def ScanOrderSaid : Prop := scanOrderRow.holds Tryd.pinned (OpenSpec.ofChange scanOrderSpec)

/-- ITS FALSE NEIGHBOUR: 'it returns false'. Refute it at one input. -/
def scanOrderWrong : ChangeSpec := { name := "scanOrder", fn := fun _ => fun
  | [d1, d2, d3] => { results := [.lit (.bool false)], args := [d1, d2, d3] }
  | _ => none }
def ScanOrderWrongFalsely : Prop := scanOrderRow.holds Tryd.pinned (OpenSpec.ofChange scanOrderWrong)

/-- 'dovetaillaw01.ScanBack': WHATEVER THE INPUT: true; the input reads as it did. -/
def scanBackSpec : ChangeSpec := { name := "scanBack", fn := fun _ => fun
  | [d1, d2] => { results := [.lit (.bool true)], args := [d1, d2] }
  | _ => none }
def scanBackRow : OpenClaim := { program := "ytfkifahbmemepaadoor", sum := "2bdfc6f213baf59e55b200d8962e43f78a58882d0a08aef929a250bd5ebfc333", func := "dovetail/dovetaillaw01.ScanBack", spec := "scanBack", inPlace := ["internal/bytealg.IndexByteString", "internal/bytealg.IndexString", "internal/bytealg.abigen_runtime_cmpstring"], unfollowed := true, recurses := true, named := ["unicode/utf8.first", "unicode/utf8.acceptRanges", "internal/bytealg.MaxLen"], apart := false, laid := [("unicode/utf8.acceptRanges", laid_unicode_utf8_acceptRanges), ("unicode/utf8.first", laid_unicode_utf8_first)] }
def ScanBackSaid : Prop := scanBackRow.holds Tryd.pinned (OpenSpec.ofChange scanBackSpec)

/-- ITS FALSE NEIGHBOUR: 'it returns false'. Refute it at one input. -/
def scanBackWrong : ChangeSpec := { name := "scanBack", fn := fun _ => fun
  | [d1, d2] => { results := [.lit (.bool false)], args := [d1, d2] }
  | _ => none }
def ScanBackWrongFalsely : Prop := scanBackRow.holds Tryd.pinned (OpenSpec.ofChange scanBackWrong)

/-- 'dovetaillaw01.ScanRuns': WHATEVER THE INPUT: true; the input reads as it did. -/
def scanRunsSpec : ChangeSpec := { name := "scanRuns", fn := fun _ => fun
  | [d1, d2, d3, d4] => { results := [.lit (.bool true)], args := [d1, d2, d3, d4] }
  | _ => none }
def scanRunsRow : OpenClaim := { program := "ytfkifahbmemepaadoor", sum := "2bdfc6f213baf59e55b200d8962e43f78a58882d0a08aef929a250bd5ebfc333", func := "dovetail/dovetaillaw01.ScanRuns", spec := "scanRuns", inPlace := ["internal/bytealg.IndexByteString", "internal/bytealg.IndexString", "internal/bytealg.abigen_runtime_cmpstring"], unfollowed := true, recurses := true, named := ["unicode/utf8.first", "unicode/utf8.acceptRanges", "internal/bytealg.MaxLen"], apart := false, laid := [("unicode/utf8.acceptRanges", laid_unicode_utf8_acceptRanges), ("unicode/utf8.first", laid_unicode_utf8_first)] }
def ScanRunsSaid : Prop := scanRunsRow.holds Tryd.pinned (OpenSpec.ofChange scanRunsSpec)

/-- ITS FALSE NEIGHBOUR: 'it returns false'. Refute it at one input. -/
def scanRunsWrong : ChangeSpec := { name := "scanRuns", fn := fun _ => fun
  | [d1, d2, d3, d4] => { results := [.lit (.bool false)], args := [d1, d2, d3, d4] }
  | _ => none }
def ScanRunsWrongFalsely : Prop := scanRunsRow.holds Tryd.pinned (OpenSpec.ofChange scanRunsWrong)

/-- 'dovetaillaw15.StanzaLoose': WHATEVER THE INPUT: true; the input reads as it did. -/
def stanzaLooseSpec : ChangeSpec := { name := "stanzaLoose", fn := fun _ => fun
  | [d1, d2] => { results := [.lit (.bool true)], args := [d1, d2] }
  | _ => none }
def stanzaLooseRow : OpenClaim := { program := "ytfkifahbmemepaadoor", sum := "2bdfc6f213baf59e55b200d8962e43f78a58882d0a08aef929a250bd5ebfc333", func := "dovetail/dovetaillaw15.StanzaLoose", spec := "stanzaLoose", inPlace := ["internal/bytealg.IndexByteString", "internal/bytealg.IndexString"], unfollowed := true, recurses := true, named := ["unicode/utf8.first", "unicode/utf8.acceptRanges", "internal/bytealg.MaxLen"], apart := false, laid := [("unicode/utf8.acceptRanges", laid_unicode_utf8_acceptRanges), ("unicode/utf8.first", laid_unicode_utf8_first)] }
def StanzaLooseSaid : Prop := stanzaLooseRow.holds Tryd.pinned (OpenSpec.ofChange stanzaLooseSpec)

/-- ITS FALSE NEIGHBOUR: 'it returns false'. Refute it at one input. -/
def stanzaLooseWrong : ChangeSpec := { name := "stanzaLoose", fn := fun _ => fun
  | [d1, d2] => { results := [.lit (.bool false)], args := [d1, d2] }
  | _ => none }
def StanzaLooseWrongFalsely : Prop := stanzaLooseRow.holds Tryd.pinned (OpenSpec.ofChange stanzaLooseWrong)

/-- 'dovetaillaw05.RpmReads': WHATEVER THE INPUT: true; the input reads as it did. -/
def rpmReadsSpec : ChangeSpec := { name := "rpmReads", fn := fun _ => fun
  | [d1, d2] => { results := [.lit (.bool true)], args := [d1, d2] }
  | _ => none }
def rpmReadsRow : OpenClaim := { program := "ytfkifahbmemepaadoor", sum := "2bdfc6f213baf59e55b200d8962e43f78a58882d0a08aef929a250bd5ebfc333", func := "dovetail/dovetaillaw05.RpmReads", spec := "rpmReads", inPlace := ["internal/bytealg.IndexByteString", "internal/bytealg.IndexString", "internal/bytealg.abigen_runtime_cmpstring"], unfollowed := true, recurses := true, named := ["unicode/utf8.first", "unicode/utf8.acceptRanges", "internal/bytealg.MaxLen"], apart := false, laid := [("unicode/utf8.acceptRanges", laid_unicode_utf8_acceptRanges), ("unicode/utf8.first", laid_unicode_utf8_first)] }
def RpmReadsSaid : Prop := rpmReadsRow.holds Tryd.pinned (OpenSpec.ofChange rpmReadsSpec)

/-- ITS FALSE NEIGHBOUR: 'it returns false'. Refute it at one input. -/
def rpmReadsWrong : ChangeSpec := { name := "rpmReads", fn := fun _ => fun
  | [d1, d2] => { results := [.lit (.bool false)], args := [d1, d2] }
  | _ => none }
def RpmReadsWrongFalsely : Prop := rpmReadsRow.holds Tryd.pinned (OpenSpec.ofChange rpmReadsWrong)

/-- 'dovetaillaw05.RpmOrder': WHATEVER THE INPUT: true; the input reads as it did. -/
def rpmOrderSpec : ChangeSpec := { name := "rpmOrder", fn := fun _ => fun
  | [d1, d2, d3] => { results := [.lit (.bool true)], args := [d1, d2, d3] }
  | _ => none }
def rpmOrderRow : OpenClaim := { program := "ytfkifahbmemepaadoor", sum := "2bdfc6f213baf59e55b200d8962e43f78a58882d0a08aef929a250bd5ebfc333", func := "dovetail/dovetaillaw05.RpmOrder", spec := "rpmOrder", inPlace := ["internal/bytealg.IndexByteString", "internal/bytealg.IndexString", "internal/bytealg.abigen_runtime_cmpstring"], unfollowed := true, recurses := true, named := ["unicode/utf8.first", "unicode/utf8.acceptRanges", "internal/bytealg.MaxLen"], apart := false, laid := [("unicode/utf8.acceptRanges", laid_unicode_utf8_acceptRanges), ("unicode/utf8.first", laid_unicode_utf8_first)] }
def RpmOrderSaid : Prop := rpmOrderRow.holds Tryd.pinned (OpenSpec.ofChange rpmOrderSpec)

/-- ITS FALSE NEIGHBOUR: 'it returns false'. Refute it at one input. -/
def rpmOrderWrong : ChangeSpec := { name := "rpmOrder", fn := fun _ => fun
  | [d1, d2, d3] => { results := [.lit (.bool false)], args := [d1, d2, d3] }
  | _ => none }
def RpmOrderWrongFalsely : Prop := rpmOrderRow.holds Tryd.pinned (OpenSpec.ofChange rpmOrderWrong)

/-- 'dovetaillaw05.RpmSigns': WHATEVER THE INPUT: true; the input reads as it did. -/
def rpmSignsSpec : ChangeSpec := { name := "rpmSigns", fn := fun _ => fun
  | [d1, d2] => { results := [.lit (.bool true)], args := [d1, d2] }
  | _ => none }
def rpmSignsRow : OpenClaim := { program := "ytfkifahbmemepaadoor", sum := "2bdfc6f213baf59e55b200d8962e43f78a58882d0a08aef929a250bd5ebfc333", func := "dovetail/dovetaillaw05.RpmSigns", spec := "rpmSigns", inPlace := ["internal/bytealg.IndexByteString", "internal/bytealg.IndexString", "internal/bytealg.abigen_runtime_cmpstring"], unfollowed := true, recurses := true, named := ["unicode/utf8.first", "unicode/utf8.acceptRanges", "internal/bytealg.MaxLen"], apart := false, laid := [("unicode/utf8.acceptRanges", laid_unicode_utf8_acceptRanges), ("unicode/utf8.first", laid_unicode_utf8_first)] }
def RpmSignsSaid : Prop := rpmSignsRow.holds Tryd.pinned (OpenSpec.ofChange rpmSignsSpec)

/-- ITS FALSE NEIGHBOUR: 'it returns false'. Refute it at one input. -/
def rpmSignsWrong : ChangeSpec := { name := "rpmSigns", fn := fun _ => fun
  | [d1, d2] => { results := [.lit (.bool false)], args := [d1, d2] }
  | _ => none }
def RpmSignsWrongFalsely : Prop := rpmSignsRow.holds Tryd.pinned (OpenSpec.ofChange rpmSignsWrong)

/-- 'dovetaillaw05.RpmDoes': WHATEVER THE INPUT: true; the input reads as it did. -/
def rpmDoesSpec : ChangeSpec := { name := "rpmDoes", fn := fun _ => fun
  | [d1, d2] => { results := [.lit (.bool true)], args := [d1, d2] }
  | _ => none }
def rpmDoesRow : OpenClaim := { program := "ytfkifahbmemepaadoor", sum := "2bdfc6f213baf59e55b200d8962e43f78a58882d0a08aef929a250bd5ebfc333", func := "dovetail/dovetaillaw05.RpmDoes", spec := "rpmDoes", inPlace := ["internal/bytealg.IndexByteString", "internal/bytealg.IndexString", "internal/bytealg.abigen_runtime_cmpstring"], unfollowed := true, recurses := true, named := ["unicode/utf8.first", "unicode/utf8.acceptRanges", "internal/bytealg.MaxLen"], apart := false, laid := [("unicode/utf8.acceptRanges", laid_unicode_utf8_acceptRanges), ("unicode/utf8.first", laid_unicode_utf8_first)] }
def RpmDoesSaid : Prop := rpmDoesRow.holds Tryd.pinned (OpenSpec.ofChange rpmDoesSpec)

/-- ITS FALSE NEIGHBOUR: 'it returns false'. Refute it at one input. -/
def rpmDoesWrong : ChangeSpec := { name := "rpmDoes", fn := fun _ => fun
  | [d1, d2] => { results := [.lit (.bool false)], args := [d1, d2] }
  | _ => none }
def RpmDoesWrongFalsely : Prop := rpmDoesRow.holds Tryd.pinned (OpenSpec.ofChange rpmDoesWrong)

/-- 'dovetaillaw05.RpmBack': WHATEVER THE INPUT: true; the input reads as it did. -/
def rpmBackSpec : ChangeSpec := { name := "rpmBack", fn := fun _ => fun
  | [d1, d2] => { results := [.lit (.bool true)], args := [d1, d2] }
  | _ => none }
def rpmBackRow : OpenClaim := { program := "ytfkifahbmemepaadoor", sum := "2bdfc6f213baf59e55b200d8962e43f78a58882d0a08aef929a250bd5ebfc333", func := "dovetail/dovetaillaw05.RpmBack", spec := "rpmBack", inPlace := ["internal/bytealg.IndexByteString", "internal/bytealg.IndexString", "internal/bytealg.abigen_runtime_cmpstring"], unfollowed := true, recurses := true, named := ["unicode/utf8.first", "unicode/utf8.acceptRanges", "internal/bytealg.MaxLen"], apart := false, laid := [("unicode/utf8.acceptRanges", laid_unicode_utf8_acceptRanges), ("unicode/utf8.first", laid_unicode_utf8_first)] }
def RpmBackSaid : Prop := rpmBackRow.holds Tryd.pinned (OpenSpec.ofChange rpmBackSpec)

/-- ITS FALSE NEIGHBOUR: 'it returns false'. Refute it at one input. -/
def rpmBackWrong : ChangeSpec := { name := "rpmBack", fn := fun _ => fun
  | [d1, d2] => { results := [.lit (.bool false)], args := [d1, d2] }
  | _ => none }
def RpmBackWrongFalsely : Prop := rpmBackRow.holds Tryd.pinned (OpenSpec.ofChange rpmBackWrong)

/-- 'dovetaillaw15.StanzaBack': WHATEVER THE INPUT: true; the input reads as it did. -/
def stanzaBackSpec : ChangeSpec := { name := "stanzaBack", fn := fun _ => fun
  | [d1, d2] => { results := [.lit (.bool true)], args := [d1, d2] }
  | _ => none }
def stanzaBackRow : OpenClaim := { program := "ytfkifahbmemepaadoor", sum := "2bdfc6f213baf59e55b200d8962e43f78a58882d0a08aef929a250bd5ebfc333", func := "dovetail/dovetaillaw15.StanzaBack", spec := "stanzaBack", inPlace := ["internal/bytealg.IndexByteString", "internal/bytealg.IndexString", "internal/abi.NoEscape"], unfollowed := true, recurses := true, named := ["unicode/utf8.first", "unicode/utf8.acceptRanges", "internal/bytealg.MaxLen"], apart := false, laid := [("unicode/utf8.acceptRanges", laid_unicode_utf8_acceptRanges), ("unicode/utf8.first", laid_unicode_utf8_first)] }
def StanzaBackSaid : Prop := stanzaBackRow.holds Tryd.pinned (OpenSpec.ofChange stanzaBackSpec)

/-- ITS FALSE NEIGHBOUR: 'it returns false'. Refute it at one input. -/
def stanzaBackWrong : ChangeSpec := { name := "stanzaBack", fn := fun _ => fun
  | [d1, d2] => { results := [.lit (.bool false)], args := [d1, d2] }
  | _ => none }
def StanzaBackWrongFalsely : Prop := stanzaBackRow.holds Tryd.pinned (OpenSpec.ofChange stanzaBackWrong)

/-- 'dovetaillaw15.StanzaTells': WHATEVER THE INPUT: true; the input reads as it did. -/
def stanzaTellsSpec : ChangeSpec := { name := "stanzaTells", fn := fun _ => fun
  | [d1, d2, d3, d4] => { results := [.lit (.bool true)], args := [d1, d2, d3, d4] }
  | _ => none }
def stanzaTellsRow : OpenClaim := { program := "ytfkifahbmemepaadoor", sum := "2bdfc6f213baf59e55b200d8962e43f78a58882d0a08aef929a250bd5ebfc333", func := "dovetail/dovetaillaw15.StanzaTells", spec := "stanzaTells", inPlace := ["internal/bytealg.IndexByteString", "internal/bytealg.IndexString", "internal/abi.NoEscape"], unfollowed := true, recurses := true, named := ["unicode/utf8.first", "unicode/utf8.acceptRanges", "internal/bytealg.MaxLen"], apart := false, laid := [("unicode/utf8.acceptRanges", laid_unicode_utf8_acceptRanges), ("unicode/utf8.first", laid_unicode_utf8_first)] }
def StanzaTellsSaid : Prop := stanzaTellsRow.holds Tryd.pinned (OpenSpec.ofChange stanzaTellsSpec)

/-- ITS FALSE NEIGHBOUR: 'it returns false'. Refute it at one input. -/
def stanzaTellsWrong : ChangeSpec := { name := "stanzaTells", fn := fun _ => fun
  | [d1, d2, d3, d4] => { results := [.lit (.bool false)], args := [d1, d2, d3, d4] }
  | _ => none }
def StanzaTellsWrongFalsely : Prop := stanzaTellsRow.holds Tryd.pinned (OpenSpec.ofChange stanzaTellsWrong)

/- THE SECOND FORM. 'bulk': how many values and letters a reading holds, each counted each time it is reached (what is shared counts as often as it is met; a slice's spare places count too). A statement '..UptoSaid' is the law's where the arguments, and the package variables that the reading takes, are together of bulk at most 1048576: NARROWER than '..Said'. Prove '..Said' where nothing that the law and all that it calls make is longer than what came in: it says more and counts as full. Else prove '..UptoSaid'. A law counts once. -/
mutual
def uptoBulk {H : Type} : DataW H → Nat
  | .lit (.string bytes) => bytes.length + 1
  | .lit _ => 1
  | .nil => 1
  | .ptr d => uptoBulk d + 1
  | .slice elems spare => uptoBulkAll elems + uptoBulkAll spare + 1
  | .agg parts => uptoBulkAll parts + 1
  | .iface _ d => uptoBulk d + 1
  | .map entries => uptoBulkEntries entries + 1
  | .held _ => 1
def uptoBulkAll {H : Type} : List (DataW H) → Nat
  | [] => 0
  | d :: r => uptoBulk d + uptoBulkAll r
def uptoBulkEntries {H : Type} : List (Lit × DataW H) → Nat
  | [] => 0
  | x :: r => uptoBulkEntry x + uptoBulkEntries r
def uptoBulkEntry {H : Type} : Lit × DataW H → Nat
  | (.string bytes, d) => bytes.length + uptoBulk d + 1
  | (_, d) => uptoBulk d + 1
 end
def uptoSmall : (H : Type) → List (DataW H) → Bool := fun _ ds => decide (uptoBulkAll ds ≤ 1048576)
def OpenSpec.upto (s : _root_.Go.ChangeSpec) : _root_.Go.OpenSpec := { _root_.Go.OpenSpec.ofChange s with cond := some uptoSmall }

/-- 'dovetaillaw01.ScanDigits', WHERE WHAT IT READS IS OF BULK AT MOST 1048576: true; the input reads as it did. -/
def scanDigitsUptoRow : OpenClaim := { program := "ytfkifahbmemepaadoor", sum := "2bdfc6f213baf59e55b200d8962e43f78a58882d0a08aef929a250bd5ebfc333", func := "dovetail/dovetaillaw01.ScanDigits", spec := "scanDigits", inPlace := ["internal/bytealg.IndexByteString", "internal/bytealg.IndexString", "internal/bytealg.abigen_runtime_cmpstring"], unfollowed := true, recurses := true, named := ["unicode/utf8.first", "unicode/utf8.acceptRanges", "internal/bytealg.MaxLen"], apart := false, laid := [("unicode/utf8.acceptRanges", laid_unicode_utf8_acceptRanges), ("unicode/utf8.first", laid_unicode_utf8_first)], narrowed := true }
def ScanDigitsUptoSaid : Prop := scanDigitsUptoRow.holds Tryd.pinned (OpenSpec.upto scanDigitsSpec)

/-- 'dovetaillaw01.ScanOrder', WHERE WHAT IT READS IS OF BULK AT MOST 1048576: true; the input reads as it did. -/
def scanOrderUptoRow : OpenClaim := { program := "ytfkifahbmemepaadoor", sum := "2bdfc6f213baf59e55b200d8962e43f78a58882d0a08aef929a250bd5ebfc333", func := "dovetail/dovetaillaw01.ScanOrder", spec := "scanOrder", inPlace := ["internal/bytealg.IndexByteString", "internal/bytealg.IndexString", "internal/bytealg.abigen_runtime_cmpstring"], unfollowed := true, recurses := true, named := ["unicode/utf8.first", "unicode/utf8.acceptRanges", "internal/bytealg.MaxLen"], apart := false, laid := [("unicode/utf8.acceptRanges", laid_unicode_utf8_acceptRanges), ("unicode/utf8.first", laid_unicode_utf8_first)], narrowed := true }
def ScanOrderUptoSaid : Prop := scanOrderUptoRow.holds Tryd.pinned (OpenSpec.upto scanOrderSpec)

/-- 'dovetaillaw01.ScanBack', WHERE WHAT IT READS IS OF BULK AT MOST 1048576: true; the input reads as it did. -/
def scanBackUptoRow : OpenClaim := { program := "ytfkifahbmemepaadoor", sum := "2bdfc6f213baf59e55b200d8962e43f78a58882d0a08aef929a250bd5ebfc333", func := "dovetail/dovetaillaw01.ScanBack", spec := "scanBack", inPlace := ["internal/bytealg.IndexByteString", "internal/bytealg.IndexString", "internal/bytealg.abigen_runtime_cmpstring"], unfollowed := true, recurses := true, named := ["unicode/utf8.first", "unicode/utf8.acceptRanges", "internal/bytealg.MaxLen"], apart := false, laid := [("unicode/utf8.acceptRanges", laid_unicode_utf8_acceptRanges), ("unicode/utf8.first", laid_unicode_utf8_first)], narrowed := true }
def ScanBackUptoSaid : Prop := scanBackUptoRow.holds Tryd.pinned (OpenSpec.upto scanBackSpec)

/-- 'dovetaillaw01.ScanRuns', WHERE WHAT IT READS IS OF BULK AT MOST 1048576: true; the input reads as it did. -/
def scanRunsUptoRow : OpenClaim := { program := "ytfkifahbmemepaadoor", sum := "2bdfc6f213baf59e55b200d8962e43f78a58882d0a08aef929a250bd5ebfc333", func := "dovetail/dovetaillaw01.ScanRuns", spec := "scanRuns", inPlace := ["internal/bytealg.IndexByteString", "internal/bytealg.IndexString", "internal/bytealg.abigen_runtime_cmpstring"], unfollowed := true, recurses := true, named := ["unicode/utf8.first", "unicode/utf8.acceptRanges", "internal/bytealg.MaxLen"], apart := false, laid := [("unicode/utf8.acceptRanges", laid_unicode_utf8_acceptRanges), ("unicode/utf8.first", laid_unicode_utf8_first)], narrowed := true }
def ScanRunsUptoSaid : Prop := scanRunsUptoRow.holds Tryd.pinned (OpenSpec.upto scanRunsSpec)

/-- 'dovetaillaw15.StanzaLoose', WHERE WHAT IT READS IS OF BULK AT MOST 1048576: true; the input reads as it did. -/
def stanzaLooseUptoRow : OpenClaim := { program := "ytfkifahbmemepaadoor", sum := "2bdfc6f213baf59e55b200d8962e43f78a58882d0a08aef929a250bd5ebfc333", func := "dovetail/dovetaillaw15.StanzaLoose", spec := "stanzaLoose", inPlace := ["internal/bytealg.IndexByteString", "internal/bytealg.IndexString"], unfollowed := true, recurses := true, named := ["unicode/utf8.first", "unicode/utf8.acceptRanges", "internal/bytealg.MaxLen"], apart := false, laid := [("unicode/utf8.acceptRanges", laid_unicode_utf8_acceptRanges), ("unicode/utf8.first", laid_unicode_utf8_first)], narrowed := true }
def StanzaLooseUptoSaid : Prop := stanzaLooseUptoRow.holds Tryd.pinned (OpenSpec.upto stanzaLooseSpec)

/-- 'dovetaillaw05.RpmReads', WHERE WHAT IT READS IS OF BULK AT MOST 1048576: true; the input reads as it did. -/
def rpmReadsUptoRow : OpenClaim := { program := "ytfkifahbmemepaadoor", sum := "2bdfc6f213baf59e55b200d8962e43f78a58882d0a08aef929a250bd5ebfc333", func := "dovetail/dovetaillaw05.RpmReads", spec := "rpmReads", inPlace := ["internal/bytealg.IndexByteString", "internal/bytealg.IndexString", "internal/bytealg.abigen_runtime_cmpstring"], unfollowed := true, recurses := true, named := ["unicode/utf8.first", "unicode/utf8.acceptRanges", "internal/bytealg.MaxLen"], apart := false, laid := [("unicode/utf8.acceptRanges", laid_unicode_utf8_acceptRanges), ("unicode/utf8.first", laid_unicode_utf8_first)], narrowed := true }
def RpmReadsUptoSaid : Prop := rpmReadsUptoRow.holds Tryd.pinned (OpenSpec.upto rpmReadsSpec)

/-- 'dovetaillaw05.RpmOrder', WHERE WHAT IT READS IS OF BULK AT MOST 1048576: true; the input reads as it did. -/
def rpmOrderUptoRow : OpenClaim := { program := "ytfkifahbmemepaadoor", sum := "2bdfc6f213baf59e55b200d8962e43f78a58882d0a08aef929a250bd5ebfc333", func := "dovetail/dovetaillaw05.RpmOrder", spec := "rpmOrder", inPlace := ["internal/bytealg.IndexByteString", "internal/bytealg.IndexString", "internal/bytealg.abigen_runtime_cmpstring"], unfollowed := true, recurses := true, named := ["unicode/utf8.first", "unicode/utf8.acceptRanges", "internal/bytealg.MaxLen"], apart := false, laid := [("unicode/utf8.acceptRanges", laid_unicode_utf8_acceptRanges), ("unicode/utf8.first", laid_unicode_utf8_first)], narrowed := true }
def RpmOrderUptoSaid : Prop := rpmOrderUptoRow.holds Tryd.pinned (OpenSpec.upto rpmOrderSpec)

/-- 'dovetaillaw05.RpmSigns', WHERE WHAT IT READS IS OF BULK AT MOST 1048576: true; the input reads as it did. -/
def rpmSignsUptoRow : OpenClaim := { program := "ytfkifahbmemepaadoor", sum := "2bdfc6f213baf59e55b200d8962e43f78a58882d0a08aef929a250bd5ebfc333", func := "dovetail/dovetaillaw05.RpmSigns", spec := "rpmSigns", inPlace := ["internal/bytealg.IndexByteString", "internal/bytealg.IndexString", "internal/bytealg.abigen_runtime_cmpstring"], unfollowed := true, recurses := true, named := ["unicode/utf8.first", "unicode/utf8.acceptRanges", "internal/bytealg.MaxLen"], apart := false, laid := [("unicode/utf8.acceptRanges", laid_unicode_utf8_acceptRanges), ("unicode/utf8.first", laid_unicode_utf8_first)], narrowed := true }
def RpmSignsUptoSaid : Prop := rpmSignsUptoRow.holds Tryd.pinned (OpenSpec.upto rpmSignsSpec)

/-- 'dovetaillaw05.RpmDoes', WHERE WHAT IT READS IS OF BULK AT MOST 1048576: true; the input reads as it did. -/
def rpmDoesUptoRow : OpenClaim := { program := "ytfkifahbmemepaadoor", sum := "2bdfc6f213baf59e55b200d8962e43f78a58882d0a08aef929a250bd5ebfc333", func := "dovetail/dovetaillaw05.RpmDoes", spec := "rpmDoes", inPlace := ["internal/bytealg.IndexByteString", "internal/bytealg.IndexString", "internal/bytealg.abigen_runtime_cmpstring"], unfollowed := true, recurses := true, named := ["unicode/utf8.first", "unicode/utf8.acceptRanges", "internal/bytealg.MaxLen"], apart := false, laid := [("unicode/utf8.acceptRanges", laid_unicode_utf8_acceptRanges), ("unicode/utf8.first", laid_unicode_utf8_first)], narrowed := true }
def RpmDoesUptoSaid : Prop := rpmDoesUptoRow.holds Tryd.pinned (OpenSpec.upto rpmDoesSpec)

/-- 'dovetaillaw05.RpmBack', WHERE WHAT IT READS IS OF BULK AT MOST 1048576: true; the input reads as it did. -/
def rpmBackUptoRow : OpenClaim := { program := "ytfkifahbmemepaadoor", sum := "2bdfc6f213baf59e55b200d8962e43f78a58882d0a08aef929a250bd5ebfc333", func := "dovetail/dovetaillaw05.RpmBack", spec := "rpmBack", inPlace := ["internal/bytealg.IndexByteString", "internal/bytealg.IndexString", "internal/bytealg.abigen_runtime_cmpstring"], unfollowed := true, recurses := true, named := ["unicode/utf8.first", "unicode/utf8.acceptRanges", "internal/bytealg.MaxLen"], apart := false, laid := [("unicode/utf8.acceptRanges", laid_unicode_utf8_acceptRanges), ("unicode/utf8.first", laid_unicode_utf8_first)], narrowed := true }
def RpmBackUptoSaid : Prop := rpmBackUptoRow.holds Tryd.pinned (OpenSpec.upto rpmBackSpec)

/-- 'dovetaillaw15.StanzaBack', WHERE WHAT IT READS IS OF BULK AT MOST 1048576: true; the input reads as it did. -/
def stanzaBackUptoRow : OpenClaim := { program := "ytfkifahbmemepaadoor", sum := "2bdfc6f213baf59e55b200d8962e43f78a58882d0a08aef929a250bd5ebfc333", func := "dovetail/dovetaillaw15.StanzaBack", spec := "stanzaBack", inPlace := ["internal/bytealg.IndexByteString", "internal/bytealg.IndexString", "internal/abi.NoEscape"], unfollowed := true, recurses := true, named := ["unicode/utf8.first", "unicode/utf8.acceptRanges", "internal/bytealg.MaxLen"], apart := false, laid := [("unicode/utf8.acceptRanges", laid_unicode_utf8_acceptRanges), ("unicode/utf8.first", laid_unicode_utf8_first)], narrowed := true }
def StanzaBackUptoSaid : Prop := stanzaBackUptoRow.holds Tryd.pinned (OpenSpec.upto stanzaBackSpec)

/-- 'dovetaillaw15.StanzaTells', WHERE WHAT IT READS IS OF BULK AT MOST 1048576: true; the input reads as it did. -/
def stanzaTellsUptoRow : OpenClaim := { program := "ytfkifahbmemepaadoor", sum := "2bdfc6f213baf59e55b200d8962e43f78a58882d0a08aef929a250bd5ebfc333", func := "dovetail/dovetaillaw15.StanzaTells", spec := "stanzaTells", inPlace := ["internal/bytealg.IndexByteString", "internal/bytealg.IndexString", "internal/abi.NoEscape"], unfollowed := true, recurses := true, named := ["unicode/utf8.first", "unicode/utf8.acceptRanges", "internal/bytealg.MaxLen"], apart := false, laid := [("unicode/utf8.acceptRanges", laid_unicode_utf8_acceptRanges), ("unicode/utf8.first", laid_unicode_utf8_first)], narrowed := true }
def StanzaTellsUptoSaid : Prop := stanzaTellsUptoRow.holds Tryd.pinned (OpenSpec.upto stanzaTellsSpec)

end Rows
end Go.Proofs.YtfkifahbmemepaaDoor

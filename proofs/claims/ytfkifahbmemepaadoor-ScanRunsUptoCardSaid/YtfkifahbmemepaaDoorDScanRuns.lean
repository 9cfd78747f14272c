/- The law ScanRuns, a part of its proof: what the functions that it reaches compute. -/
import Derived.Test.YtfkifahbmemepaaDoorCScanRuns
import Derived.Lib.Bytealg
import Derived.Lib.Strings
import Derived.Test.YtfkifahbmemepaaDoorProg
set_option maxRecDepth 100000
namespace Go.Vm
open Go
def cmpP : List AV → Option AV
  | [.s (.string a), .s (.string b)] => some (.s (.int .i64 (Lib.compareBytes a.data.toList b.data.toList)))
  | _ => none
def ixbP : List AV → Option AV
  | [.s (.string a), .s (.int .u8 c)] => some (.s (.int .i64 (Lib.indexByte a.data.toList c.toNat.toUInt8)))
  | _ => none
noncomputable def E : Env := ⟨Go.Proofs.Tryd.prog, fun f => if f = 109 then some cmpP else if f = 111 then some ixbP else none, fun _ => true⟩
noncomputable def bytealg_CompareString (a b : Str) : Option Int := some (Lib.compareBytes a b)
theorem bytealg_CompareString_ok (a b : Str) : Ct E 109 [bs a, bs b] (bytealg_CompareString a b) (fun r : Int => iv r) :=
  ct_prim (p := cmpP) rfl rfl (fun r hr => by cases hr; rfl) (fun r => VLe.s_refl _)
noncomputable def strings_IndexByte (a : Str) (c : Int) : Option Int := some (Lib.indexByte a c.toNat.toUInt8)
theorem strings_IndexByte_ok (a : Str) (c : Int) : Ct E 111 [bs a, .s (.int .u8 c)] (strings_IndexByte a c) (fun r : Int => iv r) :=
  ct_prim (p := ixbP) rfl rfl (fun r hr => by cases hr; rfl) (fun r => VLe.s_refl _)
end Go.Vm

set_option linter.unusedVariables false
namespace Go.Vm
open Go
structure S_api_Piece where
  Text : Str
  At : Int
  Line : Int
  deriving DecidableEq, Inhabited
abbrev c_S_api_Piece (x : S_api_Piece) : List AV := [bs x.Text, iv x.At, iv x.Line]
theorem ni_S_api_Piece (x : S_api_Piece) : NoIds (c_S_api_Piece x) := noids_cons (noid_s _) (noids_cons (noid_s _) (noids_cons (noid_s _) (noids_nil)))
theorem fz_S_api_Piece (x : S_api_Piece) : Frz (c_S_api_Piece x) := frz_s (frz_s (frz_s (frz_nil)))

structure S_api_Fault where
  Err : Int
  At : Int
  deriving DecidableEq, Inhabited
abbrev c_S_api_Fault (x : S_api_Fault) : List AV := [iv x.Err, iv x.At]
theorem ni_S_api_Fault (x : S_api_Fault) : NoIds (c_S_api_Fault x) := noids_cons (noid_s _) (noids_cons (noid_s _) (noids_nil))
theorem fz_S_api_Fault (x : S_api_Fault) : Frz (c_S_api_Fault x) := frz_s (frz_s (frz_nil))

structure S_stanza_line where
  Piece : S_api_Piece
  blank : Bool
  goes : Bool
  deriving DecidableEq, Inhabited
abbrev c_S_stanza_line (x : S_stanza_line) : List AV := [bs x.Piece.Text, iv x.Piece.At, iv x.Piece.Line, bv x.blank, bv x.goes]
theorem ni_S_stanza_line (x : S_stanza_line) : NoIds (c_S_stanza_line x) := noids_cons (noid_s _) (noids_cons (noid_s _) (noids_cons (noid_s _) (noids_cons (noid_s _) (noids_cons (noid_s _) (noids_nil)))))
theorem fz_S_stanza_line (x : S_stanza_line) : Frz (c_S_stanza_line x) := frz_s (frz_s (frz_s (frz_s (frz_s (frz_nil)))))

structure S_api_Evr where
  Epoch : Str
  Ver : Str
  Rel : Str
  HasRel : Bool
  deriving DecidableEq, Inhabited
abbrev c_S_api_Evr (x : S_api_Evr) : List AV := [bs x.Epoch, bs x.Ver, bs x.Rel, bv x.HasRel]
theorem ni_S_api_Evr (x : S_api_Evr) : NoIds (c_S_api_Evr x) := noids_cons (noid_s _) (noids_cons (noid_s _) (noids_cons (noid_s _) (noids_cons (noid_s _) (noids_nil))))
theorem fz_S_api_Evr (x : S_api_Evr) : Frz (c_S_api_Evr x) := frz_s (frz_s (frz_s (frz_s (frz_nil))))

structure S_rpm_segment where
  kind : Int
  text : Str
  deriving DecidableEq, Inhabited
abbrev c_S_rpm_segment (x : S_rpm_segment) : List AV := [iv x.kind, bs x.text]
theorem ni_S_rpm_segment (x : S_rpm_segment) : NoIds (c_S_rpm_segment x) := noids_cons (noid_s _) (noids_cons (noid_s _) (noids_nil))
theorem fz_S_rpm_segment (x : S_rpm_segment) : Frz (c_S_rpm_segment x) := frz_s (frz_s (frz_nil))

structure S_api_Field where
  Name : Str
  Value : Str
  Line : Int
  At : Int
  From : Int
  deriving DecidableEq, Inhabited
abbrev c_S_api_Field (x : S_api_Field) : List AV := [bs x.Name, bs x.Value, iv x.Line, iv x.At, iv x.From]
theorem ni_S_api_Field (x : S_api_Field) : NoIds (c_S_api_Field x) := noids_cons (noid_s _) (noids_cons (noid_s _) (noids_cons (noid_s _) (noids_cons (noid_s _) (noids_cons (noid_s _) (noids_nil)))))
theorem fz_S_api_Field (x : S_api_Field) : Frz (c_S_api_Field x) := frz_s (frz_s (frz_s (frz_s (frz_s (frz_nil)))))

structure S_api_Stanza where
  Line : Int
  Fields : (List S_api_Field)
  deriving DecidableEq, Inhabited
abbrev c_S_api_Stanza (x : S_api_Stanza) : List AV := [iv x.Line, .fsl 5 (List.map c_S_api_Field x.Fields)]
theorem ni_S_api_Stanza (x : S_api_Stanza) : NoIds (c_S_api_Stanza x) := noids_cons (noid_s _) (noids_cons (noid_fsl _ _) (noids_nil))
theorem fz_S_api_Stanza (x : S_api_Stanza) : Frz (c_S_api_Stanza x) := frz_s (frz_fsl (frz_nil))

end Go.Vm

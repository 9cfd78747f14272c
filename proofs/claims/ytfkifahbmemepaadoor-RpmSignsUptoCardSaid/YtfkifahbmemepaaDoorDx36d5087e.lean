/- What the program at hand is for the abstract evaluator. -/
import Derived.Test.YtfkifahbmemepaaDoorCxffeeaba2
import Derived.Lib.Bytealg
import Derived.Lib.Strings
import Derived.Test.YtfkifahbmemepaaDoorProg
set_option maxRecDepth 100000
namespace Go.Vm
open Go
def cmpP : List AV → Option AV
  | [.s (.string a), .s (.string b)] => some (.s (.int .i64 (Lib.compareBytes a.data.toList b.data.toList)))
  | _ => none
def ixbP : List AV → Option AV
  | [.s (.string a), .s (.int .u8 c)] => some (.s (.int .i64 (Lib.indexByte a.data.toList c.toNat.toUInt8)))
  | _ => none
noncomputable def E : Env := ⟨Go.Proofs.Tryd.prog, fun f => if f = 109 then some cmpP else if f = 111 then some ixbP else none, fun _ => true⟩
noncomputable def bytealg_CompareString (a b : Str) : Option Int := some (Lib.compareBytes a b)
theorem bytealg_CompareString_ok (a b : Str) : Ct E 109 [bs a, bs b] (bytealg_CompareString a b) (fun r : Int => iv r) :=
  ct_prim (p := cmpP) rfl rfl (fun r hr => by cases hr; rfl) (fun r => VLe.s_refl _)
noncomputable def strings_IndexByte (a : Str) (c : Int) : Option Int := some (Lib.indexByte a c.toNat.toUInt8)
end Go.Vm

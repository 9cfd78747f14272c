/- What the program at hand is for the abstract evaluator. -/
import Derived.Test.YthbepckidhmbfaaDoorFx3b6c8f6e
import Derived.Lib.Bytealg
import Derived.Lib.Strings
import Derived.Test.YthbepckidhmbfaaDoorProg
set_option maxRecDepth 100000
namespace Go.Vm
open Go
def cmpP : List AV → Option AV
  | [.s (.string a), .s (.string b)] => some (.s (.int .i64 (Lib.compareBytes a.data.toList b.data.toList)))
  | _ => none
def ixbP : List AV → Option AV
  | [.s (.string a), .s (.int .u8 c)] => some (.s (.int .i64 (Lib.indexByte a.data.toList c.toNat.toUInt8)))
  | _ => none
noncomputable def E : Env := ⟨Go.Proofs.Tryd.prog, fun f => if f = 75 then some cmpP else if f = 77 then some ixbP else if f = 20 then some ctaP else if f = 57 then some joinP else none, fun f => !(Nat.beq f 17 || Nat.beq f 18 || Nat.beq f 19 || Nat.beq f 21 || Nat.beq f 22 || Nat.beq f 23 || Nat.beq f 40 || Nat.beq f 41 || Nat.beq f 42 || Nat.beq f 47)⟩
noncomputable def bytealg_CompareString (a b : Str) : Option Int := some (Lib.compareBytes a b)
theorem bytealg_CompareString_ok (a b : Str) : Ct E 75 [bs a, bs b] (bytealg_CompareString a b) (fun r : Int => iv r) :=
  ct_prim (p := cmpP) rfl rfl (fun r hr => by cases hr; rfl) (fun r => VLe.s_refl _)
noncomputable def strings_IndexByte (a : Str) (c : Int) : Option Int := some (Lib.indexByte a c.toNat.toUInt8)
theorem strings_ContainsAny_ok (a b : Str) : Ct E 20 [bs a, bs b] (strings_ContainsAny a b) (fun r : Bool => bv r) := strings_ContainsAny_ct rfl a b
theorem strings_Join_ok (l : List Str) (sep : Str) : Ct E 57 [.fsl 1 (List.map cS l), bs sep] (strings_Join l sep) (fun r : Str => bs r) := strings_Join_ct rfl l sep
end Go.Vm

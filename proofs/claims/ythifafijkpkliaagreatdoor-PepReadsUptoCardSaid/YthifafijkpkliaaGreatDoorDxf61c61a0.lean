/- What the program at hand is for the abstract evaluator. -/
import Derived.Test.YthifafijkpkliaaGreatDoorFx3588a565
import Derived.Lib.Bytealg
import Derived.Lib.Strings
import Derived.Test.YthifafijkpkliaaGreatDoorProg
set_option maxRecDepth 100000
namespace Go.Vm
open Go
def cmpP:List AV→Option AV
  | [.s (.string a),.s (.string b)]=>some (.s (.int .i64 (Lib.compareBytes a.data.toList b.data.toList)))
  | _=>none
def ixbP:List AV→Option AV
  | [.s (.string a),.s (.int .u8 c)]=>some (.s (.int .i64 (Lib.indexByte a.data.toList c.toNat.toUInt8)))
  | _=>none
noncomputable def E:Env:=⟨Go.Proofs.Tryz.prog,fun f=>if f=140 then some cmpP else if f=145 then some ixbP else if f=39 then some ctaP else none,fun f=>!(Nat.beq f 5 || Nat.beq f 7 || Nat.beq f 25 || Nat.beq f 26 || Nat.beq f 36 || Nat.beq f 37 || Nat.beq f 38 || Nat.beq f 40 || Nat.beq f 41 || Nat.beq f 42 || Nat.beq f 45 || Nat.beq f 47 || Nat.beq f 48 || Nat.beq f 50 || Nat.beq f 51 || Nat.beq f 77 || Nat.beq f 78 || Nat.beq f 79 || Nat.beq f 88 || Nat.beq f 89 || Nat.beq f 90 || Nat.beq f 95 || Nat.beq f 108 || Nat.beq f 110 || Nat.beq f 111 || Nat.beq f 112 || Nat.beq f 113 || Nat.beq f 115),fun f=>if f=102 then some (liftM joinP) else none⟩
noncomputable def bytealg_CompareString (a b:Str):Option Int:=some (Lib.compareBytes a b)
theorem bytealg_CompareString_ok (a b:Str):Ct E 140 [bs a,bs b] (bytealg_CompareString a b) (fun r:Int=>iv r):=
  ct_prim (p:=cmpP) rfl rfl (fun r hr=>by cases hr; rfl) (fun r=>VLe.s_refl _)
noncomputable def strings_IndexByte (a:Str) (c:Int):Option Int:=some (Lib.indexByte a c.toNat.toUInt8)
theorem strings_ContainsAny_ok (a b:Str):Ct E 39 [bs a,bs b] (strings_ContainsAny a b) (fun r:Bool=>bv r):=strings_ContainsAny_ct rfl a b
theorem strings_Join_ok (l:List Str) (sep:Str):Ct E 102 [.fsl 1 (List.map cS l),bs sep] (strings_Join l sep) (fun r:Str=>bs r):=strings_Join_ctM rfl rfl rfl l sep
end Go.Vm

/- What the program at hand is for the abstract evaluator. -/
import Derived.Test.YtdenfejaedgehaaGreatDoorFxbb124141
import Derived.Lib.Bytealg
import Derived.Lib.Strings
import Derived.Test.YtdenfejaedgehaaGreatDoorProg
set_option linter.unusedVariables false
set_option linter.unusedSimpArgs false
set_option linter.unusedVariables false
set_option maxRecDepth 100000
namespace Go.Vm
open Go
def AD5:List AV→Option AV
 | [.s (.string a),.s (.string b)]=>some (.s (.int .i64 (Lib.compareBytes a.data.toList b.data.toList)))
 | _=>none
def AFM:List AV→Option AV
 | [.s (.string a),.s (.int .u8 c)]=>some (.s (.int .i64 (Lib.indexByte a.data.toList c.toNat.toUInt8)))
 | _=>none
noncomputable def E:Env:=⟨Go.Proofs.Tryz.prog,fun f=>if f=131 then some AD5 else if f=123 then some AFM else if f=53 then some ACg else none,fun f=>!(Nat.beq f 6 || Nat.beq f 17 || Nat.beq f 18 || Nat.beq f 24 || Nat.beq f 26 || Nat.beq f 27 || Nat.beq f 29 || Nat.beq f 30 || Nat.beq f 36 || Nat.beq f 38 || Nat.beq f 39 || Nat.beq f 40 || Nat.beq f 41 || Nat.beq f 43 || Nat.beq f 50 || Nat.beq f 51 || Nat.beq f 52 || Nat.beq f 54 || Nat.beq f 55 || Nat.beq f 56 || Nat.beq f 79 || Nat.beq f 80 || Nat.beq f 81 || Nat.beq f 85 || Nat.beq f 110),fun f=>if f=44 then some (uG YO) else none,fun e x d=>false⟩
noncomputable def bytealg_CompareString (a b:Str):Option Int:=some (Lib.compareBytes a b)
theorem M5 (a b:Str):Ct E 131 [bs a,bs b] (bytealg_CompareString a b) (fun r:Int=>iv r):=
 AD8 (p:=AD5) rfl rfl (fun r hr=>by cases hr; rfl) (fun r=>VLe.s_refl _)
noncomputable def strings_IndexByte (a:Str) (c:Int):Option Int:=some (Lib.indexByte a c.toNat.toUInt8)
theorem QK (a b:Str):Ct E 53 [bs a,bs b] (strings_ContainsAny a b) (fun r:Bool=>bv r):=QJ rfl a b
theorem aF (l:List Str) (sep:Str):Ct E 44 [.fsl 1 (List.map cS l),bs sep] (strings_Join l sep) (fun r:Str=>bs r):=X8 rfl rfl rfl l sep
end Go.Vm

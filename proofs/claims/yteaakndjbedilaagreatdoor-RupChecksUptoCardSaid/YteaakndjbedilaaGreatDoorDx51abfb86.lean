/- What the program at hand is for the abstract evaluator. -/
import Derived.Test.YteaakndjbedilaaGreatDoorH0RupChecks
import Derived.Lib.Bytealg
import Derived.Lib.Strings
import Derived.Test.YteaakndjbedilaaGreatDoorProg
set_option linter.unusedVariables false
set_option linter.unusedSimpArgs false
set_option linter.unusedVariables false
set_option maxRecDepth 100000
namespace Go.Vm
open Go
def cmpP:List AV→Option AV
  | [.s (.string a),.s (.string b)]=>some (.s (.int .i64 (Lib.compareBytes a.data.toList b.data.toList)))
  | _=>none
def ixbP:List AV→Option AV
  | [.s (.string a),.s (.int .u8 c)]=>some (.s (.int .i64 (Lib.indexByte a.data.toList c.toNat.toUInt8)))
  | _=>none
noncomputable def E0:Env:=⟨Go.Proofs.Tryz.prog,fun f=>if f=76 then some cmpP else if f=108 then some ixbP else if f=55 then some itoaP else if f=56 then some atoiP else none,fun f=>!(Nat.beq f 6 || Nat.beq f 16 || Nat.beq f 17 || Nat.beq f 20 || Nat.beq f 24 || Nat.beq f 28 || Nat.beq f 32 || Nat.beq f 33 || Nat.beq f 35 || Nat.beq f 36 || Nat.beq f 37 || Nat.beq f 53 || Nat.beq f 57 || Nat.beq f 72),fun f=>if f=17 then some (sortOM 18 decI (Value.int .i64) srtSz) else if f=72 then some (appUM Go.Proofs.Tryz.prog 5) else none,fun e x d=>false⟩
noncomputable def E:Env:=⟨Go.Proofs.Tryz.prog,fun f=>if f=76 then some cmpP else if f=108 then some ixbP else if f=55 then some itoaP else if f=56 then some atoiP else none,fun f=>!(Nat.beq f 6 || Nat.beq f 16 || Nat.beq f 17 || Nat.beq f 20 || Nat.beq f 24 || Nat.beq f 28 || Nat.beq f 32 || Nat.beq f 33 || Nat.beq f 35 || Nat.beq f 36 || Nat.beq f 37 || Nat.beq f 53 || Nat.beq f 57 || Nat.beq f 72),fun f=>if f=15 then some (fun a h n=>(rinf E0).call 15 a h n) else if f=16 then some (fun a h n=>(rinf E0).call 16 a h n) else if f=22 then some (fun a h n=>(rinf E0).call 22 a h n) else if f=27 then some (fun a h n=>(rinf E0).call 27 a h n) else if f=28 then some (fun a h n=>(rinf E0).call 28 a h n) else if f=38 then some (fun a h n=>(rinf E0).call 38 a h n) else if f=39 then some (fun a h n=>(rinf E0).call 39 a h n) else if f=40 then some (fun a h n=>(rinf E0).call 40 a h n) else if f=58 then some (fun a h n=>(rinf E0).call 58 a h n) else if f=59 then some (fun a h n=>(rinf E0).call 59 a h n) else if f=6 then some (collM E0 16 srtSz) else if f=17 then some (sortOM 18 decI (Value.int .i64) srtSz) else if f=72 then some (appUM Go.Proofs.Tryz.prog 5) else none,fun e x d=>false⟩
noncomputable def bytealg_CompareString (a b:Str):Option Int:=some (Lib.compareBytes a b)
noncomputable def strings_IndexByte (a:Str) (c:Int):Option Int:=some (Lib.indexByte a c.toNat.toUInt8)
theorem strconv_Atoi_ok (s:Str):Ct E 56 [bs s] (strconv_Atoi s) (fun r:Int=>.tup [iv r,.any]):=strconv_Atoi_ct rfl s
end Go.Vm

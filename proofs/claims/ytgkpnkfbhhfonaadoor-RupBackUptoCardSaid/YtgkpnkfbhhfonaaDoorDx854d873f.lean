/- What the program at hand is for the abstract evaluator. -/
import Derived.Test.YtgkpnkfbhhfonaaDoorFxe669e80b
import Derived.Lib.Bytealg
import Derived.Lib.Strings
import Derived.Test.YtgkpnkfbhhfonaaDoorProg
set_option linter.unusedVariables false
set_option linter.unusedSimpArgs false
set_option linter.unusedVariables false
set_option maxRecDepth 100000
namespace Go.Vm
open Go
def cmpP:List AV→Option AV
  | [.s (.string a),.s (.string b)]=>some (.s (.int .i64 (Lib.compareBytes a.data.toList b.data.toList)))
  | _=>none
def ixbP:List AV→Option AV
  | [.s (.string a),.s (.int .u8 c)]=>some (.s (.int .i64 (Lib.indexByte a.data.toList c.toNat.toUInt8)))
  | _=>none
noncomputable def E:Env:=⟨Go.Proofs.Tryd.prog,fun f=>if f=58 then some cmpP else if f=88 then some ixbP else if f=30 then some itoaP else if f=21 then some atoiP else none,fun f=>!(Nat.beq f 18 || Nat.beq f 22 || Nat.beq f 25 || Nat.beq f 28 || Nat.beq f 35 || Nat.beq f 36 || Nat.beq f 38 || Nat.beq f 51 || Nat.beq f 52),fun f=>if f=51 then some (appUM Go.Proofs.Tryd.prog 5) else none,fun e x d=>false⟩
noncomputable def bytealg_CompareString (a b:Str):Option Int:=some (Lib.compareBytes a b)
theorem bytealg_CompareString_ok (a b:Str):Ct E 58 [bs a,bs b] (bytealg_CompareString a b) (fun r:Int=>iv r):=
  ct_prim (p:=cmpP) rfl rfl (fun r hr=>by cases hr; rfl) (fun r=>VLe.s_refl _)
noncomputable def strings_IndexByte (a:Str) (c:Int):Option Int:=some (Lib.indexByte a c.toNat.toUInt8)
theorem strconv_Itoa_ok (n:Int):Ct E 30 [iv n] (strconv_Itoa n) (fun r:Str=>bs r):=strconv_Itoa_ct rfl n
theorem strconv_Atoi_ok (s:Str):Ct E 21 [bs s] (strconv_Atoi s) (fun r:Int=>.tup [iv r,.any]):=strconv_Atoi_ct rfl s
theorem strconv_AppendUint_ok (l:List Int) (z b:Int):CtM E 51 [.osl 0 0 l.length 1,.s (.int .u64 z),.s (.int .i64 b)] [(0,.rows 1 (l.map cB))] 1 (strconv_AppendUint l z b) (fun r:List Int=>.osl 1 0 r.length 1) (fun r=>[(1,.rows 1 (r.map cB))]) 2:=ctm_appU rfl rfl rfl (by kernel_rfl) l z b
end Go.Vm

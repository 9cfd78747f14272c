/- What the program at hand is for the abstract evaluator. -/
import Derived.Test.YtodndfhcfhemdaaDoorFx8362f105
import Derived.Lib.Bytealg
import Derived.Lib.Strings
import Derived.Test.YtodndfhcfhemdaaDoorProg
set_option linter.unusedVariables false
set_option linter.unusedSimpArgs false
set_option linter.unusedVariables false
set_option maxRecDepth 100000
namespace Go.Vm
open Go
noncomputable def E:Env:=⟨Go.Proofs.Tryd.prog,fun f=>if f=54 then some itoaP else if f=83 then some atoiP else none,fun f=>!(Nat.beq f 7 || Nat.beq f 8 || Nat.beq f 17 || Nat.beq f 29 || Nat.beq f 31 || Nat.beq f 33 || Nat.beq f 45 || Nat.beq f 46 || Nat.beq f 53 || Nat.beq f 55 || Nat.beq f 56 || Nat.beq f 57 || Nat.beq f 59 || Nat.beq f 60 || Nat.beq f 61 || Nat.beq f 62 || Nat.beq f 63 || Nat.beq f 65 || Nat.beq f 66 || Nat.beq f 74 || Nat.beq f 75 || Nat.beq f 94 || Nat.beq f 98 || Nat.beq f 99 || Nat.beq f 117 || Nat.beq f 118),fun f=>if f=53 then some bldWrite else if f=55 then some bldText else if f=31 then some (sortOM 32 decI (Value.int .i64) srtBv) else if f=33 then some cptIM else none,fun e x d=>false⟩
theorem strconv_Itoa_ok (n:Int):Ct E 54 [iv n] (strconv_Itoa n) (fun r:Str=>bs r):=strconv_Itoa_ct rfl n
theorem strconv_Atoi_ok (s:Str):Ct E 83 [bs s] (strconv_Atoi s) (fun r:Int=>.tup [iv r,.any]):=strconv_Atoi_ct rfl s
theorem bwr_ok (l s:Str):CtM E 53 [.ptr 0 0 2 0,bs s] [(0,.bld l)] 1 (bwr l s) (fun r:Str=>.tup [iv s.length,.s .nilIface]) (fun r=>[(0,.bld r)]) 1:=bldWrite_ct rfl rfl rfl l s
def btx (l:Str):Option Str:=some l
theorem btx_ok (l:Str):CtM E 55 [.ptr 0 0 2 0] [(0,.bld l)] 1 (btx l) (fun r:Str=>bs r) (fun r=>[(0,.bld l)]) 1:=bldText_ct rfl rfl rfl l
end Go.Vm

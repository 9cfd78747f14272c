/- What the program at hand is for the abstract evaluator. -/
import Derived.Test.YtdmndjchojfnnaaDoorFx6bded6a8
import Derived.Lib.Bytealg
import Derived.Lib.Strings
import Derived.Test.YtdmndjchojfnnaaDoorProg
set_option linter.unusedVariables false
set_option maxRecDepth 100000
namespace Go.Vm
open Go
noncomputable def E:Env:=⟨Go.Proofs.Tryd.prog,fun f=>if f=54 then some itoaP else none,fun f=>!(Nat.beq f 20 || Nat.beq f 43 || Nat.beq f 44 || Nat.beq f 46 || Nat.beq f 47 || Nat.beq f 48 || Nat.beq f 61 || Nat.beq f 68 || Nat.beq f 83),fun f=>if f=46 then some sortIM else if f=47 then some cptIM else if f=55 then some (liftM joinP) else none,fun e x d=>(Nat.beq e 3 && (match x with | .tmp i=>Nat.beq i 0 | _=>false) && (match d with | some j=>Nat.beq j 4 | none=>false)) || false⟩
theorem strconv_Itoa_ok (n:Int):Ct E 54 [iv n] (strconv_Itoa n) (fun r:Str=>bs r):=strconv_Itoa_ct rfl n
theorem strings_Join_ok (l:List Str) (sep:Str):Ct E 55 [.fsl 1 (List.map cS l),bs sep] (strings_Join l sep) (fun r:Str=>bs r):=strings_Join_ctM rfl rfl rfl l sep
theorem slices_SortI_ok (l:List Int):CtM E 46 [.osl 0 0 l.length 1] [(0,.rows 1 (l.map cI))] 1 (slices_SortI l) (fun r:List Int=>.tup []) (fun r=>[(0,.rows 1 (r.map cI))]) 1:=slices_SortI_ct rfl rfl rfl l
theorem slices_CompactI_ok (l:List Int):CtM E 47 [.osl 0 0 l.length 1] [(0,.rows 1 (l.map cI))] 1 (slices_CompactI l) (fun r:List Int=>.osl 0 0 r.length 1) (fun r=>[(0,.rows 1 (r.map cI))]) 1:=slices_CompactI_ct rfl rfl rfl l
end Go.Vm

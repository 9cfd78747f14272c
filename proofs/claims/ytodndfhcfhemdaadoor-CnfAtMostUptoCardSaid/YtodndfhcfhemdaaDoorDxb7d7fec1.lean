/- What the program at hand is for the abstract evaluator. -/
import Derived.Test.YtodndfhcfhemdaaDoorFx3eab5c56
import Derived.Lib.Bytealg
import Derived.Lib.Strings
import Derived.Test.YtodndfhcfhemdaaDoorProg
set_option linter.unusedVariables false
set_option linter.unusedSimpArgs false
set_option linter.unusedVariables false
set_option maxRecDepth 100000
namespace Go.Vm
open Go
noncomputable def E:Env:=⟨Go.Proofs.Tryd.prog,fun f=>if f=54 then some itoaP else none,fun f=>!(Nat.beq f 7 || Nat.beq f 8 || Nat.beq f 17 || Nat.beq f 29 || Nat.beq f 31 || Nat.beq f 33 || Nat.beq f 45 || Nat.beq f 46 || Nat.beq f 53 || Nat.beq f 55 || Nat.beq f 74 || Nat.beq f 75 || Nat.beq f 94 || Nat.beq f 98 || Nat.beq f 99 || Nat.beq f 117 || Nat.beq f 118),fun f=>if f=53 then some bldWrite else if f=55 then some bldText else if f=31 then some (sortOM 32 decI (Value.int .i64) srtBv) else if f=33 then some cptIM else none,fun e x d=>false⟩
theorem slices_SortFuncV_ok (l:List Int):CtM E 31 [.osl 0 0 l.length 1,.fn 32 []] [(0,.rows 1 (l.map cI))] 1 (slices_SortFuncV l) (fun r:List Int=>.tup []) (fun r=>[(0,.rows 1 (r.map cI))]) 1:=ctm_sortO (fun _=>rfl) srtBv_len rfl rfl rfl l
theorem slices_SortFuncV_len {l r:List Int} (h:slices_SortFuncV l=some r):r.length=l.length:=by
  unfold slices_SortFuncV srtOO at h
  split at h
  · exact srtBv_len _ _ h
  · cases h
theorem slices_CompactI_ok (l:List Int):CtM E 33 [.osl 0 0 l.length 1] [(0,.rows 1 (l.map cI))] 1 (slices_CompactI l) (fun r:List Int=>.osl 0 0 r.length 1) (fun r=>[(0,.rows 1 (r.map cI))]) 1:=slices_CompactI_ct rfl rfl rfl l
end Go.Vm

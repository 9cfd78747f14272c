/- The law CnfTexts, a part of its proof: what the functions that it reaches compute. -/
import Derived.Test.YtodndfhcfhemdaaDoorDx5db96d9e
set_option linter.unusedVariables false
set_option linter.unusedSimpArgs false
set_option maxRecDepth 1000000
namespace Go.Vm
open Go
theorem awake24:pcall E 100 16 []=some (bv true):=by kernel_rfl
noncomputable def law24_awake:Option Bool:=some true
theorem law24_awake_ok:Ct E 16 [] law24_awake (fun r:Bool=>bv r):=ct_comp (E:=E) (h':=AHeap.nil) (n':=0) rfl rfl awake24 (VLe.s_refl _)
end Go.Vm

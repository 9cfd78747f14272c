/- The law PropOrder, a part of its proof: what the functions that it reaches compute. -/
import Derived.Test.YtegkglnbjbaibaaDx2f8c66e6
set_option linter.unusedVariables false
set_option linter.unusedSimpArgs false
set_option maxRecDepth 1000000
namespace Go.Vm
open Go
theorem awake26:pcall E 100 13 []=some (bv true):=by kernel_rfl
noncomputable def law26_awake:Option Bool:=some true
theorem law26_awake_ok:Ct E 13 [] law26_awake (fun r:Bool=>bv r):=ct_comp (h':=AHeap.nil) (n':=0) rfl rfl awake26 (VLe.s_refl _)
end Go.Vm

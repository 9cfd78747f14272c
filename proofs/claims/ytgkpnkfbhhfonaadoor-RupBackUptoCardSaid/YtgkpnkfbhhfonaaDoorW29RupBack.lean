/- The law RupBack, a part of its proof: what the functions that it reaches compute. -/
import Derived.Test.YtgkpnkfbhhfonaaDoorDx854d873f
set_option linter.unusedVariables false
set_option linter.unusedSimpArgs false
set_option maxRecDepth 1000000
namespace Go.Vm
open Go
theorem awake29:pcall E 100 11 []=some (bv true):=by kernel_rfl
noncomputable def law29_awake:Option Bool:=some true
theorem law29_awake_ok:Ct E 11 [] law29_awake (fun r:Bool=>bv r):=ct_comp (h':=AHeap.nil) (n':=0) rfl rfl awake29 (VLe.s_refl _)
end Go.Vm

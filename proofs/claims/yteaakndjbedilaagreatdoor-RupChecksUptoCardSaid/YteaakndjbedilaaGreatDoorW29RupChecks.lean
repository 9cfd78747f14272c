/- The law RupChecks, a part of its proof: what the functions that it reaches compute. -/
import Derived.Test.YteaakndjbedilaaGreatDoorDx51abfb86
set_option linter.unusedVariables false
set_option linter.unusedSimpArgs false
set_option maxRecDepth 1000000
namespace Go.Vm
open Go
theorem awake29:pcall E0 100 15 []=some (bv true):=by kernel_rfl
noncomputable def law29_awake:Option Bool:=some true
theorem law29_awake_ok:Ct E 15 [] law29_awake (fun r:Bool=>bv r):=Ct.lift (E:=E) (E0:=E0) (m:=law29_awake) (er:=fun r:Bool=>bv r) rfl rfl rfl rfl (ct_comp (E:=E0) (h':=AHeap.nil) (n':=0) rfl rfl awake29 (VLe.s_refl _))
end Go.Vm

/- The law RpmSigns, a part of its proof: what the functions that it reaches compute. -/
import Derived.Test.YtfkifahbmemepaaDoorDx36d5087e
set_option maxRecDepth 1000000
namespace Go.Vm
open Go
theorem awake05 : pcall E 100 43 [] = some (bv true) := by kernel_rfl
noncomputable def law05_awake : Option Bool := some true
theorem law05_awake_ok : Ct E 43 [] law05_awake (fun r : Bool => bv r) := ct_comp (h' := AHeap.nil) (n' := 0) rfl rfl awake05 (VLe.s_refl _)
end Go.Vm

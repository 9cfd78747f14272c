/- The law ScanRuns, a part of its proof: what the functions that it reaches compute. -/
import Derived.Test.YtfkifahbmemepaaDoorDScanRuns
set_option maxRecDepth 1000000
namespace Go.Vm
open Go
theorem awake01 : pcall E 100 21 [] = some (bv true) := by kernel_rfl
noncomputable def law01_awake : Option Bool := some true
theorem law01_awake_ok : Ct E 21 [] law01_awake (fun r : Bool => bv r) := ct_comp (h' := AHeap.nil) (n' := 0) rfl rfl awake01 (VLe.s_refl _)
end Go.Vm

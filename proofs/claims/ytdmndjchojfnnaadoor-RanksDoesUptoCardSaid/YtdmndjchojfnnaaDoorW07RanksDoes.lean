/- The law RanksDoes, a part of its proof: what the functions that it reaches compute. -/
import Derived.Test.YtdmndjchojfnnaaDoorDxfbc45b43
set_option maxRecDepth 1000000
namespace Go.Vm
open Go
theorem awake07:pcall E 100 8 []=some (bv true):=by kernel_rfl
noncomputable def law07_awake:Option Bool:=some true
theorem law07_awake_ok:Ct E 8 [] law07_awake (fun r:Bool=>bv r):=ct_comp (h':=AHeap.nil) (n':=0) rfl rfl awake07 (VLe.s_refl _)
end Go.Vm

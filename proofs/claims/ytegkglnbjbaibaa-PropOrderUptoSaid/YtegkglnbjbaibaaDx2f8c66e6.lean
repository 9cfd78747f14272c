/- What the program at hand is for the abstract evaluator. -/
import Derived.Test.YtegkglnbjbaibaaFxc7473d97
import Derived.Lib.Bytealg
import Derived.Lib.Strings
import Derived.Test.YtegkglnbjbaibaaProg
set_option linter.unusedVariables false
set_option linter.unusedSimpArgs false
set_option linter.unusedVariables false
set_option maxRecDepth 100000
namespace Go.Vm
open Go
noncomputable def E:Env:=⟨Go.Proofs.Try.prog,fun f=>none,fun f=>!(Nat.beq f 6 || Nat.beq f 7 || Nat.beq f 14 || Nat.beq f 15 || Nat.beq f 16 || Nat.beq f 19 || Nat.beq f 27 || Nat.beq f 28 || Nat.beq f 29 || Nat.beq f 32 || Nat.beq f 33 || Nat.beq f 34 || Nat.beq f 39 || Nat.beq f 50),fun f=>if f=16 then some (sortOM 17 decI (Value.int .i64) srtSz) else none,fun e x d=>false⟩
theorem slices_SortFuncI_ok (l:List Int):CtM E 16 [.osl 0 0 l.length 1,.fn 17 []] [(0,.rows 1 (l.map cI))] 1 (slices_SortFuncI l) (fun r:List Int=>.tup []) (fun r=>[(0,.rows 1 (r.map cI))]) 1:=ctm_sortO (fun _=>rfl) srtSz_len rfl rfl rfl l
theorem slices_SortFuncI_len {l r:List Int} (h:slices_SortFuncI l=some r):r.length=l.length:=by
  unfold slices_SortFuncI srtOO at h
  split at h
  · exact srtSz_len _ _ h
  · cases h
end Go.Vm

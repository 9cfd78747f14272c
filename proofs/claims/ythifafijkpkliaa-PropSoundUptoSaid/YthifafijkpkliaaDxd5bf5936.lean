/- What the program at hand is for the abstract evaluator. -/
import Derived.Test.YthifafijkpkliaaFx89084b10
import Derived.Lib.Bytealg
import Derived.Lib.Strings
import Derived.Test.YthifafijkpkliaaProg
set_option linter.unusedVariables false
set_option linter.unusedSimpArgs false
set_option linter.unusedVariables false
set_option maxRecDepth 100000
namespace Go.Vm
open Go
noncomputable def E:Env:=⟨Go.Proofs.Try.prog,fun f=>none,fun f=>!(Nat.beq f 8 || Nat.beq f 9 || Nat.beq f 14 || Nat.beq f 15 || Nat.beq f 26 || Nat.beq f 27 || Nat.beq f 28 || Nat.beq f 30 || Nat.beq f 31 || Nat.beq f 32 || Nat.beq f 40 || Nat.beq f 41),fun f=>none,fun e x d=>false⟩
end Go.Vm

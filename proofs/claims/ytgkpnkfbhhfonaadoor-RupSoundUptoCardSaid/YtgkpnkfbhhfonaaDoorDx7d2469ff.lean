/- What the program at hand is for the abstract evaluator. -/
import Derived.Test.YtgkpnkfbhhfonaaDoorFx5b343ccf
import Derived.Lib.Bytealg
import Derived.Lib.Strings
import Derived.Test.YtgkpnkfbhhfonaaDoorProg
set_option linter.unusedVariables false
set_option linter.unusedSimpArgs false
set_option linter.unusedVariables false
set_option maxRecDepth 100000
namespace Go.Vm
open Go
def cmpP:List AV→Option AV
  | [.s (.string a),.s (.string b)]=>some (.s (.int .i64 (Lib.compareBytes a.data.toList b.data.toList)))
  | _=>none
def ixbP:List AV→Option AV
  | [.s (.string a),.s (.int .u8 c)]=>some (.s (.int .i64 (Lib.indexByte a.data.toList c.toNat.toUInt8)))
  | _=>none
noncomputable def E:Env:=⟨Go.Proofs.Tryd.prog,fun f=>if f=58 then some cmpP else if f=88 then some ixbP else if f=30 then some itoaP else none,fun f=>!(Nat.beq f 18 || Nat.beq f 22 || Nat.beq f 25 || Nat.beq f 28 || Nat.beq f 35 || Nat.beq f 36 || Nat.beq f 38 || Nat.beq f 51 || Nat.beq f 52 || Nat.beq f 65 || Nat.beq f 66),fun f=>none,fun e x d=>false⟩
noncomputable def bytealg_CompareString (a b:Str):Option Int:=some (Lib.compareBytes a b)
noncomputable def strings_IndexByte (a:Str) (c:Int):Option Int:=some (Lib.indexByte a c.toNat.toUInt8)
end Go.Vm

/- An abstract evaluator of a loaded program's code: definitions, and that it is sound (first part). -/
import GoSem.Claim
import Derived.Lib.LaidTab
import Derived.Lib.ItoaNum
import Derived.RangeFuncNested
import Derived.RangeFuncBound
import Derived.RangeFuncCalls
import Derived.RangeFuncLeaves
import Derived.WalkKit
import Derived.OwnWalkIn
import Derived.Laws.BytesArg
import Derived.Laws.CopyRow
import Derived.KernelRfl
import Derived.Lib.SliceRun
import Derived.MapKept
set_option linter.unusedVariables false
set_option linter.unusedSimpArgs false
namespace Go.Vm
open Go
def glb:List (Nat × (Array Value→Prop)):=[]
def AFR:List TypeId:=[64]
def AEc:List (TypeId × Nat × Nat):=[]
def AFJ:List TypeId:=[]
end Go.Vm
set_option linter.unusedVariables false
namespace Go.Vm
open Go
inductive AV where
 | s (v:Value)
 | agg (cs:List AV)
 | tup (cs:List AV)
 | ptr (id i sz off:Nat)
 | fptr (row:List AV) (off:Nat)
 | osl (id off len sz:Nat)
 | fsl (sz:Nat) (rows:List (List AV))
 | esl
 | fn (f:FuncId) (caps:List AV)
 | yld (l:Nat)
 | mp (id:Nat)
 | fmp (es:List (Value × Value))
 | any
 deriving Inhabited
structure ACL where
 state:LoopState
 pending:Option Code
 tmps:List AV
 params:List Tmp
 assign:Code
 body:Code
 deriving Inhabited
inductive C0 where
 | rows (sz:Nat) (rows:List (List AV))
 | loop (r:ACL)
 | map (es:List (Value × AV))
 deriving Inhabited
abbrev AW:=Nat→Option C0
def AW.put (h:AW) (i:Nat) (o:Option C0):AW:=fun j=>if j=i then o else h j
def AW.nil:AW:=fun _=>none
structure St where
 t:List AV
 h:AW
 n:Nat
inductive AX where
 | normal
 | exit (id:Nat)
 | goto (l:Nat)
 | ret
 deriving DecidableEq,Inhabited
def Bs {α:Type} (P:Program):Sem α→Option α
 | .pure a=>some a
 | .program k=>Bs P (k P)
 | .mark _ k=>Bs P k
 | _=>none
def Vr:Value→AV
 | .agg cs=>.agg (cs.toList.map .s)
 | .func (.func f) first caps=>if first.size=0∧caps.size=0 then .fn f [] else .s (.func (.func f) first caps)
 | v=>.s v
mutual
def Bc:AV→Option Value
 | .s v=>some v
 | .agg cs=>match toVals cs with
  | some vs=>some (.agg vs.toArray)
  | none=>none
 | .tup cs=>match toVals cs with
  | some vs=>some (.tuple vs.toArray)
  | none=>none
 | .fn f []=>some (.func (.func f) #[] #[])
 | _=>none
def toVals:List AV→Option (List Value)
 | []=>some []
 | c :: cs=>match Bc c,toVals cs with
  | some v,some vs=>some (v :: vs)
  | _,_=>none
end
def cU:AV→Bool
 | .s v=>v.oneCell'
 | .agg _ | .tup _ | .any=>false
 | _=>true
def cellsOf:AV→Option (List AV)
 | .agg cs=>if cs.all cU then some cs else none
 | .s (.agg cs)=>if cs.toList.all (·.oneCell') then some (cs.toList.map .s) else none
 | v=>if cU v then some [v] else none
def Ue (P:Program) (t:TypeId):Option Bool:=
 match P.underlying t with
 | some (.struct _) | some (.array _ _)=>some true
 | some _=>some false
 | none=>none
def CQ (P:Program) (t:TypeId):Option Nat:=(P.info? t).map (·.size)
def O0 (P:Program) (t:TypeId):Option Nat:=(P.info? t).map (·.bytes)
def E1 (P:Program) (t:TypeId):Option (List AV):=
 match (P.info? t).bind (·.zero) with
 | some v=>if v.cells.toList.all (·.oneCell') then some (v.cells.toList.map .s) else none
 | none=>none
def LF (P:Program) (t:TypeId):Option TypeId:=
 match P.underlying t with
 | some (.slice e)=>some e
 | _=>none
def Ho (P:Program) (t:TypeId) (row:List AV) (off:Nat):Option AV:=do
 let g ← Ue P t
 let n ← CQ P t
 if g then if off + n≤row.length then some (.agg ((row.drop off).take n)) else none
 else row[off]?
def KG (row:List AV) (off:Nat) (cs:List AV):List AV:=row.take off ++ cs ++ row.drop (off + cs.length)
def Kh (h:AW) (id i sz:Nat):Option (List AV):=
 match h id with
 | some (.rows sz' rows)=>if sz' = sz then rows[i]? else none
 | _=>none
def DQ : AV→Option Int
 | .s (.int _ n)=>some n
 | _=>none
def DD : AV→Option Bool
 | .s (.bool b)=>some b
 | _=>none
def Bn (h:AW) (sz:Nat):AV→Option (List (List AV))
 | .s (.slice none 0 0)=>some []
 | .esl=>some []
 | .fsl sz' rows=>if sz' = sz∨rows=[] then some rows else none
 | .osl id off len sz'=>if sz' = sz then
  match h id with
  | some (.rows sz'' rows)=>if sz'' = sz∧off + len≤rows.length then some ((rows.drop off).take len) else none
  | _=>none
  else none
 | .s (.string b)=>if sz=1 then some (b.data.toList.map fun x=>[.s (.int .u8 x.toNat)]) else none
 | _=>none
def lenOf:AV→Option Nat
 | .fsl _ rows=>some rows.length
 | .osl _ _ len _=>some len
 | .esl=>some 0
 | .s (.slice none 0 0)=>some 0
 | .s (.string b)=>some b.size
 | _=>none
def Ym (op:BinOp) (x y:Value):Option Value:=
 match op,x,y with
 | .add,.int k a,.int k' b=>if k=k' then some (.int k (k.wrap (a + b))) else none
 | .sub,.int k a,.int k' b=>if k=k' then some (.int k (k.wrap (a - b))) else none
 | .mul,.int k a,.int k' b=>if k=k' then some (.int k (k.wrap (a * b))) else none
 | .eql,.int k a,.int k' b=>if k=k' then some (.bool (a == b)) else none
 | .neq,.int k a,.int k' b=>if k=k' then some (.bool (a != b)) else none
 | .lss,.int k a,.int k' b=>if k=k' then some (.bool (decide (a < b))) else none
 | .leq,.int k a,.int k' b=>if k=k' then some (.bool (decide (a≤b))) else none
 | .gtr,.int k a,.int k' b=>if k=k' then some (.bool (decide (a > b))) else none
 | .geq,.int k a,.int k' b=>if k=k' then some (.bool (decide (a≥b))) else none
 | .add,.string a,.string b=>if a.size + b.size≤9223372036854775807 then some (.string (a ++ b)) else none
 | .eql,.string a,.string b=>some (.bool (a.toList == b.toList))
 | .neq,.string a,.string b=>some (.bool (!(a.toList == b.toList)))
 | .lss,.string a,.string b=>some (.bool (Op.bytesLess a.toList b.toList))
 | .leq,.string a,.string b=>some (.bool (Op.bytesLess a.toList b.toList || a.toList == b.toList))
 | .gtr,.string a,.string b=>some (.bool !(Op.bytesLess a.toList b.toList || a.toList == b.toList))
 | .geq,.string a,.string b=>some (.bool !(Op.bytesLess a.toList b.toList))
 | _,_,_=>none
def T5 (place:Nat→Option (Nat × Nat)) (cells:List AV):List (Nat × AV)→Option (List AV)
 | []=>some cells
 | (i,v) :: rest=>
  match place i,cellsOf v with
  | some (off,size),some cs=>if cs.length=size∧off + cs.length≤cells.length then T5 place (KG cells off cs) rest else none
  | _,_=>none
def V7 (P:Program):List Field→Option (List (Nat × Nat))
 | []=>some []
 | f :: fs=>match CQ P f.type,V7 P fs with
  | some n,some l=>some ((f.offset,n) :: l)
  | _,_=>none
def aT (P:Program) (t:TypeId):Option (Nat→Option (Nat × Nat)):=
 match P.underlying t with
 | some (.struct fields)=>(V7 P fields.toList).map fun l=>fun i=>l[i]?
 | some (.array _ e)=>(CQ P e).map fun n=>fun i=>some (i * n,n)
 | _=>none
def Nv (sz:Nat) (rows:List (List AV)):List (Nat × AV)→Option (List (List AV))
 | []=>some rows
 | (i,v) :: rest=>
  match cellsOf v with
  | some cs=>if cs.length=sz∧i < rows.length then Nv sz (rows.set i cs) rest else none
  | none=>none
def F4:List (List AV)→Option (List UInt8)
 | []=>some []
 | [.s (.int .u8 n)] :: rest=>match F4 rest with
  | some bs=>some (UInt8.ofNat n.toNat :: bs)
  | none=>none
 | _=>none
def A0 (t:List AV):Operand→Option AV
 | .tmp i=>t[i]?
 | .const v=>some (Vr v)
 | .global g=>some (.s (.pointer (some ⟨g,0,none⟩)))
 | .func f=>some (.fn f [])
def D5 (t:List AV):List Operand→Option (List AV)
 | []=>some []
 | o :: os=>match A0 t o,D5 t os with
  | some v,some vs=>some (v :: vs)
  | _,_=>none
def HX (t:List AV):List (Nat × Operand)→Option (List (Nat × AV))
 | []=>some []
 | (i,o) :: os=>match A0 t o,HX t os with
  | some v,some vs=>some ((i,v) :: vs)
  | _,_=>none
def Eu (t:List AV):Option Operand→Option (Option AV)
 | none=>some none
 | some o=>match A0 t o with
  | some v=>some (some v)
  | none=>none
abbrev Ups:=List (Nat × Option C0)
def AW.upd (h:AW):Ups→AW
 | []=>h
 | (i,o) :: us=>(h.put i o).upd us
abbrev Res:=Option (AV × Ups)
def DK (P:Program) (ρ:Operand→Value) (o:Oper):Option AV:=
 match Bs P (execOp ρ o) with
 | some (.value v)=>some (Vr v)
 | _=>none
def A9 (t:List AV) (o:Operand):Value:=((A0 t o).bind Bc).getD undef
def BP (t:List AV) (o:Operand):Bool:=((A0 t o).bind Bc).isSome
def TH:Option AV→Option Int
 | none=>some 0
 | some v=>DQ v
def TG (n:Nat):Option AV→Option Int
 | none=>some n
 | some v=>DQ v
def ED (l h:Nat):AV→Option AV
 | .osl id off _ sz=>some (.osl id (off + l) (h - l) sz)
 | .fsl sz rows=>some (.fsl sz ((rows.drop l).take (h - l)))
 | .esl=>some .esl
 | .s (.slice none 0 0)=>some (.s (.slice none 0 0))
 | .s (.string b)=>some (.s (.string (b.extract l h)))
 | _=>none
def AB8:AV→Option AV
 | .osl ..=>some .esl
 | .fsl ..=>some .esl
 | .esl=>some .esl
 | _=>none
def Ea (x:AV) (lo hi mx:Option AV):Option AV:=
 match TH lo,lenOf x with
 | some l,some n=>match TG n hi with
  | some h=>match mx with
   | none=>if 0≤l∧l≤h∧h≤n then ED l.toNat h.toNat x else none
   | some v=>match DQ v with
    | some m=>if 0≤l∧l=h∧h=m∧m≤n∧hi.isSome then AB8 x else none
    | none=>none
  | none=>none
 | _,_=>none
def DO (P:Program) (xType:TypeId) (x:AV) (i:Int):Option AV:=
 match P.underlying xType,x with
 | some (.slice e),.osl id off len sz=>if 0≤i∧i < len∧CQ P e=some sz then some (.ptr id (off + i.toNat) sz 0) else none
 | some (.slice e),.fsl sz rows=>if 0≤i∧CQ P e=some sz then (rows[i.toNat]?).map fun r=>.fptr r 0 else none
 | some (.array n e),.ptr id j sz off=>match CQ P e with
  | some z=>if 0≤i∧i < n then some (.ptr id j sz (off + i.toNat * z)) else none
  | none=>none
 | some (.array n e),.fptr r off=>match CQ P e with
  | some z=>if 0≤i∧i < n then some (.fptr r (off + i.toNat * z)) else none
  | none=>none
 | _,_=>none
def GV (P:Program) (xType:TypeId) (x:AV) (f:Nat):Option AV:=
 match P.underlying xType with
 | some (.struct fields)=>match fields[f]? with
  | some fd=>match CQ P fd.type with
   | some (_ + 1)=>match x with
    | .ptr id i sz off=>some (.ptr id i sz (off + fd.offset))
    | .fptr r off=>some (.fptr r (off + fd.offset))
    | _=>none
   | _=>none
  | none=>none
 | _=>none
def Kz (P:Program) (h:AW) (t:TypeId):AV→Option AV
 | .ptr id i sz off=>match Kh h id i sz with
  | some row=>Ho P t row off
  | none=>none
 | .fptr row off=>Ho P t row off
 | _=>none
def Gx (P:Program) (h:AW) (t:TypeId) (a x:AV):Option Ups:=
 match a,cellsOf x with
 | .ptr id i sz off,some cs=>match h id with
  | some (.rows sz' rows)=>
   if sz' = sz∧CQ P t=some cs.length then
    match rows[i]? with
    | some row=>if off + cs.length≤row.length then some [(id,some (.rows sz (rows.set i (KG row off cs))))] else none
    | none=>none
   else none
  | _=>none
 | _,_=>none
def CT (n sz:Nat) (rows:List (List AV)):Ups:=[(n,some (.rows sz rows))]
def Br (P:Program) (h:AW) (n:Nat) (e:TypeId) (x y:AV):Res:=do
 let sz ← CQ P e
 let b ← O0 P e
 let news ← Bn h sz y
 let z ← E1 P e
 if sz=0∨z.length≠sz then none
 if news=[] then
  match x with
  | .s (.slice none 0 0)=>some (x,[])
  | .esl=>some (x,[])
  | .osl ..=>some (x,[])
  | _=>none
 else match x with
  | .s (.slice none 0 0) | .esl=>
   if news.length * b≤140737488355328∧news.length≤9223372036854775807 then some (.osl n 0 news.length sz,CT n sz news) else none
  | .osl id off len sz'=>
   match h id with
   | some (.rows sz'' rows)=>
    if sz' = sz∧sz'' = sz∧off + len≤rows.length then
     if off + len + news.length≤rows.length then
      some (.osl id off (len + news.length) sz,[(id,some (.rows sz (rows.take (off + len) ++ news ++ rows.drop (off + len + news.length))))])
     else if (len + news.length) * b≤140737488355328∧len + news.length≤9223372036854775807 then
      some (.osl n 0 (len + news.length) sz,[(id,none),(n,some (.rows sz ((rows.drop off).take len ++ news)))])
     else none
    else none
   | _=>none
  | _=>none
def GY (ty:TypeId) (len:Nat):List (Nat × Operand)→Bool
 | (_,.tmp d) :: _=>AEc.any fun e=>Nat.beq e.1 ty && Nat.beq e.2.1 len && Nat.beq e.2.2 d
 | _=>false
def AEz:Option TypeId→Bool
 | some t=>AFJ.any (Nat.beq t)
 | none=>false
def Dx:AV→Bool
 | .s _ | .fsl .. | .fptr .. | .esl=>true
 | _=>false
def bT (h:AW) (c:AV):Option (AV × List Nat):=
 match c with
 | .osl id off len sz=>match Bn h sz (.osl id off len sz) with
  | some rows=>if rows.all (·.all Dx) then some (.fsl sz rows,[id]) else none
  | none=>none
 | c=>if Dx c then some (c,[]) else none
def oA (h:AW):List AV→Option (List AV × List Nat)
 | []=>some ([],[])
 | c :: cs=>match bT h c,oA h cs with
  | some (v,a),some (vs,b)=>some (v :: vs,a ++ b)
  | _,_=>none
def gS (h:AW):List (List AV)→Option (List (List AV) × List Nat)
 | []=>some ([],[])
 | r :: rs=>match oA h r,gS h rs with
  | some (v,a),some (vs,b)=>some (v :: vs,a ++ b)
  | _,_=>none
def drops (l:List Nat):Ups:=l.map fun i=>(i,none)
def EW (P:Program) (h:AW) (n:Nat) (e:TypeId) (u v:AV):Res:=
 match v with
 | .osl id off len sz=>match Bn h sz (.osl id off len sz) with
  | some rows=>if rows.all (·.all Dx) then Br P h n e u v else
   match gS h rows with
   | some (rows',ids)=>(Br P (h.upd (drops (id :: ids))) n e u (.fsl sz rows')).map fun r=>(r.1,drops (id :: ids) ++ r.2)
   | none=>none
  | none=>none
 | _=>Br P h n e u v
def Mo (P:Program) (h:AW) (n:Nat) (tx e:TypeId) (u v:AV):Res:=if AEz (some tx) then EW P h n e u v else Br P h n e u v
def Ud (P:Program) (n:Nat) (e:TypeId) (m:Int):Res:=
 match CQ P e,O0 P e,E1 P e with
 | some sz,some b,some z=>
  if sz=0∨z.length≠sz∨¬ (1≤m∧m≤9223372036854775807∧m.toNat * b≤140737488355328) then none
  else some (.osl n 0 m.toNat sz,CT n sz (List.replicate m.toNat z))
 | _,_,_=>none
def Sw (P:Program) (h:AW) (e:TypeId) (u:AV):Res:=
 match CQ P e,E1 P e with
 | some sz,some z=>
  if sz=0∨z.length≠sz then none else
  match u with
  | .s (.slice none 0 0)=>some (.s (.tuple #[]),[])
  | .esl=>some (.s (.tuple #[]),[])
  | .osl id off len sz'=>match h id with
   | some (.rows sz'' rows)=>if sz' = sz∧sz'' = sz∧off + len≤rows.length then some (.s (.tuple #[]),[(id,some (.rows sz (rows.take off ++ List.replicate len z ++ rows.drop (off + len))))]) else none
   | _=>none
  | _=>none
 | _,_=>none
def gZ (P:Program) (op:BinOp) (xt:TypeId) (y:Operand):Option Bool:=
 match op,y,P.underlying xt with
 | .eql,.const (.slice none 0 0),some (.slice _)=>some false
 | .neq,.const (.slice none 0 0),some (.slice _)=>some true
 | _,_,_=>none
def zH (P:Program) (op:BinOp) (xt:TypeId) (y:Operand):Option AV→Option Bool
 | some (.osl ..)=>gZ P op xt y
 | some (.fsl ..)=>gZ P op xt y
 | some .esl=>gZ P op xt y
 | _=>none
def uN:Option TypeId→Bool
 | some t=>AFR.any (Nat.beq t)
 | none=>false
def ADA (P:Program) (kt:TypeId) (k:Value):Bool:=
 match P.underlying kt,k with
 | some (.int q),.int q' _=>decide (q' = q)
 | some .string,.string _=>true
 | _,_=>false
def T6 (kd:TypeDesc) (k:Value):List (Value × AV)→Nat→Option (Option (Nat × AV))
 | [],_=>some none
 | e :: es,i=>match Instr.sameNow kd k e.1 with
  | some true=>some (some (i,e.2))
  | some false=>T6 kd k es (i + 1)
  | none=>none
def nL (P:Program) (e:TypeId):Option AV:=
 match (P.info? e).bind (·.zero) with
 | some z=>if z.oneCell' then some (.s z) else none
 | none=>none
def QS (h:AW):AV→Option (List (Value × AV))
 | .mp id=>match h id with
  | some (.map es)=>some es
  | _=>none
 | .fmp es=>some (es.map fun e=>(e.1,Vr e.2))
 | .s (.map none)=>some []
 | _=>none
def HF (P:Program) (kt:TypeId) (k:Value) (es:List (Value × AV)):Option (Option (Nat × AV)):=
 if ADA P kt k then (P.underlying kt).bind fun kd=>T6 kd k es 0 else none
def Rj (P:Program) (et:TypeId) (ok:Bool):Option (Option (Nat × AV))→Option AV
 | some (some (_,a))=>some (if ok then .tup [a,.s (.bool true)] else a)
 | some none=>(nL P et).map fun z=>if ok then .tup [z,.s (.bool false)] else z
 | none=>none
def zI (P:Program) (kt:TypeId) (k:Value) (a:AV) (es:List (Value × AV)):Option (List (Value × AV)):=
 match HF P kt k es with
 | some (some (i,_))=>some (es.set i (k,a))
 | some none=>some (es ++ [(k,a)])
 | none=>none
def ABM (P:Program) (kt et:TypeId) (k:Value) (es:List (Value × AV)):Option (AV × List (Value × AV)):=
 match HF P kt k es with
 | some (some (i,a))=>some (.tup [a,.s (.int .i64 i)],es)
 | some none=>(nL P et).map fun z=>(.tup [z,.s (.int .i64 es.length)],es ++ [(k,z)])
 | none=>none
def X6 (j:Int) (a:AV) (es:List (Value × AV)):Option (List (Value × AV)):=
 if 0≤j then match es[j.toNat]? with
  | some e=>some (es.set j.toNat (e.1,a))
  | none=>none
 else none
def Gz (P:Program) (o:Oper) (t:List AV) (h:AW) (n:Nat):Res:=
 match o.op with
 | .makeMap ty none=>some (.mp n,[(n,some (.map []))])
 | .lookup xt x k ok=>match P.underlying xt,(A0 t x).bind (QS h),(A0 t k).bind Bc with
  | some (.map kt et),some es,some kv=>(Rj P et ok (HF P kt kv es)).map (·,[])
  | _,_,_=>none
 | .mapUpdate mt m k v=>match P.underlying mt,A0 t m,(A0 t k).bind Bc,A0 t v with
  | some (.map kt et),some (.mp id),some kv,some a=>match h id with
   | some (.map es)=>(zI P kt kv a es).map fun es'=>(.s undef,[(id,some (.map es'))])
   | _=>none
  | _,_,_,_=>none
 | .mapEntry mt m k=>match P.underlying mt,A0 t m,(A0 t k).bind Bc with
  | some (.map kt et),some (.mp id),some kv=>match h id with
   | some (.map es)=>(ABM P kt et kv es).map fun r=>(r.1,[(id,some (.map r.2))])
   | _=>none
  | _,_,_=>none
 | .entryStore _ m st v=>match A0 t m,(A0 t st).bind DQ,A0 t v with
  | some (.mp id),some j,some a=>match h id with
   | some (.map es)=>(X6 j a es).map fun es'=>(.s undef,[(id,some (.map es'))])
   | _=>none
  | _,_,_=>none
 | .insert mt m k v=>match P.underlying mt,A0 t m,(A0 t k).bind Bc,A0 t v with
  | some (.map kt et),some (.mp id),some kv,some a=>match h id with
   | some (.map es)=>(zI P kt kv a es).map fun es'=>(.s undef,[(id,some (.map es'))])
   | _=>none
  | _,_,_,_=>none
 | _=>none
def aop (P:Program) (o:Oper) (t:List AV) (h:AW) (n:Nat):Res:=
 match o.op with
 | .move x | .assign x=>(A0 t x).map (·,[])
 | .pick c a b=>match (A0 t c).bind DD with
  | some true=>(A0 t a).map (·,[])
  | some false=>(A0 t b).map (·,[])
  | none=>none
 | .alloc e=>match E1 P e with
  | some cs=>some (.ptr n 0 cs.length 0,CT n cs.length [cs])
  | none=>none
 | .box _ x=>match (A0 t x).bind cellsOf with
  | some cs=>some (.ptr n 0 cs.length 0,CT n cs.length [cs])
  | none=>none
 | .build ty ps=>match E1 P ty,aT P ty,HX t ps.toList with
  | some z,some pl,some vs=>(T5 pl z vs).map fun cs=>(.agg cs,[])
  | _,_,_=>none
 | .buildSlice ty len ps=>match LF P ty with
  | some e=>match CQ P e,E1 P e,HX t ps.toList with
   | some sz,some z,some vs=>
    if len * sz≤16777216∧0 < sz∧z.length=sz then (Nv sz (List.replicate len z) vs).map fun rows=>(.osl n 0 len sz,CT n sz rows) else none
   | _,_,_=>none
  | none=>none
 | .load ty a=>match A0 t a with
  | some p=>(Kz P h ty p).map (·,[])
  | none=>none
 | .store ty a x=>match A0 t a,A0 t x with
  | some p,some v=>(Gx P h ty p v).map fun us=>(.s undef,us)
  | _,_=>none
 | .nilCheck x=>match A0 t x with
  | some (.ptr id i sz off)=>some (.ptr id i sz off,[])
  | some (.fptr r off)=>some (.fptr r off,[])
  | _=>none
 | .binOp op xt x y _=>
  if BP t x && BP t y then
   match Ym op (A9 t x) (A9 t y) with
   | some v=>some (.s v,[])
   | none=>(DK P (A9 t) o).map (·,[])
  else (zH P op xt y (A0 t x)).map fun b=>(.s (.bool b),[])
 | .unOp _ _ x=>if BP t x then (DK P (A9 t) o).map (·,[]) else none
 | .convert src dst x=>
  match A0 t x,P.underlying src,P.underlying dst with
  | some (.s (.string b)),some _,some (.slice e)=>
   match P.underlying e,P.info? e with
   | some (.int .u8),some i=>if i.size=1∧b.size≤9223372036854775807 then some (.osl n 0 b.size 1,CT n 1 (b.data.toList.map fun x=>[.s (.int .u8 x.toNat)])) else none
   | _,_=>none
  | some (.s (.string _)),_,some .string=>if BP t x then (DK P (A9 t) o).map (·,[]) else none
  | some v,some (.slice e),some .string=>
   match P.underlying e,(Bn h 1 v).bind F4 with
   | some (.int .u8),some bs=>some (.s (.string ⟨bs.toArray⟩),[])
   | _,_=>none
  | some v,some _,some _=>if (Bc v).isSome then (DK P (A9 t) o).map (·,[]) else none
  | _,_,_=>none
 | .makeFunc (.func f) first caps=>if first.size=0 then (D5 t caps.toList).map fun vs=>(.fn f vs,[]) else none
 | .makeSlice ty l c=>match LF P ty with
  | some e=>match CQ P e,O0 P e,E1 P e,(A0 t l).bind DQ,(A0 t c).bind DQ with
   | some sz,some b,some z,some ln,some cp=>
    if 0≤ln∧ln≤cp∧cp≤9223372036854775807∧b * cp≤281474976710656∧0 < sz∧z.length=sz then some (.osl n 0 ln.toNat sz,CT n sz (List.replicate ln.toNat z)) else none
   | _,_,_,_,_=>none
  | none=>none
 | .slice xt x lo hi mx=>match A0 t x,Eu t lo,Eu t hi,Eu t mx,P.underlying xt with
  | some v,some l,some u,some m,some (.slice e)=>match CQ P e with
   | some z=>match v with
    | .osl _ _ _ sz=>if sz=z then (Ea v l u m).map (·,[]) else none
    | .fsl sz _=>if sz=z then (Ea v l u m).map (·,[]) else none
    | .esl=>(Ea v l u m).map (·,[])
    | .s (.slice none 0 0)=>(Ea v l u m).map (·,[])
    | _=>none
   | none=>none
  | some v,some l,some u,some none,some .string=>match v with
   | .s (.string _)=>(Ea v l u none).map (·,[])
   | _=>none
  | _,_,_,_,_=>none
 | .fieldAddr xt x f=>match A0 t x with
  | some v=>(GV P xt v f).map (·,[])
  | none=>none
 | .field xt x f=>match A0 t x,P.underlying xt with
  | some (.agg cs),some (.struct fields)=>match fields[f]? with
   | some fd=>(Ho P fd.type cs fd.offset).map (·,[])
   | none=>none
  | _,_=>none
 | .indexAddr xt x i=>match A0 t x,(A0 t i).bind DQ with
  | some v,some j=>(DO P xt v j).map (·,[])
  | _,_=>none
 | .index xt x i=>match A0 t x,(A0 t i).bind DQ,P.underlying xt with
  | some (.s (.string b)),some j,some .string=>if hj:0≤j∧j.toNat < b.size then some (.s (.int .u8 (b[j.toNat]'hj.2).toNat),[]) else none
  | some (.agg cs),some j,some (.array len e)=>match CQ P e with
   | some z=>if 0≤j∧j < len then (Ho P e cs (j.toNat * z)).map (·,[]) else none
   | none=>none
  | _,_,_=>none
 | .extract x i=>match A0 t x with
  | some (.tup vs)=>(vs[i]?).map (·,[])
  | _=>none
 | .call { callee:=.builtin .len,args,argTypes }=>match args.toList with
  | [x]=>match A0 t x with
   | some v=>match (argTypes[0]?).bind P.underlying,v with
    | some (.slice _),.osl .. | some (.slice _),.fsl .. | some (.slice _),.esl | some (.slice _),.s (.slice none 0 0) | some .string,.s (.string _)=>(lenOf v).map fun k=>(.s (.int .i64 k),[])
    | some (.array k _),_=>some (.s (.int .i64 k),[])
    | some (.map _ _),.mp id=>if uN argTypes[0]? then match h id with
     | some (.map es)=>some (.s (.int .i64 es.length),[])
     | _=>none
     else none
    | some (.map _ _),.fmp es=>some (.s (.int .i64 es.length),[])
    | _,_=>none
   | none=>none
  | _=>none
 | .call { callee:=.builtin .append,args,argTypes }=>match args.toList,argTypes.toList with
  | [x,y],[tx,ty]=>match A0 t x,A0 t y,LF P tx,P.underlying ty with
   | some u,some v,some e,some (.slice _)=>Mo P h n tx e u v
   | some u,some v,some e,some .string=>Br P h n e u v
   | some (.s (.slice none 0 0)),some (.s (.int _ m)),some e,some (.int _)=>Ud P n e m
   | _,_,_,_=>none
  | _,_=>none
 | .call { callee:=.builtin .clear,args,argTypes }=>match args.toList,argTypes.toList with
  | [x],[tx]=>match A0 t x,LF P tx with
   | some u,some e=>Sw P h e u
   | _,_=>none
  | _,_=>none
 | .call { callee:=.builtin b,args,argTypes }=>match b with
  | .min | .max | .cap=>if args.all (BP t) then (DK P (A9 t) o).map (·,[]) else none
  | _=>none
 | _=>Gz P o t h n
end Go.Vm
namespace Go.Vm
open Go
structure Env where
 P:Program
 prim:FuncId→Option (List AV→Option AV)
 pf:FuncId→Bool
 primM:FuncId→Option (List AV→AW→Nat→Option (AV × AW × Nat))
 fbox:TypeId→Operand→Option Tmp→Bool
structure Rec where
 call:FuncId→List AV→AW→Nat→Option (AV × AW × Nat)
 code:Code→St→Option (AX × St)
def B4 (f:AV→Option (AV × Bool)):List AV→Option (List AV × Bool)
 | []=>some ([],false)
 | c :: cs=>match f c,B4 f cs with
  | some (v,a),some (vs,b)=>some (v :: vs,a || b)
  | _,_=>none
def M3 (f:AV→Option (AV × Bool)):List (List AV)→Option (List (List AV))
 | []=>some []
 | r :: rs=>match B4 f r,M3 f rs with
  | some (v,_),some vs=>some (v :: vs)
  | _,_=>none
def EF:List (Value × AV)→Option (List (Value × Value))
 | []=>some []
 | (k,.s v) :: es=>(EF es).map fun l=>(k,v) :: l
 | (k,.fn f []) :: es=>(EF es).map fun l=>(k,.func (.func f) #[] #[]) :: l
 | _=>none
def CC (h:AW):Nat→AV→Option (AV × Bool)
 | _,.s v=>some (.s v,false)
 | _,.any=>some (.any,false)
 | _,.esl=>some (.esl,false)
 | _,.fsl sz rows=>some (.fsl sz rows,false)
 | _,.fptr row off=>some (.fptr row off,false)
 | _,.fmp es=>some (.fmp es,false)
 | 0,_=>none
 | k + 1,.agg cs=>(B4 (CC h k) cs).map fun (vs,b)=>(.agg vs,b)
 | k + 1,.tup cs=>(B4 (CC h k) cs).map fun (vs,b)=>(.tup vs,b)
 | k + 1,.fn f cs=>(B4 (CC h k) cs).map fun (vs,b)=>(.fn f vs,b)
 | k + 1,.ptr id i sz off=>match Kh h id i sz with
  | some row=>(B4 (CC h k) row).map fun (vs,_)=>(.fptr vs off,true)
  | none=>none
 | k + 1,.osl id off len sz=>match Bn h sz (.osl id off len sz) with
  | some rows=>(M3 (CC h k) rows).map fun vs=>(.fsl sz vs,true)
  | none=>none
 | k + 1,.mp id=>match h id with
  | some (.map es)=>(EF es).map fun vs=>(.fmp vs,true)
  | _=>none
 | _,.yld _=>none
def TU:AV→Bool
 | .s _=>true
 | .agg cs=>cs.all fun | .s _=>true | _=>false
 | .tup cs=>cs.all fun | .s _=>true | .agg ds=>ds.all (fun | .s _=>true | _=>false) | _=>false
 | _=>false
def C3 (t:List AV) (dst:Option Tmp) (v:AV):List AV:=
 match dst with
 | some d=>t.set d v
 | none=>t
def depth:Nat:=12
def C1 (E:Env) (r:Rec) (g:FuncId) (vs:List AV) (h:AW) (n:Nat):Option (AV × AW × Nat):=
 match E.prim g with
 | some p=>(p vs).map fun v=>(v,h,n)
 | none=>
  if E.pf g then
   match B4 (CC h depth) vs with
   | some (vs',b)=>match r.call g vs' AW.nil 0 with
    | some (v,h',_)=>match CC h' depth v with
     | some (v',_)=>if b && !TU v' then none else some (v',h,n)
     | none=>none
    | none=>none
   | none=>none
  else r.call g vs h n
def Nf (t:List AV):List Tmp→List AV→List AV
 | p :: ps,v :: vs=>Nf (t.set p v) ps vs
 | _,_=>t
def HJ (r:Rec) (l:Nat) (vs:List AV) (h:AW) (n:Nat):Option (AV × AW × Nat):=
 match h l with
 | some (.loop R)=>
  if R.state = .ready∧vs.length=R.params.length then
   match r.code R.assign ⟨Nf R.tmps R.params vs,h,n⟩ with
   | some (.normal,s1)=>match s1.h l with
    | some (.loop R1)=>
     if R1.state = .ready then
     match r.code R.body ⟨s1.t,s1.h.put l (some (.loop { R1 with state:=.busy })),s1.n⟩ with
     | some (x,s2)=>match s2.h l with
      | some (.loop R2)=>match x with
       | .normal=>some (.s (.bool true),s2.h.put l (some (.loop { R2 with state:=.ready,pending:=none })),s2.n)
       | .ret=>some (.s (.bool false),s2.h.put l (some (.loop { R2 with state:=.done,pending:=some .ret })),s2.n)
       | .exit id=>some (.s (.bool false),s2.h.put l (some (.loop { R2 with state:=.done,pending:=some (.exit id) })),s2.n)
       | .goto t=>some (.s (.bool false),s2.h.put l (some (.loop { R2 with state:=.done,pending:=some (.goto t) })),s2.n)
      | _=>none
     | none=>none
     else none
    | _=>none
   | _=>none
  else none
 | _=>none
def DI (E:Env) (r:Rec) (t:List AV) (h:AW) (n:Nat) (f:Operand) (args:List Operand):Option (AV × AW × Nat):=
 match A0 t f,D5 t args with
 | some (.fn g caps),some vs=>C1 E r g (vs ++ caps) h n
 | some (.yld l),some vs=>HJ r l vs h n
 | _,_=>none
def CU (ops:Array Oper) (t:List AV) (o:Oper):Option Bool:=
 match o.guard with
 | none=>some true
 | some (j,want)=>
  match (ops[j]?).bind (·.dst) with
  | none=>some false
  | some d=>match t[d]? with
   | some (.s (.bool b))=>some (b == want)
   | some (.s (.tuple _))=>some false
   | _=>none
def Be:Op→Bool
 | .alloc _ | .box .. | .buildSlice .. | .makeSlice .. | .convert ..=>true
 | .makeMap ..=>true
 | .call { callee:=.builtin .append,.. }=>true
 | _=>false
def Rh (P:Program) (t:List AV) (ty:TypeId) (len:Nat) (ps:List (Nat × Operand)):Option AV:=
 match LF P ty with
 | some e=>match CQ P e,E1 P e,HX t ps with
  | some sz,some z,some vs=>
   if len * sz≤16777216∧0 < sz∧z.length=sz then
    match Nv sz (List.replicate len z) vs with
    | some rows=>if rows.all (·.all Dx) then some (.fsl sz rows) else none
    | none=>none
   else none
  | _,_,_=>none
 | none=>none
def Lv (t:List AV) (x:Operand):Option AV:=
 match (A0 t x).bind cellsOf with
 | some [.s v]=>some (.fptr [.s v] 0)
 | _=>none
def CJ (E:Env) (r:Rec) (dr:Bool) (ops:Array Oper) (o:Oper) (s:St):Option St:=
 match CU ops s.t o with
 | none=>none
 | some false=>some { s with t:=C3 s.t o.dst (.s undef) }
 | some true=>
  match o.op with
  | .call { callee:=.value f,args,.. }=>
   match DI E r s.t s.h s.n f args.toList with
   | some (v,h',n')=>some ⟨C3 s.t o.dst v,h',n'⟩
   | none=>none
  | .buildSlice ty len ps=>
   if dr && !(GY ty len ps.toList) then match Rh E.P s.t ty len ps.toList with
    | some v=>some ⟨C3 s.t o.dst v,s.h,s.n⟩
    | none=>none
   else match aop E.P o s.t s.h s.n with
    | some (v,us)=>some ⟨C3 s.t o.dst v,s.h.upd us,s.n + 1⟩
    | none=>none
  | .box e x=>
   if E.fbox e x o.dst then match Lv s.t x with
    | some v=>some ⟨C3 s.t o.dst v,s.h,s.n⟩
    | none=>none
   else match aop E.P o s.t s.h s.n with
    | some (v,us)=>some ⟨C3 s.t o.dst v,s.h.upd us,s.n + 1⟩
    | none=>none
  | _=>
   match aop E.P o s.t s.h s.n with
   | some (v,us)=>some ⟨C3 s.t o.dst v,s.h.upd us,if Be o.op then s.n + 1 else s.n⟩
   | none=>none
def Co (E:Env) (r:Rec) (ro:Bool) (ops:Array Oper):List Nat→St→Option St
 | [],s=>some s
 | i :: is,s=>
  match ops[i]? with
  | none=>Co E r ro ops is s
  | some o=>match CJ E r ro ops o s with
   | some s'=>Co E r ro ops is s'
   | none=>none
def AC3 (d:Nat):Operand→Bool
 | .tmp t=>Nat.beq t d
 | _=>false
def AFQ (E:Env) (ops:Array Oper) (d:Nat):Bool:=
 (ops.toList.any fun o=>match o.op with
  | .call { callee:=.value (.func g),args,.. }=>args.toList.any (AC3 d) && E.pf g
  | _=>false) &&
 ops.toList.all fun o=>match o.op with
  | .call { callee:=.value (.func g),args,.. }=>E.pf g || !(args.toList.any (AC3 d))
  | op=>!(op.operands.toList.any (AC3 d))
def yM (E:Env) (ops:Array Oper):Bool:=(ops.toList.any fun o=>match o.op with | .buildSlice ..=>true | _=>false) && ops.toList.all fun o=>match o.op with
 | .buildSlice ..=>match o.dst with
  | some d=>AFQ E ops d
  | none=>false
 | _=>true
structure Fp where
 all:Bool
 R:List Nat
 W:List Nat
 mem:Option (AW × AW)
def fp0:Fp:=⟨false,[],[],none⟩
def EL:AV→List Nat
 | .ptr id ..=>[id]
 | .osl id ..=>[id]
 | .mp id=>[id]
 | _=>[]
def SA:AV→Bool
 | .s _ | .fsl .. | .fptr .. | .esl=>true
 | .agg cs=>cs.all Dx
 | _=>false
def Er (E:Env) (o:Op) (t:List AV) (n:Nat):Option Fp:=
 match o with
 | .move _ | .assign _ | .pick .. | .build .. | .nilCheck _ | .binOp .. | .unOp .. | .slice .. | .fieldAddr .. | .field .. | .indexAddr .. | .index .. | .extract ..=>some fp0
 | .buildSlice ty len ps=>some (if GY ty len ps.toList then ⟨false,[],[n],none⟩ else fp0)
 | .makeFunc (.func _) ..=>some fp0
 | .load _ a=>(A0 t a).map fun v=>⟨false,EL v,[],none⟩
 | .lookup _ x _ _=>(A0 t x).map fun v=>⟨false,EL v,[],none⟩
 | .store _ a _=>(A0 t a).map fun v=>⟨false,EL v,EL v,none⟩
 | .alloc _ | .box .. | .makeSlice ..=>some ⟨false,[],[n],none⟩
 | .call { callee:=.value (.func g),args,.. }=>
  if (E.prim g).isSome then some fp0 else
  if E.pf g then (D5 t args.toList).map fun vs=>if vs.all SA then fp0 else ⟨true,[],[],none⟩ else none
 | .call { callee:=.builtin b,args,argTypes }=>match b with
  | .len=>if uN argTypes[0]? then none else some fp0
  | .min | .max | .cap=>some fp0
  | .append=>if AEz argTypes[0]? then none else match D5 t args.toList with
   | some [x,y]=>some ⟨false,EL x ++ EL y,n :: EL x,none⟩
   | _=>none
  | _=>none
 | _=>none
def fpM (E:Env) (r:Rec) (o:Op) (t:List AV) (h:AW) (n:Nat):Option Fp:=
 match o with
 | .call { callee:=.value f,args,.. }=>match DI E r t h n f args.toList with
  | some (_,h',_)=>some ⟨true,[],[],some (h,h')⟩
  | none=>none
 | _=>none
def fpH (E:Env) (r:Rec) (o:Op) (t:List AV) (h:AW) (n:Nat):Option Fp:=
 match Er E o t n with
 | some F=>some F
 | none=>fpM E r o t h n
open Classical in
noncomputable def Fp.apart (a b:Fp):Bool:=
 match a.mem,b.mem with
 | none,none=>a.W.all (fun i=>!b.R.contains i && !b.W.contains i) && b.W.all (fun i=>!a.R.contains i) && (a.W.isEmpty || !b.all) && (b.W.isEmpty || !a.all)
 | none,some (x,y)=>a.W.isEmpty && !a.all && decide (∀ i∈a.R,y i=x i)
 | some (x,y),none=>b.W.isEmpty && !b.all && decide (∀ i∈b.R,y i=x i)
 | some _,some _=>false
def ADj (o:Oper):List Tmp:=o.op.operands.toList.filterMap fun | .tmp t=>some t | _=>none
def M0 (ops:Array Oper) (o:Oper):List Tmp:=
 ADj o ++ (match o.guard with
  | some (j,_)=>match (ops[j]?).bind (·.dst) with
   | some d=>[d]
   | none=>[]
  | none=>[])
def Wx (ops:Array Oper) (a b:Oper):Bool:=
 (match a.dst with | some d=>!(M0 ops b).contains d | none=>true) && (match b.dst with | some d=>!(M0 ops a).contains d | none=>true) &&
 (match a.dst,b.dst with | some d,some e=>d != e | _,_=>true)
def Oy (acc:List Nat):List Edge→Nat
 | []=>0
 | e :: es=>if Region.binds .any e then 2 ^ e.on ||| (acc.getD e.on 0) ||| Oy acc es else Oy acc es
def G2 (acc:List Nat):List Oper→List Nat
 | []=>acc
 | o :: os=>G2 (acc ++ [Oy acc o.after.toList]) os
def Hf (ops:Array Oper):List Nat:=G2 [] ops.toList
def Ef (an:List Nat) (j i:Nat):Bool:=(an.getD j 0).testBit i
def L0:Op→Bool
 | .move _ | .assign _ | .pick .. | .build .. | .nilCheck _ | .binOp .. | .unOp .. | .slice .. | .fieldAddr .. | .field .. | .indexAddr .. | .index .. | .extract ..=>false
 | .buildSlice ty len ps=>GY ty len ps.toList
 | .makeFunc ..=>false
 | .call { callee:=.builtin b,argTypes,.. }=>match b with
  | .len=>uN argTypes[0]?
  | .min | .max | .cap=>false
  | _=>true
 | _=>true
def Dp:Op→Bool
 | .buildSlice ty len ps=>GY ty len ps.toList
 | o=>Be o
def Vv (m:Region.Mode) (done:Nat):List (Nat × Oper)→Nat
 | []=>done
 | (i,o) :: os=>Vv m (if o.after.toList.all (fun e=>!Region.binds m e || done.testBit e.on) then done ||| 2 ^ i else done) os
def XA (m:Region.Mode) (ops:List (Nat × Oper)):Nat→Nat→Nat
 | 0,done=>done
 | k + 1,done=>let d:=Vv m done ops; if d=done then done else XA m ops k d
def O6:Nat→List Oper→List (Nat × Oper)
 | _,[]=>[]
 | i,o :: os=>(i,o) :: O6 (i + 1) os
def W4 (ops:Array Oper) (m:Region.Mode):Bool:=XA m (O6 0 ops.toList) ops.size 0 == 2 ^ ops.size - 1
def fH (ops:Array Oper):Bool:=
 W4 ops .any && W4 ops .text && W4 ops .gc &&
 let an:=Hf ops
 (List.range ops.size).all fun j=>(List.range j).all fun i=>Ef an j i ||
  match ops[i]?,ops[j]? with
  | some a,some b=>Wx ops a b && !(Dp a.op && Dp b.op)
  | _,_=>true
noncomputable section
def C4 (E:Env) (r:Rec) (ops:Array Oper):List Nat→St→Option (List (Option Fp) × St)
 | [],s=>some ([],s)
 | i :: is,s=>match ops[i]? with
  | none=>none
  | some o=>match CJ E r true ops o s with
   | some s'=>match C4 E r ops is s' with
    | some (l,s'')=>some ((match CU ops s.t o with | some true=>fpH E r o.op s.t s.h s.n | _=>some fp0) :: l,s'')
    | none=>none
   | none=>none
def KH:Option (Option Fp)→Option (Option Fp)→Bool
 | some (some a),some (some b)=>a.apart b
 | _,_=>false
def JY (ops:Array Oper):List Nat:=(List.range ops.size).filter fun i=>match ops[i]? with | some o=>L0 o.op | none=>false
def J2 (an:List Nat) (fps:List (Option Fp)):List Nat→Bool
 | []=>true
 | i :: is=>is.all (fun j=>Ef an j i || KH fps[i]? fps[j]?) && J2 an fps is
def E4 (an:List Nat):List Nat→Bool
 | []=>true
 | i :: is=>is.all (fun j=>Ef an j i) && E4 an is
def Dv (E:Env) (r:Rec) (ops:Array Oper) (s:St):Option St:=
 let an:=Hf ops
 let l:=JY ops
 if E4 an l then Co E r true ops (List.range ops.size) s else
 match C4 E r ops (List.range ops.size) s with
 | some (fps,s')=>if J2 an fps l then some s' else none
 | none=>none
def Eq:Code→Bool
 | .region _ ops draw=>!draw || fH ops
 | .seq a b | .cond _ a b | .rangeFunc _ _ a b=>Eq a && Eq b
 | .block _ a | .loop a | .scope a=>Eq a
 | _=>true
def Vj:Nat→(St→Option (AX × St))→St→Option (AX × St)
 | 0,_,_=>none
 | k + 1,f,s=>match f s with
  | some (.normal,s')=>Vj k f s'
  | x=>x
def Bz (E:Env) (r:Rec) (k:Nat):Code→St→Option (AX × St)
 | .skip,s=>some (.normal,s)
 | .region _ ops draw,s=>
  match (if draw then Dv E r ops s else Co E r (yM E ops) ops (List.range ops.size) s) with
  | some s'=>some (.normal,s')
  | none=>none
 | .seq a b,s=>match Bz E r k a s with
  | some (.normal,s')=>Bz E r k b s'
  | x=>x
 | .cond c x y,s=>match (A0 s.t c).bind DD with
  | some true=>Bz E r k x s
  | some false=>Bz E r k y s
  | none=>none
 | .block id b,s=>match Bz E r k b s with
  | some (.exit i,s')=>if i=id then some (.normal,s') else some (.exit i,s')
  | x=>x
 | .loop b,s=>Vj k (Bz E r k b) s
 | .rangeFunc f ps asg body,s=>match A0 s.t f with
  | some (.fn g caps)=>
   match r.call g (.yld s.n :: caps) (s.h.put s.n (some (.loop { state:=.ready,pending:=none,tmps:=s.t,params:=ps.toList,assign:=asg,body:=body }))) (s.n + 1) with
   | some (_,h2,n2)=>match h2 s.n with
    | some (.loop R)=>
     if R.state = .busy then none else
     match R.pending with
     | none=>some (.normal,⟨s.t,h2.put s.n none,n2⟩)
     | some .ret=>some (.ret,⟨s.t,h2.put s.n none,n2⟩)
     | some (.exit id)=>some (.exit id,⟨s.t,h2.put s.n none,n2⟩)
     | some (.goto l)=>some (.goto l,⟨s.t,h2.put s.n none,n2⟩)
     | _=>none
    | _=>none
   | none=>none
  | _=>none
 | .exit id,s=>some (.exit id,s)
 | .ret,s=>some (.ret,s)
 | .label _,s=>some (.normal,s)
 | .goto l,s=>some (.goto l,s)
 | .scope b,s=>match Bz E r k b s with
  | some (.goto _,_)=>none
  | x=>x
 | .refuse _,_=>none
def Kg (P:Program) (t:List AV) (h:AW):ResultVar→Option AV
 | .tmp i=>t[i]?
 | .cell a ty=>match t[a]? with
  | some p=>Kz P h ty p
  | none=>none
def resultList (P:Program) (t:List AV) (h:AW):List ResultVar→Option (List AV)
 | []=>some []
 | x :: xs=>match Kg P t h x,resultList P t h xs with
  | some v,some vs=>some (v :: vs)
  | _,_=>none
def Ce (P:Program) (rs:List ResultVar) (t:List AV) (h:AW):Option AV:=
 match resultList P t h rs with
 | some [v]=>some v
 | some vs=>some (.tup vs)
 | none=>none
def Ku (E:Env) (code:Code→St→Option (AX × St)) (f:FuncId) (args:List AV) (h:AW) (n:Nat):Option (AV × AW × Nat):=
 match E.primM f with
 | some p=>p args h n
 | none=>
 match E.P.funcs[f]? with
 | some fn=>match fn.body with
  | some c=>match code c ⟨args ++ List.replicate (fn.ntmps - args.length) (.s undef),h,n⟩ with
   | some (.normal,s)=>match Ce E.P fn.results.toList s.t s.h with
    | some v=>some (v,s.h,s.n)
    | none=>none
   | some (.ret,s)=>match Ce E.P fn.results.toList s.t s.h with
    | some v=>some (v,s.h,s.n)
    | none=>none
   | _=>none
  | none=>none
 | none=>none
def mk (E:Env):Nat→Rec
 | 0=>⟨fun _ _ _ _=>none,fun _ _=>none⟩
 | k + 1=>⟨fun f args h n=>Ku E (Bz E (mk E k) k) f args h n,fun c s=>Bz E (mk E k) k c s⟩
def AAt (E:Env) (k:Nat) (f:FuncId) (args:List AV):Option AV:=
 match (mk E k).call f args AW.nil 0 with
 | some (v,h,_)=>match CC h depth v with
  | some (v',_)=>some v'
  | none=>none
 | none=>none
end
end Go.Vm
set_option linter.unusedSimpArgs false
namespace Go.Vm
open Go
structure Cx where
 w:World
 ι:Nat→Nat × Nat × Nat
 L:Nat→Prop
 X:Nat→Prop
 c:Nat
def Cx.free (K:Cx) (b:Nat):Prop:=b < K.w.heap.size∧¬ K.L b∧¬ K.X b
def Cx.frz (K:Cx):Cx:={ K with c:=0 }
@[simp] theorem Cx.frz_w (K:Cx):K.frz.w=K.w:=rfl
@[simp] theorem Cx.frz_free (K:Cx):K.frz.free=K.free:=rfl
@[simp] theorem Cx.frz_frz (K:Cx):K.frz.frz=K.frz:=rfl
@[simp] theorem Cx.frz_c (K:Cx):K.frz.c=0:=rfl
mutual
def As (K:Cx):AV→Value→Prop
 | .s v,x=>x=v
 | .agg cs,x=>∃ vs,x = .agg vs∧VRels K cs vs.toList
 | .tup cs,x=>∃ vs,x = .tuple vs∧VRels K cs vs.toList
 | .ptr id i sz off,x=>id < K.c∧x = .pointer (some ⟨(K.ι id).1,((K.ι id).2.1 + i) * sz + off,none⟩)
 | .fptr row off,x=>∃ b o,x = .pointer (some ⟨b,o + off,none⟩)∧CRel K.frz b o row
 | .osl id off len sz,x=>id < K.c∧∃ a cap,x = .slice (some a) len cap∧off + cap=(K.ι id).2.2∧len≤cap∧(cap=0∨a=⟨(K.ι id).1,((K.ι id).2.1 + off) * sz,none⟩)
 | .fsl sz rows,x=>∃ A cap,x = .slice A rows.length cap∧A≠none∧rows.length≤cap∧(rows=[]∨∃ b o,A=some ⟨b,o,none⟩∧RRel K.frz b o sz rows)
 | .esl,x=>∃ A,x = .slice A 0 0∧A≠none
 | .fn f caps,x=>∃ cv,x = .func (.func f) #[] cv∧VRels K caps cv.toList
 | .yld l,x=>l < K.c∧x = .func (.yield (K.ι l).1) #[] #[]
 | .mp l,x=>l < K.c∧x = .map (some (K.ι l).1)
 | .fmp es,x=>∃ b ms,x = .map (some b)∧K.free b∧K.w.heap[b]? = some (.map ms es.length)∧ms.size=es.length∧∀ (i:Nat) (e:Value × Value),es[i]? = some e→ms[i]? = some ⟨e.1,e.2,i⟩
 | .any,_=>True
def VRels (K:Cx):List AV→List Value→Prop
 | [],[]=>True
 | c :: cs,v :: vs=>As K c v∧VRels K cs vs
 | _,_=>False
def CRel (K:Cx) (b o:Nat):List AV→Prop
 | []=>True
 | c :: cs=>(∃ v,K.free b∧K.w.cell? ⟨b,o,none⟩=some v∧v.oneCell' = true∧As K c v)∧CRel K b (o + 1) cs
def RRel (K:Cx) (b o sz:Nat):List (List AV)→Prop
 | []=>True
 | r :: rs=>r.length=sz∧CRel K b o r∧RRel K b (o + sz) sz rs
end
structure Cx.Le (K K':Cx):Prop where
 c:K.c≤K'.c
 ι:∀ id,id < K.c→K'.ι id=K.ι id
 fr:∀ b v o,K.free b→K.w.cell? ⟨b,o,none⟩=some v→K'.free b∧K'.w.cell? ⟨b,o,none⟩=some v
 fm:∀ b ms c,K.free b→K.w.heap[b]? = some (.map ms c)→K'.free b∧K'.w.heap[b]? = some (.map ms c)
theorem Cx.Le.frz {K K':Cx} (h:K.Le K'):K.frz.Le K'.frz:=⟨Nat.le_refl 0,fun _ hi=>absurd hi (Nat.not_lt_zero _),h.fr,h.fm⟩
theorem Cx.Le.refl (K:Cx):K.Le K:=⟨Nat.le_refl _,fun _ _=>rfl,fun _ _ _ h k=>⟨h,k⟩,fun _ _ _ h k=>⟨h,k⟩⟩
theorem Cx.Le.trans {A B C:Cx} (h:A.Le B) (k:B.Le C):A.Le C:=
 ⟨Nat.le_trans h.c k.c,fun id hi=>(k.ι id (Nat.lt_of_lt_of_le hi h.c)).trans (h.ι id hi),fun b v o hf hc=>let ⟨f',c'⟩:=h.fr b v o hf hc; k.fr b v o f' c',fun b ms o hf hc=>let ⟨f',c'⟩:=h.fm b ms o hf hc; k.fm b ms o f' c'⟩
mutual
theorem As.mono {K K':Cx} (h:K.Le K'):∀ {a:AV} {x:Value},As K a x→As K' a x
 | .s _,_,hr=>by simpa[As] using hr
 | .agg _,_,hr=>by
  obtain⟨vs,e,hs⟩:=by simpa[As] using hr
  simp only[As]
  exact⟨vs,e,VRels.mono h hs⟩
 | .tup _,_,hr=>by
  obtain⟨vs,e,hs⟩:=by simpa[As] using hr
  simp only[As]
  exact⟨vs,e,VRels.mono h hs⟩
 | .ptr id _ _ _,_,hr=>by
  simp only[As] at hr ⊢
  rw[h.ι id hr.1]
  exact⟨Nat.lt_of_lt_of_le hr.1 h.c,hr.2⟩
 | .fptr _ _,_,hr=>by
  simp only[As] at hr ⊢
  obtain⟨b,o,e,hc⟩:=hr
  exact⟨b,o,e,CRel.mono h.frz hc⟩
 | .osl id _ _ _,_,hr=>by
  simp only[As] at hr ⊢
  rw[h.ι id hr.1]
  exact⟨Nat.lt_of_lt_of_le hr.1 h.c,hr.2⟩
 | .fsl _ _,_,hr=>by
  simp only[As] at hr ⊢
  obtain⟨A,cap,e,hA,hle,hc⟩:=hr
  refine⟨A,cap,e,hA,hle,hc.imp id ?_⟩
  rintro⟨b,o,e2,hc⟩
  exact⟨b,o,e2,RRel.mono h.frz hc⟩
 | .esl,_,hr=>by simpa[As] using hr
 | .fn _ _,_,hr=>by
  simp only[As] at hr ⊢
  obtain⟨vs,e,hs⟩:=hr
  exact⟨vs,e,VRels.mono h hs⟩
 | .yld l,_,hr=>by
  simp only[As] at hr ⊢
  rw[h.ι l hr.1]
  exact⟨Nat.lt_of_lt_of_le hr.1 h.c,hr.2⟩
 | .mp l,_,hr=>by
  simp only[As] at hr ⊢
  rw[h.ι l hr.1]
  exact⟨Nat.lt_of_lt_of_le hr.1 h.c,hr.2⟩
 | .fmp _,_,hr=>by
  simp only[As] at hr ⊢
  obtain⟨b,ms,e,hf,hm,k⟩:=hr
  obtain⟨f',c'⟩:=h.fm b ms _ hf hm
  exact⟨b,ms,e,f',c',k⟩
 | .any,_,_=>by simp[As]
theorem VRels.mono {K K':Cx} (h:K.Le K'):∀ {a:List AV} {x:List Value},VRels K a x→VRels K' a x
 | [],[],_=>by simp[VRels]
 | c :: cs,v :: vs,hr=>by
  simp only[VRels] at hr ⊢
  exact⟨As.mono h hr.1,VRels.mono h hr.2⟩
 | [],_ :: _,hr=>by simp[VRels] at hr
 | _ :: _,[],hr=>by simp[VRels] at hr
theorem CRel.mono {K K':Cx} (h:K.Le K'):∀ {b o:Nat} {a:List AV},CRel K b o a→CRel K' b o a
 | _,_,[],_=>by simp[CRel]
 | b,o,c :: cs,hr=>by
  simp only[CRel] at hr ⊢
  obtain⟨⟨v,hf,hc,h1,hv⟩,hs⟩:=hr
  obtain⟨f',c'⟩:=h.fr b v o hf hc
  exact⟨⟨v,f',c',h1,As.mono h hv⟩,CRel.mono h hs⟩
theorem RRel.mono {K K':Cx} (h:K.Le K'):∀ {b o sz:Nat} {a:List (List AV)},RRel K b o sz a→RRel K' b o sz a
 | _,_,_,[],_=>by simp[RRel]
 | b,o,sz,c :: cs,hr=>by
  simp only[RRel] at hr ⊢
  exact⟨hr.1,CRel.mono h hr.2.1,RRel.mono h hr.2.2⟩
end
theorem VRels.length {K:Cx}:∀ {a:List AV} {x:List Value},VRels K a x→a.length=x.length
 | [],[],_=>rfl
 | _ :: _,_ :: _,hr=>by simp only[VRels] at hr; simp[VRels.length hr.2]
 | [],_ :: _,hr=>by simp[VRels] at hr
 | _ :: _,[],hr=>by simp[VRels] at hr
theorem VRels.get {K:Cx}:∀ {a:List AV} {x:List Value},VRels K a x→∀ {i:Nat} {c:AV},a[i]? = some c→∃ v,x[i]? = some v∧As K c v
 | [],[],_,i,c,hi=>by simp at hi
 | c :: cs,v :: vs,hr,0,d,hi=>by
  simp only[VRels] at hr
  simp at hi
  subst hi
  exact⟨v,rfl,hr.1⟩
 | c :: cs,v :: vs,hr,i + 1,d,hi=>by
  simp only[VRels] at hr
  simp at hi
  obtain⟨u,h1,h2⟩:=VRels.get hr.2 hi
  exact⟨u,by simpa using h1,h2⟩
 | [],_ :: _,hr,_,_,_=>by simp[VRels] at hr
 | _ :: _,[],hr,_,_,_=>by simp[VRels] at hr
theorem VRels.of {K:Cx}:∀ {a:List AV} {x:List Value},a.length=x.length→(∀ (i:Nat) (c:AV) (v:Value),a[i]? = some c→x[i]? = some v→As K c v)→VRels K a x
 | [],[],_,_=>by simp[VRels]
 | c :: cs,v :: vs,hl,h=>by
  simp only[VRels]
  exact⟨h 0 c v rfl rfl,VRels.of (by simpa using hl) fun i d u h1 h2=>h (i + 1) d u (by simpa using h1) (by simpa using h2)⟩
 | [],_ :: _,hl,_=>by simp at hl
 | _ :: _,[],hl,_=>by simp at hl
theorem VRels.set {K:Cx} {a:List AV} {x:List Value} (h:VRels K a x) (i:Nat) {c:AV} {v:Value} (hv:As K c v):VRels K (a.set i c) (x.set i v):=by
 refine VRels.of (by simpa using h.length) fun j d u hj hu=>?_
 by_cases e:i=j
 · subst e
   rw[List.getElem?_set_self'] at hj hu
   cases h1:a[i]? with
   | none=>rw[h1] at hj; cases hj
   | some a0=>
    cases h2:x[i]? with
    | none=>rw[h2] at hu; cases hu
    | some x0=>
     rw[h1] at hj; rw[h2] at hu
     simp at hj hu
     subst hj; subst hu
     exact hv
 · rw[List.getElem?_set_ne e] at hj hu
   obtain⟨u',h1,h2⟩:=h.get hj
   rw[hu] at h1
   cases h1
   exact h2
theorem VRels.append {K:Cx}:∀ {a b:List AV} {x y:List Value},VRels K a x→VRels K b y→VRels K (a ++ b) (x ++ y)
 | [],b,[],y,_,h=>h
 | c :: cs,b,v :: vs,y,h1,h2=>by
  simp only[VRels] at h1
  simp only[List.cons_append,VRels]
  exact⟨h1.1,VRels.append h1.2 h2⟩
 | [],_,_ :: _,_,h,_=>by simp[VRels] at h
 | _ :: _,_,[],_,h,_=>by simp[VRels] at h
theorem VRels.take {K:Cx} {a:List AV} {x:List Value} (h:VRels K a x) (n:Nat):VRels K (a.take n) (x.take n):=by
 refine VRels.of (by simp[h.length]) fun i c v h1 h2=>?_
 by_cases hi:i < n
 · rw[List.getElem?_take_of_lt hi] at h1 h2
   obtain⟨u,e,hv⟩:=h.get h1
   rw[h2] at e
   injection e with e
   rw[e]
   exact hv
 · rw[List.getElem?_take,if_neg hi] at h1
   cases h1
theorem VRels.drop {K:Cx} {a:List AV} {x:List Value} (h:VRels K a x) (n:Nat):VRels K (a.drop n) (x.drop n):=by
 refine VRels.of (by simp[h.length]) fun i c v h1 h2=>?_
 rw[List.getElem?_drop] at h1 h2
 obtain⟨u,e,hv⟩:=h.get h1
 rw[h2] at e
 injection e with e
 rw[e]
 exact hv
theorem VRels.map_s {K:Cx}:∀ (vs:List Value),VRels K (vs.map .s) vs
 | []=>by simp[VRels]
 | v :: vs=>by
  simp only[List.map_cons,VRels,As]
  exact⟨trivial,VRels.map_s vs⟩
theorem S6 (K:Cx) (v:Value):As K (Vr v) v:=by
 unfold Vr
 split
 · rename_i cs
   simp only[As]
   exact⟨cs,rfl,VRels.map_s _⟩
 · rename_i f first caps
   split
   · rename_i h
     simp only[As]
     have h1:first = #[]:=by apply Array.eq_empty_of_size_eq_zero; exact h.1
     have h2:caps = #[]:=by apply Array.eq_empty_of_size_eq_zero; exact h.2
     subst h1; subst h2
     exact⟨#[],rfl,by simp[VRels]⟩
   · simp[As]
 · simp[As]
mutual
theorem Ou {K:Cx}:∀ {a:AV} {v x:Value},Bc a=some v→As K a x→x=v
 | .s _,v,x,h,hr=>by
  simp only[Bc,Option.some.injEq] at h
  simp only[As] at hr
  rw[hr,h]
 | .agg cs,v,x,h,hr=>by
  simp only[Bc] at h
  simp only[As] at hr
  obtain⟨xs,rfl,hs⟩:=hr
  cases e:toVals cs with
  | none=>rw[e] at h; cases h
  | some vs=>
   rw[e] at h
   cases h
   rw[toVals_rel e hs]
 | .tup cs,v,x,h,hr=>by
  simp only[Bc] at h
  simp only[As] at hr
  obtain⟨xs,rfl,hs⟩:=hr
  cases e:toVals cs with
  | none=>rw[e] at h; cases h
  | some vs=>
   rw[e] at h
   cases h
   rw[toVals_rel e hs]
 | .fn f [],v,x,h,hr=>by
  simp only[Bc,Option.some.injEq] at h
  simp only[As] at hr
  obtain⟨cv,rfl,hs⟩:=hr
  have:cv = #[]:=by
   have:=hs.length
   apply Array.eq_empty_of_size_eq_zero
   simpa using this.symm
  subst this
  exact h
 | .fn f (_ :: _),v,x,h,_=>by simp[Bc] at h
 | .ptr ..,v,x,h,_=>by simp[Bc] at h
 | .fptr ..,v,x,h,_=>by simp[Bc] at h
 | .osl ..,v,x,h,_=>by simp[Bc] at h
 | .fsl ..,v,x,h,_=>by simp[Bc] at h
 | .esl,v,x,h,_=>by simp[Bc] at h
 | .yld _,v,x,h,_=>by simp[Bc] at h
 | .mp _,v,x,h,_=>by simp[Bc] at h
 | .fmp _,v,x,h,_=>by simp[Bc] at h
 | .any,v,x,h,_=>by simp[Bc] at h
theorem toVals_rel {K:Cx}:∀ {a:List AV} {vs xs:List Value},toVals a=some vs→VRels K a xs→vs=xs
 | [],vs,[],h,_=>by simp only[toVals,Option.some.injEq] at h; exact h.symm
 | c :: cs,vs,x :: xs,h,hr=>by
  simp only[toVals] at h
  simp only[VRels] at hr
  cases e1:Bc c with
  | none=>rw[e1] at h; cases h
  | some v=>
   cases e2:toVals cs with
   | none=>rw[e1,e2] at h; cases h
   | some us=>
    rw[e1,e2] at h
    cases h
    rw[Ou e1 hr.1,toVals_rel e2 hr.2]
 | [],_,_ :: _,_,hr=>by simp[VRels] at hr
 | _ :: _,_,[],_,hr=>by simp[VRels] at hr
end
theorem MI {α:Type} {P:Program}:∀ {x:Sem α} {a:α},Bs P x=some a→∀ w,x.run P w = .ok a w
 | .pure _,a,h,w=>by simp only[Bs,Option.some.injEq] at h; subst h; rfl
 | .program k,a,h,w=>by simp only[Bs] at h; simp only[Sem.run]; exact MI h w
 | .mark _ k,a,h,w=>by simp only[Bs] at h; simp only[Sem.run]; exact MI h w
 | .load ..,a,h,w=>by simp[Bs] at h
 | .store ..,a,h,w=>by simp[Bs] at h
 | .new ..,a,h,w=>by simp[Bs] at h
 | .shape ..,a,h,w=>by simp[Bs] at h
 | .freeze ..,a,h,w=>by simp[Bs] at h
 | .frozen ..,a,h,w=>by simp[Bs] at h
 | .getObj ..,a,h,w=>by simp[Bs] at h
 | .setObj ..,a,h,w=>by simp[Bs] at h
 | .choose ..,a,h,w=>by simp[Bs] at h
 | .sys ..,a,h,w=>by simp[Bs] at h
 | .halt _,a,h,w=>by simp[Bs] at h
theorem uR {K:Cx} {a:AV} {x:Value} (h:cU a=true) (hr:As K a x):x.oneCell' = true:=by
 cases a <;> simp only[As] at hr <;> simp only[cU] at h
 case s v=>rw[hr]; exact h
 case ptr=>rw[hr.2]; rfl
 case fptr=>obtain⟨_,_,e,_⟩:=hr; rw[e]; rfl
 case osl=>obtain⟨_,_,_,e,_⟩:=hr; rw[e]; rfl
 case fsl=>obtain⟨_,_,e,_⟩:=hr; rw[e]; rfl
 case esl=>obtain⟨_,e,_⟩:=hr; rw[e]; rfl
 case fn=>obtain⟨_,e,_⟩:=hr; rw[e]; rfl
 case yld=>rw[hr.2]; rfl
 case mp=>rw[hr.2]; rfl
 case fmp=>obtain⟨_,_,e,_⟩:=hr; rw[e]; rfl
 all_goals cases h
theorem uQ {K:Cx}:∀ {cs:List AV} {vs:List Value},cs.all cU=true→VRels K cs vs→∀ v∈vs,v.oneCell' = true
 | [],[],_,_,v,hv=>by simp at hv
 | c :: cs,x :: vs,h,hr,v,hv=>by
  simp only[VRels] at hr
  simp only[List.all_cons,Bool.and_eq_true] at h
  rcases List.mem_cons.1 hv with rfl | hv
  · exact uR h.1 hr.1
  · exact uQ h.2 hr.2 v hv
 | [],_ :: _,_,hr,_,_=>by simp[VRels] at hr
 | _ :: _,[],_,hr,_,_=>by simp[VRels] at hr
theorem ABD {x:Value} (h:x.oneCell' = true):x.cells = #[x]:=by cases x <;> first | rfl | cases h
theorem KC {K:Cx} {a:AV} {x:Value} {cs:List AV} (h:cellsOf a=some cs) (hr:As K a x):VRels K cs x.cells.toList∧∀ v∈x.cells.toList,v.oneCell' = true:=by
 unfold cellsOf at h
 split at h
 · split at h
   · cases h
     simp only[As] at hr
     obtain⟨vs,rfl,hs⟩:=hr
     rename_i ho
     exact⟨hs,uQ ho hs⟩
   · cases h
 · split at h
   · cases h
     simp only[As] at hr
     subst hr
     rename_i ho
     exact⟨VRels.map_s _,fun v hv=>List.all_eq_true.1 ho v hv⟩
   · cases h
 · split at h
   · cases h
     rename_i ho
     have h1:=uR ho hr
     rw[ABD h1]
     simp only[VRels]
     exact⟨⟨hr,trivial⟩,fun v hv=>by simp at hv; rw[hv]; exact h1⟩
   · cases h
end Go.Vm
namespace Go.Vm
open Go
def bI (w:World) (l:Nat):Prop:=∃ R:Loop,w.heap[l]? = some (.loop R)
structure Cx.Step (K K':Cx):Prop where
 c:K.c≤K'.c
 ι:∀ id,id < K.c→K'.ι id=K.ι id
 os:K'.w.os=K.w.os
 tape:K'.w.tape=K.w.tape
 output:K'.w.output=K.w.output
 size:K.w.heap.size≤K'.w.heap.size
 keep:∀ b,b < K.w.heap.size→¬ K.L b→K'.w.heap[b]? = K.w.heap[b]?∧¬ K'.L b
 X:K'.X=K.X
 loops:∀ l,bI K.w l→bI K'.w l
theorem O1 {w w':World} {b o:Nat} {v:Value} (h:w.cell? ⟨b,o,none⟩=some v) (hb:w'.heap[b]? = w.heap[b]?):w'.cell? ⟨b,o,none⟩=some v:=by
 simp only[World.cell?] at h ⊢
 rw[hb]; exact h
theorem Cx.Step.le {K K':Cx} (h:K.Step K'):K.Le K':=
 ⟨h.c,h.ι,fun b v o hf hc=>by
  obtain⟨h1,h2,h3⟩:=hf
  obtain⟨k1,k2⟩:=h.keep b h1 h2
  exact⟨⟨Nat.lt_of_lt_of_le h1 h.size,k2,by rw[h.X]; exact h3⟩,O1 hc k1⟩,fun b ms c hf hc=>by
  obtain⟨h1,h2,h3⟩:=hf
  obtain⟨k1,k2⟩:=h.keep b h1 h2
  exact⟨⟨Nat.lt_of_lt_of_le h1 h.size,k2,by rw[h.X]; exact h3⟩,k1.trans hc⟩⟩
theorem Cx.Step.refl (K:Cx):K.Step K:=⟨Nat.le_refl _,fun _ _=>rfl,rfl,rfl,rfl,Nat.le_refl _,fun _ _ h=>⟨rfl,h⟩,rfl,fun _ h=>h⟩
theorem Cx.Step.trans {A B C:Cx} (h:A.Step B) (k:B.Step C):A.Step C:=
 ⟨Nat.le_trans h.c k.c,fun id hi=>(k.ι id (Nat.lt_of_lt_of_le hi h.c)).trans (h.ι id hi),k.os.trans h.os,k.tape.trans h.tape,k.output.trans h.output,Nat.le_trans h.size k.size,
  fun b hb hl=>by
   obtain⟨h1,h2⟩:=h.keep b hb hl
   obtain⟨k1,k2⟩:=k.keep b (Nat.lt_of_lt_of_le hb h.size) h2
   exact⟨k1.trans h1,k2⟩,k.X.trans h.X,fun l hl=>k.loops l (h.loops l hl)⟩
def Lr (K:Cx) (arr:Array Value) (p:Nat) (cs:List AV):Prop:=∀ (j:Nat) (c:AV),cs[j]? = some c→∃ v,arr[p + j]? = some v∧v.oneCell' = true∧As K c v
def VT (K:Cx) (p:Nat × Nat × Nat):C0→Prop
 | .rows sz rows=>∃ (arr:Array Value) (T:TypeId) (fz:Nat × Nat),K.w.heap[p.1]? = some (.cells arr T fz)∧arr.size=(p.2.1 + p.2.2) * sz∧(∀ i,i < arr.size→¬ (fz.1≤i∧i < fz.2)) ∧
  rows.length≤p.2.2∧∀ (i:Nat) (r:List AV),rows[i]? = some r→r.length=sz∧Lr K arr ((p.2.1 + i) * sz) r
 | .loop r=>∃ R:Loop,K.w.heap[p.1]? = some (.loop R)∧R.state=r.state∧R.pending=r.pending∧R.params.toList=r.params∧R.assign=r.assign∧R.body=r.body∧VRels K r.tmps R.tmps.toList∧Eq r.assign=true∧Eq r.body=true
 | .map es=>∃ (ms:Array MapEntry),K.w.heap[p.1]? = some (.map ms es.length)∧ms.size=es.length∧∀ (i:Nat) (e:Value × AV),es[i]? = some e→∃ v,ms[i]? = some ⟨e.1,v,i⟩∧As K e.2 v
theorem Lr.mono {K K':Cx} (h:K.Le K') {arr:Array Value} {p:Nat} {cs:List AV} (hc:Lr K arr p cs):Lr K' arr p cs:=fun j c hj=>by
 obtain⟨v,h1,h2,h3⟩:=hc j c hj
 exact⟨v,h1,h2,h3.mono h⟩
theorem VT.mono {K K':Cx} (h:K.Le K') {p:Nat × Nat × Nat} {o:C0} (hb:K'.w.heap[p.1]? = K.w.heap[p.1]?) (ho:VT K p o):VT K' p o:=by
 cases o with
 | rows sz rows=>
  obtain⟨arr,T,fz,h1,h2,h3,h4,h5⟩:=ho
  exact⟨arr,T,fz,hb.trans h1,h2,h3,h4,fun i r hr=>⟨(h5 i r hr).1,(h5 i r hr).2.mono h⟩⟩
 | loop r=>
  obtain⟨R,h1,h2,h3,h4,h5,h6,h7,h8⟩:=ho
  exact⟨R,hb.trans h1,h2,h3,h4,h5,h6,h7.mono h,h8⟩
 | map es=>
  obtain⟨ms,h1,h2,h3⟩:=ho
  refine⟨ms,hb.trans h1,h2,fun i e hi=>?_⟩
  obtain⟨v,k1,k2⟩:=h3 i e hi
  exact⟨v,k1,k2.mono h⟩
structure BW (K:Cx) (base:Nat) (h:AW):Prop where
 lt:∀ id o,h id=some o→id < K.c
 L:∀ id o,h id=some o→K.L (K.ι id).1
 bs:∀ b,K.L b→base≤b∧b < K.w.heap.size
 XL:∀ b,K.X b→b < base
 le:base≤K.w.heap.size
 inj:∀ i j o p,h i=some o→h j=some p→i≠j→(K.ι i).1≠(K.ι j).1
 obj:∀ id o,h id=some o→VT K (K.ι id) o
 gl:∀ q,q∈glb→q.1 < base∧∃ cs T fz,K.w.heap[q.1]? = some (.cells cs T fz)∧q.2 cs
theorem BW.gl_step {K K':Cx} {base:Nat} {h:AW} (H:BW K base h) (S:K.Step K'):∀ q,q∈glb→q.1 < base∧∃ cs T fz,K'.w.heap[q.1]? = some (.cells cs T fz)∧q.2 cs:=fun q hq=>by
 obtain⟨h1,cs,T,fz,h2,h3⟩:=H.gl q hq
 exact⟨h1,cs,T,fz,(S.keep q.1 (Nat.lt_of_lt_of_le h1 H.le) (fun e=>absurd (H.bs _ e).1 (by omega))).1.trans h2,h3⟩
theorem AW.put_same (h:AW) (i:Nat) (o:Option C0):(h.put i o) i=o:=by simp[AW.put]
theorem AW.put_other (h:AW) {i j:Nat} (e:j≠i) (o:Option C0):(h.put i o) j=h j:=by simp[AW.put,e]
theorem BW.put {K K':Cx} {base:Nat} {h:AW} (H:BW K base h) (S:K.Step K') (id:Nat) (o:Option C0)
 (hother:∀ j p,j≠id→h j=some p→K'.w.heap[(K.ι j).1]? = K.w.heap[(K.ι j).1]?∧K'.L (K.ι j).1)
 (hL:∀ b,K'.L b→base≤b∧b < K'.w.heap.size)
 (hnew:∀ p,o=some p→id < K'.c∧K'.L (K'.ι id).1∧VT K' (K'.ι id) p∧∀ j q,j≠id→h j=some q→(K.ι j).1≠(K'.ι id).1) :
 BW K' base (h.put id o):=by
 have hι:∀ j p,h j=some p→K'.ι j=K.ι j:=fun j p hj=>S.ι j (H.lt j p hj)
 refine⟨?_,?_,hL,fun b hb=>H.XL b (by rw[← S.X]; exact hb),Nat.le_trans H.le S.size,?_,?_,H.gl_step S⟩
 · intro j p hj
   by_cases e:j=id
   · subst e; rw[AW.put_same] at hj; exact (hnew p hj).1
   · rw[AW.put_other h e] at hj; exact Nat.lt_of_lt_of_le (H.lt j p hj) S.c
 · intro j p hj
   by_cases e:j=id
   · subst e; rw[AW.put_same] at hj; exact (hnew p hj).2.1
   · rw[AW.put_other h e] at hj; rw[hι j p hj]; exact (hother j p e hj).2
 · intro i j p q hi hj hij
   by_cases ei:i=id
   · subst ei
     rw[AW.put_same] at hi
     rw[AW.put_other h (Ne.symm hij)] at hj
     rw[hι j q hj]
     exact Ne.symm ((hnew p hi).2.2.2 j q (Ne.symm hij) hj)
   · rw[AW.put_other h ei] at hi
     rw[hι i p hi]
     by_cases ej:j=id
     · subst ej
       rw[AW.put_same] at hj
       exact (hnew q hj).2.2.2 i p ei hi
     · rw[AW.put_other h ej] at hj
       rw[hι j q hj]
       exact H.inj i j p q hi hj hij
 · intro j p hj
   by_cases e:j=id
   · subst e; rw[AW.put_same] at hj; exact (hnew p hj).2.2.1
   · rw[AW.put_other h e] at hj
     rw[hι j p hj]
     exact (H.obj j p hj).mono S.le (hother j p e hj).1
theorem BW.step {K K':Cx} {base:Nat} {h:AW} (H:BW K base h) (S:K.Step K') (hb:∀ b,K.L b→K'.w.heap[b]? = K.w.heap[b]?) (hL:K'.L=K.L):BW K' base h:=by
 have hι:∀ j p,h j=some p→K'.ι j=K.ι j:=fun j p hj=>S.ι j (H.lt j p hj)
 refine⟨fun j p hj=>Nat.lt_of_lt_of_le (H.lt j p hj) S.c,fun j p hj=>by rw[hι j p hj,hL]; exact H.L j p hj,fun b hb'=>?_,fun b hb'=>H.XL b (by rw[← S.X]; exact hb'),Nat.le_trans H.le S.size,fun i j p q hi hj hij=>by rw[hι i p hi,hι j q hj]; exact H.inj i j p q hi hj hij,fun j p hj=>by rw[hι j p hj]; exact (H.obj j p hj).mono S.le (hb _ (H.L j p hj)),H.gl_step S⟩
 rw[hL] at hb'
 exact⟨(H.bs b hb').1,Nat.lt_of_lt_of_le (H.bs b hb').2 S.size⟩
theorem Jw (K:Cx) (w':World) (c':Nat) (hc:K.c≤c') (h:w'.heap=K.w.heap) (ho:w'.os=K.w.os) (ht:w'.tape=K.w.tape) (hu:w'.output=K.w.output):K.Step { K with w:=w',c:=c' }:=
 ⟨hc,fun _ _=>rfl,ho,ht,hu,by simp[h],fun b _ hl=>⟨by simp[h],hl⟩,rfl,fun l hl=>by simpa[bI,h] using hl⟩
theorem Ll {K:Cx} {base:Nat} {h:AW} (H:BW K base h) (w':World) (c':Nat) (hc:K.c≤c') (hw:w'.heap=K.w.heap) (ho:w'.os=K.w.os) (ht:w'.tape=K.w.tape) (hu:w'.output=K.w.output):BW { K with w:=w',c:=c' } base h:=
 H.step (Jw K w' c' hc hw ho ht hu) (fun b _=>by simp[hw]) rfl
theorem Ft (w:World) (o:Obj) {b:Nat} (h:b < w.heap.size):(w.alloc o).heap[b]? = w.heap[b]?:=by
 show (w.heap.push o)[b]? = _
 rw[Array.getElem?_push,if_neg (by omega)]
theorem Lz {w:World} {b:Nat} {o:Obj} (h:w.heap[b]? = some o):b < w.heap.size:=(Array.getElem?_eq_some_iff.1 h).1
def Cx.allocFree (K:Cx) (o:Obj):Cx:={ K with w:=K.w.alloc o }
theorem JD {K:Cx} {base:Nat} {h:AW} (H:BW K base h) (o:Obj):K.Step (K.allocFree o):=
 ⟨Nat.le_refl _,fun _ _=>rfl,rfl,rfl,rfl,by simp[Cx.allocFree],fun b hb hl=>⟨Ft _ _ hb,hl⟩,rfl,fun l ⟨R,hl⟩=>⟨R,(Ft _ _ (Lz hl)).trans hl⟩⟩
theorem LI {K:Cx} {base:Nat} {h:AW} (H:BW K base h) (o:Obj):BW (K.allocFree o) base h:=
 H.step (JD H o) (fun b hb=>Ft _ _ (H.bs b hb).2) rfl
def Cx.allocOwn (K:Cx) (o:Obj) (κ:Nat):Cx:=
 { w:=K.w.alloc o,ι:=fun i=>if i=K.c then (K.w.heap.size,0,κ) else K.ι i,L:=fun b=>K.L b∨b=K.w.heap.size,X:=K.X,c:=K.c + 1 }
theorem CH (K:Cx) (o:Obj) (κ:Nat):K.Step (K.allocOwn o κ):=
 ⟨Nat.le_succ _,fun i hi=>by simp[Cx.allocOwn,Nat.ne_of_lt hi],rfl,rfl,rfl,by simp[Cx.allocOwn],fun b hb hl=>⟨Ft _ _ hb,fun hx=>hx.elim hl (fun e=>by omega)⟩,rfl,
  fun l ⟨R,hl⟩=>⟨R,(Ft _ _ (Lz hl)).trans hl⟩⟩
@[simp] theorem JN (K:Cx) (o:Obj) (κ:Nat):(K.allocOwn o κ).ι K.c=(K.w.heap.size,0,κ):=by simp[Cx.allocOwn]
@[simp] theorem bA (K:Cx) (o:Obj) (κ:Nat):(K.allocOwn o κ).w=K.w.alloc o:=rfl
@[simp] theorem UL (K:Cx) (o:Obj) (κ:Nat):(K.allocOwn o κ).c=K.c + 1:=rfl
theorem DG {K:Cx} {base:Nat} {h:AW} (H:BW K base h) (o:Obj) (κ:Nat) (p:C0) (hp:VT (K.allocOwn o κ) (K.w.heap.size,0,κ) p) :
 BW (K.allocOwn o κ) base (h.put K.c (some p)):=by
 refine H.put (CH K o κ) K.c (some p) (fun j q hj hq=>⟨Ft _ _ (H.bs _ (H.L j q hq)).2,.inl (H.L j q hq)⟩) (fun b hb=>?_) (fun q hq=>?_)
 · rcases hb with hb | rfl
   · have:=H.bs b hb
     simp; omega
   · have:=H.le
     simp; exact this
 · cases hq
   refine⟨by simp,.inr (by simp),by rw[JN]; exact hp,fun j q hj hq=>?_⟩
   rw[JN]
   have:=(H.bs _ (H.L j q hq)).2
   simp; omega
def DT (w:World) (b:Nat) (o:Obj):World:={ w with heap:=w.heap.setIfInBounds b o }
theorem EZ {w:World} {b:Nat} {o p:Obj} (h:w.heap[b]? = some p):(DT w b o).heap[b]? = some o:=by
 have:=Lz h
 simp[DT,this]
theorem Lj {w:World} {b k:Nat} {o:Obj} (h:k≠b):(DT w b o).heap[k]? = w.heap[k]?:=by
 simp[DT,Array.getElem?_setIfInBounds_ne (Ne.symm h)]
@[simp] theorem AE2 {w:World} {b:Nat} {o:Obj}:(DT w b o).heap.size=w.heap.size:=by simp[DT]
def Cx.setB (K:Cx) (b:Nat) (o:Obj):Cx:={ K with w:=DT K.w b o }
theorem Jx {K:Cx} {b:Nat} {o p:Obj} (hL:K.L b) (hb:K.w.heap[b]? = some p) (hl:∀ R,p = .loop R→∃ R',o = .loop R'):K.Step (K.setB b o):=
 ⟨Nat.le_refl _,fun _ _=>rfl,rfl,rfl,rfl,by simp[Cx.setB],fun k _ hk=>⟨Lj (fun e=>hk (e ▸ hL)),hk⟩,rfl,fun l ⟨R,h⟩=>by
  by_cases e:l=b
  · subst e
    rw[hb] at h
    obtain⟨R',e'⟩:=hl R (by injection h)
    exact⟨R',by rw[← e']; exact EZ hb⟩
  · exact⟨R,(Lj e).trans h⟩⟩
theorem Nz {K:Cx} {base:Nat} {h:AW} (H:BW K base h) {id:Nat} {q:C0} (hid:h id=some q) {o p:Obj} (hb:K.w.heap[(K.ι id).1]? = some p) (hl:∀ R,p = .loop R→∃ R',o = .loop R')
 (q':C0) (hq:VT (K.setB (K.ι id).1 o) (K.ι id) q'):BW (K.setB (K.ι id).1 o) base (h.put id (some q')):=by
 refine H.put (Jx (H.L id q hid) hb hl) id (some q') (fun j r hj hr=>⟨Lj (H.inj j id r q hr hid hj),H.L j r hr⟩) (fun b hb'=>?_) (fun r hr=>?_)
 · have:=H.bs b hb'
   simpa[Cx.setB] using this
 · cases hr
   exact⟨H.lt id q hid,H.L id q hid,hq,fun j r hj hr=>H.inj j id r q hr hid hj⟩
theorem BW.drop {K:Cx} {base:Nat} {h:AW} (H:BW K base h) (id:Nat):BW K base (h.put id none):=
 H.put (Cx.Step.refl K) id none (fun j p _ hp=>⟨rfl,H.L j p hp⟩) H.bs (fun _ e=>by cases e)
theorem ACw (K:Cx):K.frz.Le K:=⟨Nat.zero_le _,fun _ h=>absurd h (Nat.not_lt_zero _),fun _ _ _ h k=>⟨h,k⟩,fun _ _ _ h k=>⟨h,k⟩⟩
def Nq (K:Cx) (b o:Nat) (row:List AV):Prop:=∀ (j:Nat) (c:AV),row[j]? = some c→∃ v,K.w.cell? ⟨b,o + j,none⟩=some v∧v.oneCell' = true∧As K c v
theorem CRel.lies {K:Cx}:∀ {row:List AV} {b o:Nat},CRel K.frz b o row→Nq K b o row
 | [],_,_,_=>fun j c hj=>by simp at hj
 | c :: cs,b,o,h=>by
  simp only[CRel] at h
  obtain⟨⟨v,_,hc,h1,hv⟩,hs⟩:=h
  intro j d hj
  cases j with
  | zero=>
   simp at hj
   subst hj
   exact⟨v,hc,h1,hv.mono (ACw K)⟩
  | succ j=>
   simp at hj
   obtain⟨u,h2,h3,h4⟩:=CRel.lies hs j d hj
   exact⟨u,by rw[show o + (j + 1)=o + 1 + j by omega]; exact h2,h3,h4⟩
theorem RRel.row {K:Cx}:∀ {rows:List (List AV)} {b o sz:Nat},RRel K b o sz rows→∀ {i:Nat} {r:List AV},rows[i]? = some r→r.length=sz∧CRel K b (o + i * sz) r
 | [],_,_,_,_,i,r,hi=>by simp at hi
 | q :: qs,b,o,sz,h,i,r,hi=>by
  simp only[RRel] at h
  cases i with
  | zero=>
   simp at hi
   subst hi
   exact⟨h.1,by simpa using h.2.1⟩
  | succ i=>
   simp at hi
   obtain⟨h1,h2⟩:=RRel.row h.2.2 hi
   refine⟨h1,?_⟩
   rw[show o + (i + 1) * sz=o + sz + i * sz by rw[Nat.succ_mul]; omega]
   exact h2
theorem QG {K:Cx} {base:Nat} {h:AW} (H:BW K base h) {id i sz:Nat} {row:List AV} (hr:Kh h id i sz=some row) :
 Nq K (K.ι id).1 (((K.ι id).2.1 + i) * sz) row:=by
 unfold Kh at hr
 split at hr
 · rename_i sz' rows ho
   split at hr
   · rename_i e
     subst e
     obtain⟨arr,T,fz,h1,h2,h3,h4,h5⟩:=H.obj id _ ho
     intro j c hj
     obtain⟨v,hv,ho,hrel⟩:=(h5 i row hr).2 j c hj
     refine⟨v,?_,ho,hrel⟩
     simp only[World.cell?,h1]
     simpa using hv
   · cases hr
 · cases hr
theorem Nq.drop {K:Cx} {b o:Nat} {row:List AV} (h:Nq K b o row) (n:Nat):Nq K b (o + n) (row.drop n):=fun j c hj=>by
 rw[List.getElem?_drop] at hj
 obtain⟨v,h1,h2⟩:=h (n + j) c hj
 exact⟨v,by rw[Nat.add_assoc]; exact h1,h2⟩
theorem Nq.take {K:Cx} {b o:Nat} {row:List AV} (h:Nq K b o row) (n:Nat):Nq K b o (row.take n):=fun j c hj=>by
 by_cases hjn:j < n
 · rw[List.getElem?_take_of_lt hjn] at hj
   exact h j c hj
 · rw[List.getElem?_take,if_neg hjn] at hj
   cases hj
theorem Nq.vals {K:Cx} {b:Nat}:∀ {row:List AV} {o:Nat},Nq K b o row→∃ vs:List Value,VRels K row vs∧(∀ j v,vs[j]? = some v→K.w.cell? ⟨b,o + j,none⟩=some v)∧∀ v∈vs,v.oneCell' = true
 | [],_,_=>⟨[],by simp[VRels],fun j v hj=>by simp at hj,fun v hv=>by simp at hv⟩
 | c :: cs,o,h=>by
  obtain⟨v,h1,h2,h3⟩:=h 0 c rfl
  have ht:Nq K b (o + 1) cs:=fun j d hj=>by
   obtain⟨u,g1,g2⟩:=h (j + 1) d (by simpa using hj)
   exact⟨u,by rw[show o + 1 + j=o + (j + 1) by omega]; exact g1,g2⟩
  obtain⟨vs,k1,k2,k3⟩:=Nq.vals ht
  refine⟨v :: vs,by simp only[VRels]; exact⟨h3,k1⟩,fun j u hj=>?_,fun u hu=>?_⟩
  · cases j with
    | zero=>simp at hj; subst hj; exact h1
    | succ j=>simp at hj; rw[show o + (j + 1)=o + 1 + j by omega]; exact k2 j u hj
  · rcases List.mem_cons.1 hu with rfl | hu
    · exact h2
    · exact k3 u hu
end Go.Vm
namespace Go.Vm
open Go
theorem BD {K:Cx} {t:List AV} {a:Act} (ht:VRels K t a.tmps.toList) {x:Operand} {v:AV} (h:A0 t x=some v):As K v (a.eval x):=by
 cases x with
 | tmp i=>
  simp only[A0] at h
  obtain⟨u,hu,hv⟩:=ht.get h
  simp only[Act.eval]
  have:a.tmps[i]? = some u:=by simpa using hu
  rw[Array.getD_eq_getD_getElem?,this]
  exact hv
 | const c=>
  simp only[A0,Option.some.injEq] at h
  subst h
  exact S6 K c
 | global g=>
  simp only[A0,Option.some.injEq] at h
  subst h
  simp[As,Act.eval]
 | func f=>
  simp only[A0,Option.some.injEq] at h
  subst h
  simp only[As,Act.eval]
  exact⟨#[],rfl,by simp[VRels]⟩
theorem S8 {K:Cx} {t:List AV} {a:Act} (ht:VRels K t a.tmps.toList):∀ {xs:List Operand} {vs:List AV},D5 t xs=some vs→VRels K vs (xs.map a.eval)
 | [],vs,h=>by
  simp only[D5,Option.some.injEq] at h
  subst h
  simp[VRels]
 | x :: xs,vs,h=>by
  simp only[D5] at h
  split at h
  · rename_i v us h1 h2
    cases h
    simp only[List.map_cons,VRels]
    exact⟨BD ht h1,S8 ht h2⟩
  · cases h
theorem SD {K:Cx} {t:List AV} {a:Act} (ht:VRels K t a.tmps.toList) {x:Operand} (h:BP t x=true):A9 t x=a.eval x:=by
 unfold BP at h
 unfold A9
 cases e:A0 t x with
 | none=>rw[e] at h; cases h
 | some v=>
  rw[e] at h
  simp only[Option.bind_some] at h ⊢
  cases e2:Bc v with
  | none=>rw[e2] at h; cases h
  | some u=>
   rw[Option.getD_some]
   exact (Ou e2 (BD ht e)).symm
def DZ (K:Cx) (base:Nat) (h':AW) (c':Nat) (v:AV) (res:Result Next):Prop:=
 ∃ (K':Cx) (x:Value),(res = .ok (.value x) K'.w∨(res = .ok .skip K'.w∧x=undef))∧K.Step K'∧BW K' base h'∧K'.c=c'∧As K' v x
theorem B8 {K:Cx} {base:Nat} {h:AW} (H:BW K base h) {v:AV} {x:Value} {res:Result Next} (hr:res = .ok (.value x) K.w) (hv:As K v x):DZ K base h K.c v res:=
 ⟨K,x,.inl hr,Cx.Step.refl K,H,rfl,hv⟩
theorem Wy {K:Cx} {base:Nat} {h:AW} (H:BW K base h) {v:AV} {x:Value} {res:Result Next} (hr:res = .ok (.value x) K.w) (hv:As K v x):DZ K base h (K.c + 1) v res:=
 have S:=Jw K K.w (K.c + 1) (Nat.le_succ _) rfl rfl rfl rfl
 ⟨{ K with c:=K.c + 1 },x,.inl hr,S,Ll H K.w (K.c + 1) (Nat.le_succ _) rfl rfl rfl rfl,rfl,hv.mono S.le⟩
theorem FX {P:Program} {w w':World} {s:Sem Value} {x:Value} (h:s.run P w = .ok x w'):(do pure (Next.value (← s)):Sem Next).run P w = .ok (.value x) w':=by
 rw[Sem.run_bind,h]; rfl
theorem Ey {P:Program} {w:World} {K:Cx} {v:AV} {x:Value} {n:Int} (h:DQ v=some n) (hr:As K v x):∃ k,x = .int k n:=by
 unfold DQ at h
 split at h
 · rename_i k m
   cases h
   simp only[As] at hr
   exact⟨k,hr⟩
 · cases h
theorem UN {K:Cx} {v:AV} {x:Value} {b:Bool} (h:DD v=some b) (hr:As K v x):x = .bool b:=by
 unfold DD at h
 split at h
 · cases h
   simpa only [As] using hr
 · cases h
section
variable {P:Program} {K:Cx} {base:Nat} {h:AW} {t:List AV} {a:Act}
theorem lI (H:BW K base h) (ht:VRels K t a.tmps.toList) {o:Oper} {x:Operand} (ho:o.op = .move x∨o.op = .assign x) {v:AV} (hx:A0 t x=some v) :
 DZ K base h K.c v ((execOp a.eval o).run P K.w):=
 B8 H (by rcases ho with e | e <;> simp[execOp,e]) (BD ht hx)
theorem l6 (H:BW K base h) (ht:VRels K t a.tmps.toList) {o:Oper} {c x y:Operand} (ho:o.op = .pick c x y) {b:Bool} (hc:(A0 t c).bind DD = some b) {v:AV} (hx:A0 t (if b then x else y)=some v) :
 DZ K base h K.c v ((execOp a.eval o).run P K.w):=by
 obtain⟨u,h1,h2⟩:=Option.bind_eq_some_iff.1 hc
 have hb:=UN h2 (BD ht h1)
 refine B8 H (x:=a.eval (if b then x else y)) ?_ (BD ht hx)
 simp only[execOp,ho,hb,asBool,Sem.run_bind,Sem.run_pure,Result.andThen_ok]
 cases b <;> rfl
theorem m8 {g:Bool} {t:TypeId} (hg:Ue P t=some g) (w:World):(isAgg t).run P w = .ok g w:=by
 unfold Ue at hg
 unfold isAgg
 cases e:P.underlying t with
 | none=>rw[e] at hg; cases hg
 | some d=>
  rw[e] at hg
  rw[Sem.run_bind,run_underlying e]
  cases d <;> (simp only[Option.some.injEq] at hg; subst hg; rfl)
theorem Cb {n:Nat} {t:TypeId} (hn:CQ P t=some n) (w:World):(sizeOf t).run P w = .ok n w:=by
 unfold CQ at hn
 obtain⟨i,hi,rfl⟩:=Option.map_eq_some_iff.1 hn
 simp[sizeOf,typeInfo,hi]
theorem Vl {b o off:Nat} {row:List AV} (hl:Nq K b o row) {ty:TypeId} {v:AV} (hp:Ho P ty row off=some v) :
 ∃ x,(loadVar ty ⟨b,o + off,none⟩).run P K.w = .ok x K.w∧As K v x:=by
 unfold Ho at hp
 simp only[Option.bind_eq_bind,Option.bind_eq_some_iff] at hp
 obtain⟨g,hg,n,hn,hp⟩:=hp
 unfold loadVar
 rw[Sem.run_bind,m8 hg,Result.andThen_ok]
 cases g with
 | true=>
  simp only[if_true] at hp ⊢
  split at hp
  · cases hp
    obtain⟨vs,h1,h2,h3⟩:=((hl.drop off).take n).vals
    have:=run_loadCells_list (P:=P) (w:=K.w) (a:=⟨b,o + off,none⟩) vs (fun j u hj=>by
     rw[Addr.add_lit]
     exact h2 j u hj)
    have hlen:vs.length=n:=by
     rename_i hle
     rw[← h1.length,List.length_take,List.length_drop]; omega
    rw[hlen] at this
    refine⟨.agg vs.toArray,?_,?_⟩
    · rw[Sem.run_bind,Cb hn,Result.andThen_ok,Sem.run_bind,this]
      rfl
    · simp only[As]
      exact⟨_,rfl,by simpa using h1⟩
  · cases hp
 | false=>
  simp only[if_false,Bool.false_eq_true] at hp ⊢
  obtain⟨x,h1,h2,h3⟩:=hl off v hp
  exact⟨x,by rw[run_load,h1],h3⟩
theorem cG (H:BW K base h) {ty:TypeId} {p v:AV} {x:Value} (hl:Kz P h ty p=some v) (hp:As K p x) :
 ∃ y,(Instr.loadAt ty x).run P K.w = .ok y K.w∧As K v y:=by
 unfold Kz at hl
 split at hl
 · split at hl
   · rename_i id i sz off row hrow
     simp only[As] at hp
     obtain⟨hlt,rfl⟩:=hp
     obtain⟨y,h1,h2⟩:=Vl (QG H hrow) hl
     exact⟨y,by simp only[Instr.loadAt,Instr.sureAddr,Sem.run_bind,Sem.run_pure,Result.andThen_ok]; exact h1,h2⟩
   · cases hl
 · rename_i row off
   simp only[As] at hp
   obtain⟨b,o,rfl,hc⟩:=hp
   obtain⟨y,h1,h2⟩:=Vl hc.lies hl
   exact⟨y,by simp only[Instr.loadAt,Instr.sureAddr,Sem.run_bind,Sem.run_pure,Result.andThen_ok]; exact h1,h2⟩
 · cases hl
theorem ABU (H:BW K base h) (ht:VRels K t a.tmps.toList) {o:Oper} {ty:TypeId} {x:Operand} (ho:o.op = .load ty x) {p v:AV} (hx:A0 t x=some p) (hl:Kz P h ty p=some v) :
 DZ K base h K.c v ((execOp a.eval o).run P K.w):=by
 obtain⟨y,h1,h2⟩:=cG H hl (BD ht hx)
 exact B8 H (by simp only[execOp,ho]; exact FX h1) h2
theorem T7 (H:BW K base h) (ht:VRels K t a.tmps.toList) {o:Oper} {x:Operand} (ho:o.op = .nilCheck x) {v:AV} (hx:A0 t x=some v) (hv:(∃ id i sz off,v = .ptr id i sz off)∨∃ r off,v = .fptr r off) :
 DZ K base h K.c v ((execOp a.eval o).run P K.w):=by
 have hr:=BD ht hx
 refine B8 H (x:=a.eval x) ?_ hr
 rcases hv with ⟨id,i,sz,off,rfl⟩ | ⟨r,off,rfl⟩
 · simp only[As] at hr
   simp only[execOp,ho,hr.2,Sem.run_pure]
 · simp only[As] at hr
   obtain⟨b,p,e,_⟩:=hr
   simp only[execOp,ho,e,Sem.run_pure]
theorem Uc (H:BW K base h) {o:Oper} {v:AV} {ρ:Operand→Value} (he:execOp ρ o=execOp a.eval o) (hp:DK P ρ o=some v) :
 DZ K base h K.c v ((execOp a.eval o).run P K.w):=by
 unfold DK at hp
 split at hp
 · rename_i x hx
   cases hp
   rw[← he]
   exact B8 H (MI hx K.w) (S6 K x)
 · cases hp
theorem ACZ {op:BinOp} {x y v:Value} (hv:Ym op x y=some v) (xt:TypeId) (p q:Operand) (w:World) :
 (do eqGuard op xt p q x y; binOp op xt x y:Sem Value).run P w = .ok v w:=by
 unfold Ym at hv
 split at hv
 case h_10 a b=>
  split at hv
  · cases hv
    simp only[Sem.run_bind,eqGuard_add,Sem.run_pure,Result.andThen_ok,binOp]
    exact run_string_add_sum w a b (by assumption)
  · cases hv
 all_goals first
  | (split at hv
     · rename_i e
       subst e
       cases hv
       simp[eqGuard_at_int,binOp,Op.intArith,Op.intCmp]
     · cases hv)
  | (cases hv; simp[eqGuard_at_string,binOp,Op.stringOp]; done)
  | cases hv
theorem ACy (H:BW K base h) (ht:VRels K t a.tmps.toList) {o:Oper} {op:BinOp} {xt yt:TypeId} {x y:Operand} (ho:o.op = .binOp op xt x y yt) (hx:BP t x=true) (hy:BP t y=true) {v:AV}
 (hv:(match Ym op (A9 t x) (A9 t y) with | some v=>some (.s v,([]:Ups)) | none=>(DK P (A9 t) o).map (·,[]))=some (v,[])) :
 DZ K base h K.c v ((execOp a.eval o).run P K.w):=by
 have ex:=SD ht hx
 have ey:=SD ht hy
 split at hv
 · rename_i u hu
   cases hv
   refine B8 H (x:=u) ?_ (by simp[As])
   simp only[execOp,ho]
   rw[← ex,← ey]
   exact FX (ACZ hu xt x y K.w)
 · obtain⟨u,hu,e⟩:=Option.map_eq_some_iff.1 hv
   cases e
   exact Uc H (by simp only[execOp,ho,ex,ey]) hu
theorem AC0 (H:BW K base h) (ht:VRels K t a.tmps.toList) {o:Oper} {op:BinOp} {xt yt:TypeId} {x y:Operand} (ho:o.op = .binOp op xt x y yt) {b:Bool} (hn:zH P op xt y (A0 t x)=some b) :
 DZ K base h K.c (.s (.bool b)) ((execOp a.eval o).run P K.w):=by
 have hsome:∀ v,A0 t x=some v→(∃ id off len sz,v = .osl id off len sz)∨(∃ sz rows,v = .fsl sz rows)∨v = .esl→∃ q n c,a.eval x = .slice (some q) n c:=fun v hv hc=>by
  have hr:=BD ht hv
  rcases hc with ⟨id,off,len,sz,rfl⟩ | ⟨sz,rows,rfl⟩ | rfl
  · simp only[As] at hr
    obtain⟨_,q,c,e,_⟩:=hr
    exact⟨q,_,c,e⟩
  · simp only[As] at hr
    obtain⟨A,c,e,hA,_⟩:=hr
    cases A with
    | none=>exact absurd rfl hA
    | some q=>exact⟨q,_,c,e⟩
  · simp only[As] at hr
    obtain⟨A,e,hA⟩:=hr
    cases A with
    | none=>exact absurd rfl hA
    | some q=>exact⟨q,_,_,e⟩
 have fin:∀ v,A0 t x=some v→(∃ id off len sz,v = .osl id off len sz)∨(∃ sz rows,v = .fsl sz rows)∨v = .esl→DZ K base h K.c (.s (.bool b)) ((execOp a.eval o).run P K.w):=fun v hv hc=>by
  obtain⟨q,n,c,e⟩:=hsome v hv hc
  have hb:gZ P op xt y=some b:=by
   unfold zH at hn
   rw[hv] at hn
   rcases hc with ⟨id,off,len,sz,rfl⟩ | ⟨sz,rows,rfl⟩ | rfl <;> exact hn
  unfold gZ at hb
  refine B8 H (x:=.bool b) ?_ (by simp[As])
  simp only[execOp,ho,e]
  split at hb
  · rename_i el hu
    cases hb
    exact FX (by simp[Act.eval,eqGuard,Lib.run_eql_slice_nil _ _ _ _ _ _ _ _ hu])
  · rename_i el hu
    cases hb
    exact FX (by simp[Act.eval,eqGuard,Go.binOp,Op.equal,Op.maxDepth,Lib.run_equalIn_slice_nil _ 9999 _ _ _ _ _ _ _ hu])
  · cases hb
 unfold zH at hn
 split at hn
 · rename_i hv; exact fin _ hv (.inl ⟨_,_,_,_,rfl⟩)
 · rename_i hv; exact fin _ hv (.inr (.inl ⟨_,_,rfl⟩))
 · rename_i hv; exact fin _ hv (.inr (.inr rfl))
 · cases hn
theorem AEH (H:BW K base h) (ht:VRels K t a.tmps.toList) {o:Oper} {op:UnOp} {xt:TypeId} {x:Operand} (ho:o.op = .unOp op xt x) (hx:BP t x=true) {v:AV} (hv:DK P (A9 t) o=some v) :
 DZ K base h K.c v ((execOp a.eval o).run P K.w):=
 Uc H (by simp only[execOp,ho,SD ht hx]) hv
theorem RW (H:BW K base h) (ht:VRels K t a.tmps.toList) {o:Oper} {src dst:TypeId} {x:Operand} (ho:o.op = .convert src dst x) (hx:BP t x=true) {v:AV} (hv:DK P (A9 t) o=some v) :
 DZ K base h (K.c + 1) v ((execOp a.eval o).run P K.w):=by
 have he:execOp (A9 t) o=execOp a.eval o:=by simp only[execOp,ho,SD ht hx]
 unfold DK at hv
 split at hv
 · rename_i y hy
   cases hv
   rw[← he]
   exact Wy H (MI hy K.w) (S6 K y)
 · cases hv
theorem mL (ht:VRels K t a.tmps.toList):∀ (xs:List Operand),xs.all (BP t)=true→xs.map (A9 t)=xs.map a.eval
 | [],_=>rfl
 | x :: xs,h=>by
  simp only[List.all_cons,Bool.and_eq_true] at h
  simp only[List.map_cons,SD ht h.1,mL ht xs h.2]
theorem Ly (H:BW K base h) (ht:VRels K t a.tmps.toList) {o:Oper} {b:Builtin} {args:Array Operand} {ats:Array TypeId} (ho:o.op = .call { callee:=.builtin b,args:=args,argTypes:=ats })
 (hx:args.all (BP t)=true) {v:AV} (hv:DK P (A9 t) o=some v) :
 DZ K base h K.c v ((execOp a.eval o).run P K.w):=by
 have he:args.map (A9 t)=args.map a.eval:=by
  apply Array.ext'
  rw[Array.toList_map,Array.toList_map]
  exact mL ht args.toList (by rw[← hx]; simp)
 exact Uc H (by simp only[execOp,ho,resolve,he]) hv
end
end Go.Vm
namespace Go.Vm
open Go
section
variable {P:Program} {K:Cx} {base:Nat} {h:AW} {t:List AV} {a:Act}
theorem Nu {ty e:TypeId} (h:LF P ty=some e):P.underlying ty=some (.slice e):=by
 unfold LF at h
 split at h
 · cases h; assumption
 · cases h
theorem GT (b o n:Nat):(⟨b,o,none⟩:Addr).add n=⟨b,o + n,none⟩:=Addr.add_lit b o n
theorem Yp {xt:TypeId} {x:AV} {f:Nat} {v:AV} (hv:GV P xt x f=some v) {y:Value} (hx:As K x y) :
 ∃ z,(Instr.fieldAt xt y f).run P K.w = .ok z K.w∧As K v z:=by
 unfold GV at hv
 split at hv
 · rename_i fields hu
   split at hv
   · rename_i fd hf
     split at hv
     · rename_i n hn
       have hplace:∀ b o,(fieldPlace ⟨b,o,none⟩ fd).run P K.w = .ok ⟨b,o + fd.offset,none⟩ K.w:=fun b o=>by
        simp only[fieldPlace,Sem.run_bind,Cb hn,Result.andThen_ok,Nat.add_one_ne_zero,if_false,Sem.run_pure,GT]
       split at hv
       · cases hv
         simp only[As] at hx ⊢
         obtain⟨hlt,rfl⟩:=hx
         refine⟨_,?_,hlt,rfl⟩
         simp only[Instr.fieldAt,Sem.run_bind,run_underlying hu,Result.andThen_ok,hf,Instr.sureAddr,Sem.run_pure,hplace]
         rw[Nat.add_assoc]
       · cases hv
         simp only[As] at hx ⊢
         obtain⟨b,o,rfl,hc⟩:=hx
         refine⟨_,?_,b,o,rfl,hc⟩
         simp only[Instr.fieldAt,Sem.run_bind,run_underlying hu,Result.andThen_ok,hf,Instr.sureAddr,Sem.run_pure,hplace]
         rw[Nat.add_assoc]
       · cases hv
     · cases hv
   · cases hv
 · cases hv
theorem bU (H:BW K base h) (ht:VRels K t a.tmps.toList) {o:Oper} {xt:TypeId} {x:Operand} {f:Nat} (ho:o.op = .fieldAddr xt x f) {u v:AV} (hx:A0 t x=some u) (hv:GV P xt u f=some v) :
 DZ K base h K.c v ((execOp a.eval o).run P K.w):=by
 obtain⟨z,h1,h2⟩:=Yp hv (BD ht hx)
 exact B8 H (by simp only[execOp,ho]; exact FX h1) h2
theorem dC {ty:TypeId} {cs:List AV} {off:Nat} {v:AV} (hp:Ho P ty cs off=some v) {vs:Array Value} (hc:VRels K cs vs.toList) :
 ∃ z,(part ty vs off).run P K.w = .ok z K.w∧As K v z:=by
 unfold Ho at hp
 simp only[Option.bind_eq_bind,Option.bind_eq_some_iff] at hp
 obtain⟨g,hg,n,hn,hp⟩:=hp
 unfold part
 rw[Sem.run_bind,m8 hg,Result.andThen_ok]
 cases g with
 | true=>
  simp only[if_true] at hp ⊢
  split at hp
  · cases hp
    refine⟨.agg (vs.extract off (off + n)),?_,?_⟩
    · rw[Sem.run_bind,Cb hn]; rfl
    · simp only[As]
      refine⟨_,rfl,?_⟩
      rw[Array.toList_extract,List.extract_eq_take_drop]
      rw[show off + n - off=n by omega]
      exact (hc.drop off).take n
  · cases hp
 | false=>
  simp only[if_false,Bool.false_eq_true] at hp ⊢
  obtain⟨u,h1,h2⟩:=hc.get hp
  have:vs[off]? = some u:=by simpa using h1
  exact⟨u,by rw[this]; rfl,h2⟩
theorem yI (H:BW K base h) (ht:VRels K t a.tmps.toList) {o:Oper} {xt:TypeId} {x:Operand} {f:Nat} (ho:o.op = .field xt x f) {cs:List AV} (hx:A0 t x=some (.agg cs)) {fields:Array Field} (hu:P.underlying xt=some (.struct fields))
 {fd:Field} (hf:fields[f]? = some fd) {v:AV} (hv:Ho P fd.type cs fd.offset=some v) :
 DZ K base h K.c v ((execOp a.eval o).run P K.w):=by
 have hr:=BD ht hx
 simp only[As] at hr
 obtain⟨vs,e,hs⟩:=hr
 obtain⟨z,h1,h2⟩:=dC hv hs
 refine B8 H (x:=z) ?_ h2
 simp only[execOp,ho]
 apply FX
 simp only[Instr.field,Sem.run_bind,run_underlying hu,Result.andThen_ok,hf,e,asAgg,Sem.run_pure,h1]
theorem oF (H:BW K base h) (ht:VRels K t a.tmps.toList) {o:Oper} {x:Operand} {i:Nat} (ho:o.op = .extract x i) {cs:List AV} (hx:A0 t x=some (.tup cs)) {v:AV} (hv:cs[i]? = some v) :
 DZ K base h K.c v ((execOp a.eval o).run P K.w):=by
 have hr:=BD ht hx
 simp only[As] at hr
 obtain⟨vs,e,hs⟩:=hr
 obtain⟨u,h1,h2⟩:=hs.get hv
 have h3:vs[i]? = some u:=by simpa using h1
 refine B8 H (x:=u) ?_ h2
 simp only[execOp,ho]
 apply FX
 simp only[Instr.extract,e,h3,Sem.run_pure]
theorem bV (H:BW K base h) (ht:VRels K t a.tmps.toList) {o:Oper} {xt:TypeId} {x y:Operand} (ho:o.op = .indexAddr xt x y) {u v:AV} {i:Int} (hx:A0 t x=some u) (hy:(A0 t y).bind DQ = some i)
 (hv:DO P xt u i=some v):DZ K base h K.c v ((execOp a.eval o).run P K.w):=by
 obtain⟨q,q1,q2⟩:=Option.bind_eq_some_iff.1 hy
 obtain⟨k,hk⟩:=Ey (P:=P) (w:=K.w) q2 (BD ht q1)
 have hr:=BD ht hx
 have key:∃ z,(Instr.indexAt xt (a.eval x) (a.eval y)).run P K.w = .ok z K.w∧As K v z:=by
  rw[hk]
  unfold DO at hv
  split at hv
  · rename_i e id off len sz hu
    split at hv
    · rename_i hc
      cases hv
      simp only[As] at hr ⊢
      obtain⟨hlt,A,cap,e1,h2,h3,h4⟩:=hr
      rw[e1]
      have h5:A=⟨(K.ι id).1,((K.ι id).2.1 + off) * sz,none⟩:=by
       rcases h4 with h4 | h4
       · omega
       · exact h4
      refine⟨.pointer (some ⟨(K.ι id).1,((K.ι id).2.1 + (off + i.toNat)) * sz + 0,none⟩),?_,hlt,rfl⟩
      have h1:(0≤i∧i < (len:Int)):=⟨hc.1,hc.2.1⟩
      simp only[Instr.indexAt,asIntOf,Sem.run_bind,Sem.run_pure,Result.andThen_ok,run_underlying hu,Bool.and_false,h1,and_self,if_true,Cb hc.2.2,h5,GT]
      rw[Nat.add_zero,← Nat.add_mul,Nat.add_assoc]
    · cases hv
  · rename_i e sz rows hu
    split at hv
    · rename_i hc
      obtain⟨r,hr',rfl⟩:=Option.map_eq_some_iff.1 hv
      simp only[As] at hr ⊢
      obtain⟨A,cap,e1,_,_,h2⟩:=hr
      rw[e1]
      have hlen:i.toNat < rows.length:=(List.getElem?_eq_some_iff.1 hr').1
      rcases h2 with rfl | ⟨b,p,rfl,h2⟩
      · simp at hlen
      · obtain⟨h3,h4⟩:=h2.row hr'
        refine⟨.pointer (some ⟨b,p + i.toNat * sz + 0,none⟩),?_,b,p + i.toNat * sz,rfl,h4⟩
        have h1:(0≤i∧i < (rows.length:Int)):=⟨hc.1,by omega⟩
        simp only[Instr.indexAt,asIntOf,Sem.run_bind,Sem.run_pure,Result.andThen_ok,run_underlying hu,Bool.and_false,h1,and_self,if_true,Cb hc.2,GT]
        rfl
    · cases hv
  · rename_i n e id j sz off hu
    split at hv
    · rename_i z hz
      split at hv
      · rename_i hc
        cases hv
        simp only[As] at hr ⊢
        obtain⟨hlt,e1⟩:=hr
        rw[e1]
        refine⟨.pointer (some ⟨(K.ι id).1,((K.ι id).2.1 + j) * sz + (off + i.toNat * z),none⟩),?_,hlt,rfl⟩
        simp only[Instr.indexAt,asIntOf,Instr.sureAddr,Sem.run_bind,Sem.run_pure,Result.andThen_ok,run_underlying hu,hc,and_self,if_true,Cb hz,GT]
        rw[Nat.add_assoc]
      · cases hv
    · cases hv
  · rename_i n e r off hu
    split at hv
    · rename_i z hz
      split at hv
      · rename_i hc
        cases hv
        simp only[As] at hr ⊢
        obtain⟨b,p,e1,h2⟩:=hr
        rw[e1]
        refine⟨.pointer (some ⟨b,p + (off + i.toNat * z),none⟩),?_,b,p,rfl,h2⟩
        simp only[Instr.indexAt,asIntOf,Instr.sureAddr,Sem.run_bind,Sem.run_pure,Result.andThen_ok,run_underlying hu,hc,and_self,if_true,Cb hz,GT]
        rw[Nat.add_assoc]
      · cases hv
    · cases hv
  · cases hv
 obtain⟨z,h1,h2⟩:=key
 exact B8 H (by simp only[execOp,ho]; exact FX h1) h2
theorem bX (H:BW K base h) (ht:VRels K t a.tmps.toList) {o:Oper} {xt:TypeId} {x y:Operand} (ho:o.op = .index xt x y) {b:ByteArray} {j:Int} (hx:A0 t x=some (.s (.string b))) (hy:(A0 t y).bind DQ = some j)
 (hu:P.underlying xt=some .string) (hj:0≤j∧j.toNat < b.size):DZ K base h K.c (.s (.int .u8 (b[j.toNat]'hj.2).toNat)) ((execOp a.eval o).run P K.w):=by
 obtain⟨q,q1,q2⟩:=Option.bind_eq_some_iff.1 hy
 obtain⟨k,hk⟩:=Ey (P:=P) (w:=K.w) q2 (BD ht q1)
 have hr:=BD ht hx
 simp only[As] at hr
 refine B8 H (x:=.int .u8 (b[j.toNat]'hj.2).toNat) ?_ (by simp[As])
 simp only[execOp,ho]
 apply FX
 have hb:b[j.toNat]? = some (b[j.toNat]'hj.2):=by simp[hj.2]
 simp only[Instr.index,hk,hr,asIntOf,Sem.run_bind,Sem.run_pure,Result.andThen_ok,run_underlying hu,hj.1,if_true,hb]
theorem bW (H:BW K base h) (ht:VRels K t a.tmps.toList) {o:Oper} {xt:TypeId} {x y:Operand} (ho:o.op = .index xt x y) {cs:List AV} {j:Int} (hx:A0 t x=some (.agg cs)) (hy:(A0 t y).bind DQ = some j)
 {len:Nat} {e:TypeId} (hu:P.underlying xt=some (.array len e)) {z:Nat} (hz:CQ P e=some z) (hj:0≤j∧j < len) {v:AV} (hv:Ho P e cs (j.toNat * z)=some v):DZ K base h K.c v ((execOp a.eval o).run P K.w):=by
 obtain⟨q,q1,q2⟩:=Option.bind_eq_some_iff.1 hy
 obtain⟨k,hk⟩:=Ey (P:=P) (w:=K.w) q2 (BD ht q1)
 have hr:=BD ht hx
 simp only[As] at hr
 obtain⟨vs,e1,hs⟩:=hr
 obtain⟨y',h1,h2⟩:=dC hv hs
 refine B8 H (x:=y') ?_ h2
 simp only[execOp,ho]
 apply FX
 simp only[Instr.index,hk,e1,asIntOf,Sem.run_bind,Sem.run_pure,Result.andThen_ok,run_underlying hu,hj,and_self,if_true,Cb hz,h1]
theorem gT (H:BW K base h) (ht:VRels K t a.tmps.toList) {o:Oper} {f:FuncId} {first caps:Array Operand} (ho:o.op = .makeFunc (.func f) first caps) (h0:first.size=0) {vs:List AV} (hv:D5 t caps.toList=some vs) :
 DZ K base h K.c (.fn f vs) ((execOp a.eval o).run P K.w):=by
 have hr:=S8 ht hv
 have hf:first = #[]:=Array.eq_empty_of_size_eq_zero h0
 refine B8 H (x:=.func (.func f) #[] (caps.map a.eval)) ?_ ?_
 · simp only[execOp,ho,hf]
   exact FX (by simp[Instr.makeFunc])
 · simp only[As]
   exact⟨_,rfl,by simpa using hr⟩
theorem Nw (H:BW K base h) (ht:VRels K t a.tmps.toList) {o:Oper} {x:Operand} {args:Array Operand} {ats:Array TypeId} (ho:o.op = .call { callee:=.builtin .len,args:=args,argTypes:=ats }) (ha:args.toList=[x])
 {u:AV} (hx:A0 t x=some u) {ty:TypeId} {d:TypeDesc} (h0:ats[0]? = some ty) (hu:P.underlying ty=some d) {k:Nat}
 (hk:((∃ e,d = .slice e)∧(∃ id off len sz,u = .osl id off len sz∧k=len))∨((∃ e,d = .slice e)∧(∃ sz rows,u = .fsl sz rows∧k=rows.length))∨((∃ e,d = .slice e)∧u = .esl∧k=0) ∨
  ((∃ e,d = .slice e)∧u = .s (.slice none 0 0)∧k=0)∨(d = .string∧∃ b,u = .s (.string b)∧k=b.size)∨(∃ e,d = .array k e)) :
 DZ K base h K.c (.s (.int .i64 k)) ((execOp a.eval o).run P K.w):=by
 have hr:=BD ht hx
 have ha':args = #[x]:=by apply Array.ext'; rw[ha]
 refine B8 H (x:=.int .i64 k) ?_ (by simp[As])
 subst ha'
 have hrun:(Builtin.len_ ats o.type #[a.eval x]).run P K.w = .ok (.int .i64 k) K.w:=by
  simp only[Builtin.len_,h0,Sem.run_bind,run_underlying hu,Result.andThen_ok]
  rcases hk with ⟨⟨e,rfl⟩,id,off,len,sz,rfl,rfl⟩ | ⟨⟨e,rfl⟩,sz,rows,rfl,rfl⟩ | ⟨⟨e,rfl⟩,rfl,rfl⟩ | ⟨⟨e,rfl⟩,rfl,rfl⟩ | ⟨rfl,b,rfl,rfl⟩ | ⟨e,rfl⟩
  · simp only[As] at hr
    obtain⟨_,A,cap,e1,_⟩:=hr
    simp[e1,goInt,run_underlying hu]
  · simp only[As] at hr
    obtain⟨A,cap,e1,_⟩:=hr
    simp[e1,goInt,run_underlying hu]
  · simp only[As] at hr
    obtain⟨A,e1,_⟩:=hr
    simp[e1,goInt,run_underlying hu]
  · simp only[As] at hr
    simp[hr,goInt,run_underlying hu]
  · simp only[As] at hr
    simp[hr,goInt,run_underlying hu]
  · simp[goInt,run_underlying hu]
 simp only[execOp,ho,resolve,List.map_toArray,List.map_cons,List.map_nil,Sem.run_bind,Sem.run_pure,Result.andThen_ok,invoke,builtin,hrun]
def nP (K:Cx):Option AV→Option Value→Prop
 | none,none=>True
 | some u,some y=>As K u y
 | _,_=>False
theorem N4 (ht:VRels K t a.tmps.toList) {x:Option Operand} {v:Option AV} (h:Eu t x=some v):nP K v (x.map a.eval):=by
 cases x with
 | none=>simp only[Eu,Option.some.injEq] at h; subst h; trivial
 | some x=>
  simp only[Eu] at h
  split at h
  · rename_i u hu
    cases h
    exact BD ht hu
  · cases h
theorem Dk {k:IntKind} {i:Int} {y:Nat} (code:BoundsCode) (h0:0≤i) (h1:i≤y) (w:World):(Instr.sliceBound (.int k i) y code).run P w = .ok i.toNat w:=by
 simp[Instr.sliceBound,asIntOf,h0,h1]
theorem Kj {isS:Bool} {len cap:Nat} {lo hi:Option Value} {l u:Int} (hl:lo=none∧l=0∨∃ k,lo=some (.int k l)) (hu:hi=none∧u=len∨∃ k,hi=some (.int k u)) (h0:0≤l) (h1:l≤u) (h2:u≤len) (h3:len≤cap) (w:World) :
 (Instr.sliceBounds isS len cap lo hi none).run P w = .ok (l.toNat,u.toNat,cap) w:=by
 rcases hl with ⟨rfl,rfl⟩ | ⟨k,rfl⟩ <;> rcases hu with ⟨rfl,rfl⟩ | ⟨k',rfl⟩
 · simp[Instr.sliceBounds]
 · simp only[Instr.sliceBounds,Sem.run_bind,Sem.run_pure,Result.andThen_ok,Dk _ h1 (show u≤(cap:Int) by omega)]
   rfl
 · simp only[Instr.sliceBounds,Sem.run_bind,Sem.run_pure,Result.andThen_ok,Dk _ h0 h1]
   rfl
 · simp only[Instr.sliceBounds,Sem.run_bind,Sem.run_pure,Result.andThen_ok,Dk _ (show 0≤u by omega) (show u≤(cap:Int) by omega),Dk _ h0 (show l≤(u.toNat:Nat) by omega)]
theorem Sh {isS:Bool} {len cap:Nat} {lo hi mx:Option Value} {m:Int} (hl:lo=none∧m=0∨∃ k,lo=some (.int k m)) (hu:∃ k,hi=some (.int k m)) (hm:∃ k,mx=some (.int k m)) (h0:0≤m) (h2:m≤cap) (w:World) :
 (Instr.sliceBounds isS len cap lo hi mx).run P w = .ok (m.toNat,m.toNat,m.toNat) w:=by
 obtain⟨k1,rfl⟩:=hu
 obtain⟨k2,rfl⟩:=hm
 rcases hl with ⟨rfl,rfl⟩ | ⟨k,rfl⟩
 · simp only[Instr.sliceBounds,Sem.run_bind,Sem.run_pure,Result.andThen_ok,Dk _ (Int.le_refl 0) h2,Dk _ (Int.le_refl 0) (show (0:Int)≤((0:Int).toNat:Nat) by omega)]
   rfl
 · simp only[Instr.sliceBounds,Sem.run_bind,Sem.run_pure,Result.andThen_ok,Dk _ h0 h2,Dk _ h0 (show m≤(m.toNat:Nat) by omega)]
end
end Go.Vm
namespace Go.Vm
open Go
section
variable {P:Program} {K:Cx} {base:Nat} {h:AW} {t:List AV} {a:Act}
theorem RRel.drop {K:Cx} {b sz:Nat}:∀ (n:Nat) {rows:List (List AV)} {o:Nat},RRel K b o sz rows→RRel K b (o + n * sz) sz (rows.drop n)
 | 0,rows,o,h=>by simpa using h
 | n + 1,[],o,h=>by simp[RRel]
 | n + 1,r :: rs,o,h=>by
  simp only[RRel] at h
  have:=RRel.drop n h.2.2
  rw[List.drop_succ_cons,show o + (n + 1) * sz=o + sz + n * sz by rw[Nat.succ_mul]; omega]
  exact this
theorem RRel.take {K:Cx} {b sz:Nat}:∀ (n:Nat) {rows:List (List AV)} {o:Nat},RRel K b o sz rows→RRel K b o sz (rows.take n)
 | 0,rows,o,h=>by simp[RRel]
 | n + 1,[],o,h=>by simp[RRel]
 | n + 1,r :: rs,o,h=>by
  simp only[RRel] at h
  rw[List.take_succ_cons]
  simp only[RRel]
  exact⟨h.1,h.2.1,RRel.take n h.2.2⟩
theorem Jq {xt e:TypeId} (hu:P.underlying xt=some (.slice e)) {z:Nat} (hz:CQ P e=some z) {A:Option Addr} {len cap:Nat} {lo hi mx:Option Value} {l u m:Nat} {w:World}
 (hb:(Instr.sliceBounds true len cap lo hi mx).run P w = .ok (l,u,m) w) :
 (Instr.sliceAt xt (.slice A len cap) lo hi mx).run P w = .ok (.slice (if m=l then A else A.map (·.add (l * z))) (u - l) (m - l)) w:=by
 simp only[Instr.sliceAt,Instr.slice,Sem.run_bind,run_underlying hu,Result.andThen_ok,hb,Cb hz,Sem.run_pure]
theorem xV {xt e:TypeId} (hu:P.underlying xt=some (.slice e)) {z:Nat} (hz:CQ P e=some z) {v r:AV} {l u m:Option AV} (hv:Ea v l u m=some r)
 (hsz:(∃ id off len,v = .osl id off len z)∨(∃ rows,v = .fsl z rows)∨v = .esl∨v = .s (.slice none 0 0)) {y:Value} (hy:As K v y) {lo hi mx:Option Value}
 (hl:nP K l lo) (hh:nP K u hi)
 (hm:nP K m mx) :
 ∃ x,(Instr.sliceAt xt y lo hi mx).run P K.w = .ok x K.w∧As K r x:=by
 unfold Ea at hv
 split at hv
 case h_2=>cases hv
 rename_i li n hli hn
 split at hv
 case h_2=>cases hv
 rename_i ui hui
 have cl:lo=none∧li=0∨∃ k,lo=some (.int k li):=by
  cases l with
  | none=>cases lo with
   | none=>simp[TH] at hli; exact .inl ⟨rfl,hli.symm⟩
   | some _=>exact hl.elim
  | some v=>cases lo with
   | none=>exact hl.elim
   | some y=>obtain⟨k,rfl⟩:=Ey (P:=P) (w:=K.w) hli hl; exact .inr ⟨k,rfl⟩
 have cu:hi=none∧ui=n∨∃ k,hi=some (.int k ui):=by
  cases u with
  | none=>cases hi with
   | none=>simp[TG] at hui; exact .inl ⟨rfl,hui.symm⟩
   | some _=>exact hh.elim
  | some v=>cases hi with
   | none=>exact hh.elim
   | some y=>obtain⟨k,rfl⟩:=Ey (P:=P) (w:=K.w) hui hh; exact .inr ⟨k,rfl⟩
 split at hv
 · cases mx with
   | some _=>exact hm.elim
   | none=>
    split at hv
    case isFalse=>cases hv
    rename_i hc
    rcases hsz with ⟨id,off,len,rfl⟩ | ⟨rows,rfl⟩ | rfl | rfl
    · simp only[ED,Option.some.injEq] at hv
      subst hv
      simp only[lenOf,Option.some.injEq] at hn
      subst hn
      simp only[As] at hy
      obtain⟨hlt,A,cap,rfl,h2,h3,h4⟩:=hy
      refine⟨_,Jq hu hz (Kj (isS:=true) (cap:=cap) cl cu hc.1 hc.2.1 hc.2.2 h3 K.w),?_⟩
      simp only[As]
      have hle:li.toNat≤cap:=by omega
      by_cases he:cap=li.toNat
      · rw[if_pos he]
        exact⟨hlt,A,cap - li.toNat,rfl,by omega,by omega,.inl (by omega)⟩
      · rw[if_neg he]
        refine⟨hlt,A.add (li.toNat * z),cap - li.toNat,rfl,by omega,by omega,.inr ?_⟩
        rcases h4 with h4 | h4
        · omega
        · rw[h4,GT,← Nat.add_mul,Nat.add_assoc]
    · simp only[ED,Option.some.injEq] at hv
      subst hv
      simp only[lenOf,Option.some.injEq] at hn
      subst hn
      simp only[As] at hy
      obtain⟨A,cap,rfl,hA,hcap,h2⟩:=hy
      refine⟨_,Jq hu hz (Kj (isS:=true) (cap:=cap) cl cu hc.1 hc.2.1 hc.2.2 hcap K.w),?_⟩
      simp only[As]
      have hlen:((rows.drop li.toNat).take (ui.toNat - li.toNat)).length=ui.toNat - li.toNat:=by
       rw[List.length_take,List.length_drop]; omega
      refine⟨_,cap - li.toNat,by rw[hlen],?_,by rw[hlen]; omega,?_⟩
      · split
        · exact hA
        · cases A with
          | none=>exact absurd rfl hA
          | some a=>simp
      by_cases he:ui.toNat - li.toNat=0
      · left; rw[he]; rfl
      · right
        rcases h2 with rfl | ⟨b,p,rfl,h2⟩
        · simp at hc; omega
        · refine⟨b,p + li.toNat * z,?_,(h2.drop li.toNat).take _⟩
          rw[if_neg (by omega)]
          simp only[Option.map_some,GT]
    · simp only[ED,Option.some.injEq] at hv
      subst hv
      simp only[lenOf,Option.some.injEq] at hn
      subst hn
      simp only[As] at hy
      obtain⟨A,rfl,hA⟩:=hy
      have e1:li=0:=by omega
      have e2:ui=0:=by omega
      subst e1; subst e2
      refine⟨_,Jq hu hz (Kj (isS:=true) (cap:=0) cl cu (by omega) (by omega) (by omega) (Nat.le_refl _) K.w),?_⟩
      cases A with
      | none=>exact absurd rfl hA
      | some a=>simp[As]
    · simp only[ED,Option.some.injEq] at hv
      subst hv
      simp only[lenOf,Option.some.injEq] at hn
      subst hn
      simp only[As] at hy
      subst hy
      have e1:li=0:=by omega
      have e2:ui=0:=by omega
      subst e1; subst e2
      exact⟨_,Jq hu hz (Kj (isS:=true) (cap:=0) cl cu (by omega) (by omega) (by omega) (Nat.le_refl _) K.w),by simp[As]⟩
 · rename_i mv
   cases mx with
   | none=>exact hm.elim
   | some ym=>
    split at hv
    case h_2=>cases hv
    rename_i mi hmi
    obtain⟨km,rfl⟩:=Ey (P:=P) (w:=K.w) hmi hm
    split at hv
    case isFalse=>cases hv
    rename_i hc
    obtain⟨c0,c1,c2,c3,c4⟩:=hc
    subst c1; subst c2
    have cu':∃ k,hi=some (.int k li):=by
     rcases cu with ⟨rfl,rfl⟩ | hk
     · cases u with
       | none=>cases c4
       | some _=>exact hh.elim
     · exact hk
    rcases hsz with ⟨id,off,len,rfl⟩ | ⟨rows,rfl⟩ | rfl | rfl
    · cases hv
      simp only[lenOf,Option.some.injEq] at hn
      subst hn
      simp only[As] at hy
      obtain⟨hlt,A,cap,rfl,h2,h3,h4⟩:=hy
      exact⟨_,Jq hu hz (Sh (isS:=true) (cap:=cap) cl cu' ⟨km,rfl⟩ c0 (by omega) K.w),by simp[As]⟩
    · cases hv
      simp only[lenOf,Option.some.injEq] at hn
      subst hn
      simp only[As] at hy
      obtain⟨A,cap,rfl,hA,hcap,h2⟩:=hy
      refine⟨_,Jq hu hz (Sh (isS:=true) (cap:=cap) cl cu' ⟨km,rfl⟩ c0 (by omega) K.w),?_⟩
      cases A with
      | none=>exact absurd rfl hA
      | some a=>simp[As]
    · cases hv
      simp only[lenOf,Option.some.injEq] at hn
      subst hn
      simp only[As] at hy
      obtain⟨A,rfl,hA⟩:=hy
      refine⟨_,Jq hu hz (Sh (isS:=true) (cap:=0) cl cu' ⟨km,rfl⟩ c0 (by omega) K.w),?_⟩
      cases A with
      | none=>exact absurd rfl hA
      | some a=>simp[As]
    · cases hv
theorem O5 (H:BW K base h) (ht:VRels K t a.tmps.toList) {o:Oper} {xt e:TypeId} {x:Operand} {lo hi mx:Option Operand} (ho:o.op = .slice xt x lo hi mx) {v r:AV} {l u m:Option AV} (hx:A0 t x=some v)
 (hl:Eu t lo=some l) (hh:Eu t hi=some u) (hm:Eu t mx=some m) (hu:P.underlying xt=some (.slice e)) {z:Nat} (hz:CQ P e=some z)
 (hsz:(∃ id off len,v = .osl id off len z)∨(∃ rows,v = .fsl z rows)∨v = .esl∨v = .s (.slice none 0 0)) (hv:Ea v l u m=some r):DZ K base h K.c r ((execOp a.eval o).run P K.w):=by
 obtain⟨y,h1,h2⟩:=xV hu hz hv hsz (BD ht hx) (N4 ht hl) (N4 ht hh) (N4 ht hm)
 exact B8 H (by simp only[execOp,ho]; exact FX h1) h2
theorem gV (H:BW K base h) (ht:VRels K t a.tmps.toList) {o:Oper} {xt:TypeId} {x:Operand} {lo hi:Option Operand} (ho:o.op = .slice xt x lo hi none) {b:ByteArray} {r:AV} {l u:Option AV} (hx:A0 t x=some (.s (.string b)))
 (hl:Eu t lo=some l) (hh:Eu t hi=some u) (hu:P.underlying xt=some .string) (hv:Ea (.s (.string b)) l u none=some r):DZ K base h K.c r ((execOp a.eval o).run P K.w):=by
 have hy:=BD ht hx
 simp only[As] at hy
 have hl':=N4 (K:=K) (a:=a) ht hl
 have hh':=N4 (K:=K) (a:=a) ht hh
 unfold Ea at hv
 split at hv
 case h_2=>cases hv
 rename_i li n hli hn
 split at hv
 case h_2=>cases hv
 rename_i ui hui
 simp only[lenOf,Option.some.injEq] at hn
 subst hn
 have cl:lo.map a.eval=none∧li=0∨∃ k,lo.map a.eval=some (.int k li):=by
  revert hl'
  cases l with
  | none=>cases lo.map a.eval with
   | none=>intro _; simp[TH] at hli; exact .inl ⟨rfl,hli.symm⟩
   | some _=>intro hx; exact hx.elim
  | some v=>cases lo.map a.eval with
   | none=>intro hx; exact hx.elim
   | some y=>intro hx; obtain⟨k,rfl⟩:=Ey (P:=P) (w:=K.w) hli hx; exact .inr ⟨k,rfl⟩
 have cu:hi.map a.eval=none∧ui=b.size∨∃ k,hi.map a.eval=some (.int k ui):=by
  revert hh'
  cases u with
  | none=>cases hi.map a.eval with
   | none=>intro _; simp[TG] at hui; exact .inl ⟨rfl,hui.symm⟩
   | some _=>intro hx; exact hx.elim
  | some v=>cases hi.map a.eval with
   | none=>intro hx; exact hx.elim
   | some y=>intro hx; obtain⟨k,rfl⟩:=Ey (P:=P) (w:=K.w) hui hx; exact .inr ⟨k,rfl⟩
 simp only at hv
 split at hv
 case isFalse=>cases hv
 rename_i hc
 simp only[ED,Option.some.injEq] at hv
 subst hv
 refine B8 H (x:=.string (b.extract li.toNat ui.toNat)) ?_ (by simp[As])
 simp only[execOp,ho,Option.map_none]
 apply FX
 simp only[Instr.sliceAt,Instr.slice,Sem.run_bind,run_underlying hu,Result.andThen_ok,hy,Option.isSome_none,Bool.false_eq_true,if_false,Sem.run_pure,
  Kj (isS:=false) (cap:=b.size) cl cu hc.1 hc.2.1 hc.2.2 (Nat.le_refl _) K.w]
end
end Go.Vm
namespace Go.Vm
open Go
section
variable {P:Program} {K:Cx} {base:Nat} {h:AW} {t:List AV} {a:Act}
theorem Es {K:Cx} {base:Nat} {h':AW} {c':Nat} {v:AV} {K':Cx} {x:Value} {res:Result Next} (hr:res = .ok (.value x) K'.w) (S:K.Step K') (H:BW K' base h') (hc:K'.c=c') (hv:As K' v x):DZ K base h' c' v res:=
 ⟨K',x,.inl hr,S,H,hc,hv⟩
theorem uT {K:Cx} {T:TypeId} {cs:List AV} {vs:Array Value} (hr:VRels K cs vs.toList) (h1:∀ v∈vs.toList,v.oneCell' = true) :
 VT (K.allocOwn (.cells vs T) 1) (K.w.heap.size,0,1) (.rows cs.length [cs]):=by
 have hl:cs.length=vs.size:=by simpa using hr.length
 refine⟨vs,T,(0,0),World.alloc_heap_new _ _,by simp[hl],fun i _=>by omega,by simp,fun i r hi=>?_⟩
 cases i with
 | succ i=>simp at hi
 | zero=>
  simp at hi
  subst hi
  refine⟨rfl,fun j c hj=>?_⟩
  obtain⟨v,h2,h3⟩:=hr.get hj
  have h4:vs[j]? = some v:=by simpa using h2
  refine⟨v,by simpa using h4,h1 v (List.mem_of_getElem? h2),h3.mono (CH K _ 1).le⟩
theorem AAw {K:Cx} {o:Obj} {κ n:Nat}:As (K.allocOwn o κ) (.ptr K.c 0 n 0) (.pointer (some ⟨K.w.heap.size,0,none⟩)):=by
 simp only[As,JN,UL]
 exact⟨Nat.lt_succ_self _,by simp⟩
theorem JI {e:TypeId} {cs:List AV} (hz:E1 P e=some cs):∃ z,(∀ w,(zeroValue e).run P w = .ok z w)∧cs=z.cells.toList.map .s∧∀ v∈z.cells.toList,v.oneCell' = true:=by
 unfold E1 at hz
 cases hi:P.info? e with
 | none=>rw[hi] at hz; cases hz
 | some i=>
  rw[hi] at hz
  simp only[Option.bind_some] at hz
  cases hzz:i.zero with
  | none=>rw[hzz] at hz; cases hz
  | some z=>
   rw[hzz] at hz
   simp only at hz
   split at hz
   · cases hz
     rename_i ho
     exact⟨z,fun w=>by simp[zeroValue,typeInfo,hi,hzz],rfl,fun v hv=>List.all_eq_true.1 ho v hv⟩
   · cases hz
theorem yX (H:BW K base h) {o:Oper} {e:TypeId} (ho:o.op = .alloc e) {cs:List AV} (hz:E1 P e=some cs) :
 DZ K base (h.upd (CT K.c cs.length [cs])) (K.c + 1) (.ptr K.c 0 cs.length 0) ((execOp a.eval o).run P K.w):=by
 obtain⟨z,hrun,rfl,h1⟩:=JI hz
 refine Es (K':=K.allocOwn (.cells z.cells e) 1) (x:=.pointer (some ⟨K.w.heap.size,0,none⟩)) ?_ (CH K _ 1) (DG H _ 1 _ (uT (VRels.map_s _) h1)) rfl AAw
 simp only[execOp,ho]
 apply FX
 simp only[Instr.alloc,Sem.run_bind,hrun,Result.andThen_ok,newVar,newRow,run_newObj_alloc,Sem.run_pure]
 rfl
theorem ACz (H:BW K base h) (ht:VRels K t a.tmps.toList) {o:Oper} {e:TypeId} {x:Operand} (ho:o.op = .box e x) {cs:List AV} (hx:(A0 t x).bind cellsOf=some cs) :
 DZ K base (h.upd (CT K.c cs.length [cs])) (K.c + 1) (.ptr K.c 0 cs.length 0) ((execOp a.eval o).run P K.w):=by
 obtain⟨u,h1,h2⟩:=Option.bind_eq_some_iff.1 hx
 obtain⟨h3,h4⟩:=KC h2 (BD ht h1)
 refine Es (K':=K.allocOwn (.cells (a.eval x).cells e) 1) (x:=.pointer (some ⟨K.w.heap.size,0,none⟩)) ?_ (CH K _ 1) (DG H _ 1 _ (uT h3 h4)) rfl AAw
 simp only[execOp,ho]
 apply FX
 simp only[Instr.box,newVar,newRow,Sem.run_bind,run_newObj_alloc,Result.andThen_ok,Sem.run_pure]
 rfl
def Hd (arr:Array Value) (p:Nat) (vs:List Value):Array Value:=(arr.toList.take p ++ vs ++ arr.toList.drop (p + vs.length)).toArray
theorem uE (arr:Array Value) (p:Nat):Hd arr p []=arr:=by simp[Hd]
theorem Gn {arr:Array Value} {p:Nat} {vs:List Value} (h:p + vs.length≤arr.size):(Hd arr p vs).size=arr.size:=by
 simp[Hd]; omega
theorem Hn {arr:Array Value} {p:Nat} {vs:List Value} (h:p + vs.length≤arr.size) (i:Nat):(Hd arr p vs)[i]? = if i < p then arr[i]? else if i < p + vs.length then vs[i - p]? else arr[i]?:=by
 have hp:(arr.toList.take p).length=p:=by simp; omega
 unfold Hd
 rw[List.getElem?_toArray,List.append_assoc]
 by_cases h1:i < p
 · rw[if_pos h1,List.getElem?_append_left (by omega),List.getElem?_take_of_lt h1]; simp
 · rw[if_neg h1,List.getElem?_append_right (by omega),hp]
   by_cases h2:i < p + vs.length
   · rw[if_pos h2,List.getElem?_append_left (by omega)]
   · rw[if_neg h2,List.getElem?_append_right (by omega),List.getElem?_drop]
     rw[show p + vs.length + (i - p - vs.length)=i by omega]; simp
theorem mG {arr:Array Value} {p:Nat} {v:Value} {vs:List Value} (h:p + (v :: vs).length≤arr.size):Hd (arr.setIfInBounds p v) (p + 1) vs=Hd arr p (v :: vs):=by
 simp only[List.length_cons] at h
 apply Array.ext_getElem?
 intro i
 rw[Hn (by simp; omega),Hn (by simpa using h)]
 simp only[List.length_cons]
 by_cases h1:i < p
 · rw[if_pos (by omega),if_pos h1,Array.getElem?_setIfInBounds_ne (by omega)]
 · by_cases h2:i=p
   · subst h2
     rw[if_pos (by omega),if_neg (by omega),if_pos (by omega),Array.getElem?_setIfInBounds_self_of_lt (by omega)]
     simp
   · rw[if_neg (by omega),if_neg h1]
     by_cases h3:i < p + 1 + vs.length
     · rw[if_pos h3,if_pos (by omega),show i - p=(i - (p + 1)) + 1 by omega,List.getElem?_cons_succ]
     · rw[if_neg h3,if_neg (by omega),Array.getElem?_setIfInBounds_ne (by omega)]
theorem lE (w:World) (b:Nat) (o p:Obj):DT (DT w b o) b p=DT w b p:=by simp[DT]
theorem AB7 {w:World} {b:Nat} {o:Obj} (h:w.heap[b]? = some o):DT w b o=w:=by
 obtain⟨hl,he⟩:=Array.getElem?_eq_some_iff.1 h
 have:w.heap.setIfInBounds b o=w.heap:=by
  apply Array.ext_getElem?
  intro i
  by_cases e:b=i
  · subst e; rw[Array.getElem?_setIfInBounds_self_of_lt hl,h]
  · rw[Array.getElem?_setIfInBounds_ne e]
 simp[DT,this]
theorem xR {w:World} {b p:Nat} {v:Value} {arr:Array Value} {T:TypeId} {fz:Nat × Nat} (hb:w.heap[b]? = some (.cells arr T fz)):w.setCell ⟨b,p,none⟩ v=DT w b (.cells (arr.setIfInBounds p v) T fz):=by
 obtain⟨hl,he⟩:=Array.getElem?_eq_some_iff.1 hb
 have:(w.heap.modify b fun | .cells c elem frozen=>.cells (if (none:Option Nat).isSome then c else c.setIfInBounds p v) elem frozen | o=>o)=w.heap.setIfInBounds b (.cells (arr.setIfInBounds p v) T fz):=by
  apply Array.ext_getElem?
  intro i
  rw[Array.getElem?_modify]
  by_cases e:b=i
  · subst e
    rw[if_pos rfl,hb,Array.getElem?_setIfInBounds_self_of_lt hl]
    rfl
  · rw[if_neg e,Array.getElem?_setIfInBounds_ne e]
 unfold World.setCell DT
 rw[← this]
 rfl
theorem FE {b:Nat} {T:TypeId} {fz:Nat × Nat}:∀ (vs:List Value) (i p:Nat) (arr:Array Value) (w:World),w.heap[b]? = some (.cells arr T fz)→(∀ i,i < arr.size→¬ (fz.1≤i∧i < fz.2))→p + i + vs.length≤arr.size→(∀ v∈vs,v.oneCell' = true) →
 (storeCells ⟨b,p,none⟩ vs i).run P w = .ok () (DT w b (.cells (Hd arr (p + i) vs) T fz))
 | [],i,p,arr,w,hb,hf,hl,h1=>by
  simp only[storeCells,Sem.run_pure,uE,AB7 hb]
 | v :: vs,i,p,arr,w,hb,hf,hl,h1=>by
  have hlt:p + i < arr.size:=by simp at hl; omega
  have hc:w.cell? ⟨b,p + i,none⟩=some arr[p + i]:=by simp[World.cell?,hb,hlt]
  have hfr:w.frozen? ⟨b,p + i,none⟩=false:=by
   simp only[World.frozen?,hb]
   have:=hf (p + i) hlt
   simp only[Bool.and_eq_false_iff,decide_eq_false_iff_not]
   omega
  have hst:(store ⟨b,p + i,none⟩ v).run P w = .ok () (DT w b (.cells (arr.setIfInBounds (p + i) v) T fz)):=by
   rw[run_store P w _ v .plain (h1 v (by simp)),hc,← xR hb]
   simp[hfr]
  have ih:=FE vs (i + 1) p (arr.setIfInBounds (p + i) v) (DT w b (.cells (arr.setIfInBounds (p + i) v) T fz)) (EZ hb) (by simpa using hf) (by simp at hl ⊢; omega) (fun u hu=>h1 u (by simp[hu]))
  simp only[storeCells,Sem.run_bind,GT,hst,Result.andThen_ok,ih]
  rw[lE,show p + (i + 1)=p + i + 1 by omega,mG (by simpa using hl)]
theorem ABY {row cs:List AV} {off:Nat} (h:off + cs.length≤row.length) (j:Nat):(KG row off cs)[j]? = if j < off then row[j]? else if j < off + cs.length then cs[j - off]? else row[j]?:=by
 have hp:(row.take off).length=off:=by simp; omega
 unfold KG
 rw[List.append_assoc]
 by_cases h1:j < off
 · rw[if_pos h1,List.getElem?_append_left (by omega),List.getElem?_take_of_lt h1]
 · rw[if_neg h1,List.getElem?_append_right (by omega),hp]
   by_cases h2:j < off + cs.length
   · rw[if_pos h2,List.getElem?_append_left (by omega)]
   · rw[if_neg h2,List.getElem?_append_right (by omega),List.getElem?_drop]
     rw[show off + cs.length + (j - off - cs.length)=j by omega]
theorem oP {row cs:List AV} {off:Nat} (h:off + cs.length≤row.length):(KG row off cs).length=row.length:=by
 simp[KG]; omega
theorem fM {i j sz x:Nat} (h:i≠j) (h1:i * sz≤x) (h2:x < i * sz + sz):¬ (j * sz≤x∧x < j * sz + sz):=by
 rintro⟨h3,h4⟩
 rcases Nat.lt_or_gt_of_ne h with hl | hl
 · have:(i + 1) * sz≤j * sz:=Nat.mul_le_mul_right sz hl
   rw[Nat.succ_mul] at this; omega
 · have:(j + 1) * sz≤i * sz:=Nat.mul_le_mul_right sz hl
   rw[Nat.succ_mul] at this; omega
theorem zM {K:Cx} {sz:Nat} {p:Nat × Nat × Nat} {arr:Array Value} {T:TypeId} {fz:Nat × Nat} (hb:K.w.heap[p.1]? = some (.cells arr T fz)) (hsz:arr.size=(p.2.1 + p.2.2) * sz) (hf:∀ i,i < arr.size→¬ (fz.1≤i∧i < fz.2)) {rows:List (List AV)} (hlen:rows.length≤p.2.2)
 (hrows:∀ (i:Nat) (r:List AV),rows[i]? = some r→r.length=sz∧Lr K arr ((p.2.1 + i) * sz) r) {i:Nat} {row cs:List AV} {vs:List Value} (hrow:rows[i]? = some row) (hv:VRels K cs vs) (h1:∀ v∈vs,v.oneCell' = true) {off:Nat} (hoff:off + cs.length≤row.length)
 {K':Cx} (hK:K' = K.setB p.1 (.cells (Hd arr ((p.2.1 + i) * sz + off) vs) T fz)) (hle:K.Le K'):VT K' p (.rows sz (rows.set i (KG row off cs))):=by
 have hrl:=(hrows i row hrow).1
 have hil:i < rows.length:=(List.getElem?_eq_some_iff.1 hrow).1
 have hcl:cs.length=vs.length:=hv.length
 have hfit:(p.2.1 + i) * sz + off + vs.length≤arr.size:=by
  rw[hsz]
  have:(p.2.1 + i + 1) * sz≤(p.2.1 + p.2.2) * sz:=Nat.mul_le_mul_right sz (by omega)
  rw[Nat.succ_mul] at this; omega
 refine⟨Hd arr ((p.2.1 + i) * sz + off) vs,T,fz,by rw[hK]; exact EZ hb,by rw[Gn hfit,hsz],by rw[Gn hfit]; exact hf,by simpa using hlen,fun k r hk=>?_⟩
 by_cases e:i=k
 · subst e
   rw[List.getElem?_set_self hil] at hk
   cases hk
   refine⟨by rw[oP hoff,hrl],fun j c hj=>?_⟩
   rw[ABY hoff] at hj
   rw[Hn hfit]
   by_cases g1:j < off
   · rw[if_pos g1] at hj
     rw[if_pos (by omega)]
     obtain⟨v,k1,k2,k3⟩:=(hrows i row hrow).2 j c hj
     exact⟨v,k1,k2,k3.mono hle⟩
   · rw[if_neg g1] at hj
     rw[if_neg (by omega)]
     by_cases g2:j < off + cs.length
     · rw[if_pos g2] at hj
       rw[if_pos (by omega)]
       obtain⟨v,k1,k2⟩:=hv.get hj
       refine⟨v,?_,h1 v (List.mem_of_getElem? k1),k2.mono hle⟩
       rw[show (p.2.1 + i) * sz + j - ((p.2.1 + i) * sz + off)=j - off by omega]
       exact k1
     · rw[if_neg g2] at hj
       rw[if_neg (by omega)]
       obtain⟨v,k1,k2,k3⟩:=(hrows i row hrow).2 j c hj
       exact⟨v,k1,k2,k3.mono hle⟩
 · rw[List.getElem?_set_ne e] at hk
   obtain⟨g1,g2⟩:=hrows k r hk
   refine⟨g1,fun j c hj=>?_⟩
   obtain⟨v,k1,k2,k3⟩:=g2 j c hj
   refine⟨v,?_,k2,k3.mono hle⟩
   have hjl:j < sz:=by rw[← g1]; exact (List.getElem?_eq_some_iff.1 hj).1
   have:=fM (i:=p.2.1 + k) (j:=p.2.1 + i) (sz:=sz) (x:=(p.2.1 + k) * sz + j) (by omega) (by omega) (by omega)
   rw[Hn hfit]
   by_cases g3:(p.2.1 + k) * sz + j < (p.2.1 + i) * sz + off
   · rw[if_pos g3]; exact k1
   · rw[if_neg g3,if_neg (by omega)]; exact k1
theorem y5 (H:BW K base h) (ht:VRels K t a.tmps.toList) {o:Oper} {ty:TypeId} {x y:Operand} (ho:o.op = .store ty x y) {p v:AV} (hx:A0 t x=some p) (hy:A0 t y=some v) {us:Ups} (hs:Gx P h ty p v=some us) :
 DZ K base (h.upd us) K.c (.s undef) ((execOp a.eval o).run P K.w):=by
 unfold Gx at hs
 split at hs
 case h_2=>cases hs
 rename_i id i sz off cs hcs
 split at hs
 case h_2=>cases hs
 rename_i sz' rows hid
 split at hs
 case isFalse=>cases hs
 rename_i hc
 obtain⟨rfl,hsz⟩:=hc
 split at hs
 case h_2=>cases hs
 rename_i row hrow
 split at hs
 case isFalse=>cases hs
 rename_i hoff
 cases hs
 have hp:=BD ht hx
 simp only[As] at hp
 obtain⟨hlt,ep⟩:=hp
 obtain⟨hv,h1⟩:=KC hcs (BD ht hy)
 obtain⟨arr,T,fz,g1,g2,g3,g4,g5⟩:=H.obj id _ hid
 have hle:=(Jx (K:=K) (b:=(K.ι id).1) (o:=.cells (Hd arr (((K.ι id).2.1 + i) * sz' + off) (a.eval y).cells.toList) T fz) (H.L id _ hid) g1 (fun R e=>by cases e))
 have hor:=zM (K:=K) (p:=K.ι id) g1 g2 g3 g4 g5 hrow hv h1 hoff rfl hle.le
 have hcl:cs.length=(a.eval y).cells.size:=by simpa using hv.length
 have hfit:((K.ι id).2.1 + i) * sz' + off + (a.eval y).cells.toList.length≤arr.size:=by
  have hil:i < rows.length:=(List.getElem?_eq_some_iff.1 hrow).1
  have hrl:=(g5 i row hrow).1
  rw[g2]
  have:((K.ι id).2.1 + i + 1) * sz'≤((K.ι id).2.1 + (K.ι id).2.2) * sz':=Nat.mul_le_mul_right sz' (by omega)
  rw[Nat.succ_mul] at this
  simp; omega
 refine⟨_,undef,.inr ⟨?_,rfl⟩,hle,Nz H hid g1 (fun R e=>by cases e) _ hor,rfl,by simp[As]⟩
 have hrun:=FE (P:=P) (a.eval y).cells.toList 0 (((K.ι id).2.1 + i) * sz' + off) arr K.w g1 g3 (by simpa using hfit) h1
 simp only[execOp,ho,ep,Instr.storeAt,Instr.sureAddr,storeVar,Sem.run_bind,Sem.run_pure,Result.andThen_ok,Cb hsz,hcl,ne_eq,not_true,if_false,hrun]
 rfl
end
end Go.Vm
namespace Go.Vm
open Go
section
variable {P:Program} {K:Cx} {base:Nat} {h:AW} {t:List AV} {a:Act}
theorem Ub:∀ (l:List Value) (k off:Nat) (arr:Array Value),off + k + l.length≤arr.size→(l.zipIdx k).foldl (fun cs (p:Value × Nat)=>cs.setIfInBounds (off + p.2) p.1) arr=Hd arr (off + k) l
 | [],k,off,arr,_=>by simp[uE]
 | v :: l,k,off,arr,h=>by
  simp only[List.length_cons] at h
  simp only[List.zipIdx_cons,List.foldl_cons]
  rw[Ub l (k + 1) off _ (by simp; omega),show off + (k + 1)=off + k + 1 by omega,mG (by simp; omega)]
theorem ABZ {K:Cx} {cs ds:List AV} {arr:Array Value} {vs:List Value} {off:Nat} (h1:VRels K cs arr.toList) (h2:VRels K ds vs):VRels K (KG cs off ds) (Hd arr off vs).toList:=by
 unfold KG Hd
 rw[h2.length]
 exact ((h1.take off).append h2).append (h1.drop _)
theorem W9 (ht:VRels K t a.tmps.toList):∀ {ps:List (Nat × Operand)} {vs:List (Nat × AV)},HX t ps=some vs→vs.map (·.1)=ps.map (·.1)∧VRels K (vs.map (·.2)) (ps.map fun p=>a.eval p.2)
 | [],vs,h=>by
  simp only[HX,Option.some.injEq] at h
  subst h
  simp[VRels]
 | (i,x) :: ps,vs,h=>by
  simp only[HX] at h
  split at h
  · rename_i v us h1 h2
    cases h
    obtain⟨g1,g2⟩:=W9 ht h2
    simp only[List.map_cons,VRels]
    exact⟨by rw[g1],BD ht h1,g2⟩
  · cases h
theorem lS {K:Cx} {place:Nat→Option (Nat × Nat)}:∀ {vs:List (Nat × AV)} {xs:List (Nat × Value)} {cs cs':List AV} {arr:Array Value},T5 place cs vs=some cs'→vs.map (·.1)=xs.map (·.1)→VRels K (vs.map (·.2)) (xs.map (·.2))→VRels K cs arr.toList →
 ∃ arr',Instr.fill place arr xs=some arr'∧VRels K cs' arr'.toList
 | [],[],cs,cs',arr,h,_,_,hr=>by
  simp only[T5,Option.some.injEq] at h
  subst h
  exact⟨arr,rfl,hr⟩
 | (i,v) :: vs,(j,x) :: xs,cs,cs',arr,h,hi,hv,hr=>by
  simp only[List.map_cons,List.cons.injEq] at hi
  obtain⟨rfl,hi⟩:=hi
  simp only[List.map_cons,VRels] at hv
  simp only[T5] at h
  split at h
  · rename_i off size ds h1 h2
    split at h
    · rename_i hc
      obtain⟨k1,k2⟩:=KC h2 hv.1
      have hl:ds.length=x.cells.size:=by simpa using k1.length
      have hl2:cs.length=arr.size:=by simpa using hr.length
      obtain⟨arr',e1,e2⟩:=lS h hi hv.2 (ABZ (off:=off) hr k1)
      refine⟨arr',?_,e2⟩
      have hcond:(decide (x.cells.size≠size) || decide (off + x.cells.size > arr.size))=false:=by
       simp only[Bool.or_eq_false_iff,decide_eq_false_iff_not]
       omega
      have hfold:(x.cells.zipIdx.foldl (fun cs (p:Value × Nat)=>cs.setIfInBounds (off + p.2) p.1) arr)=Hd arr off x.cells.toList:=by
       rw[← Array.foldl_toList,Array.toList_zipIdx]
       have:=Ub x.cells.toList 0 off arr (by simp; omega)
       simpa using this
      simp only[Instr.fill,h1]
      rw[hcond]
      simp only[Bool.false_eq_true,if_false]
      rw[hfold]
      exact e1
    · cases h
  · cases h
 | [],_ :: _,_,_,_,_,hi,_,_=>by simp at hi
 | _ :: _,[],_,_,_,_,hi,_,_=>by simp at hi
theorem fQ:∀ {fs:List Field} {l:List (Nat × Nat)},V7 P fs=some l→∀ w,(fs.mapM fun f=>do pure (f.offset,← sizeOf f.type):Sem (List (Nat × Nat))).run P w = .ok l w
 | [],l,h,w=>by
  simp only[V7,Option.some.injEq] at h
  subst h
  rfl
 | f :: fs,l,h,w=>by
  simp only[V7] at h
  split at h
  · rename_i n us h1 h2
    cases h
    simp only[List.mapM_cons,Sem.run_bind,Cb h1,Result.andThen_ok,Sem.run_pure,fQ h2]
  · cases h
theorem yY (H:BW K base h) (ht:VRels K t a.tmps.toList) {o:Oper} {ty:TypeId} {ps:Array (Nat × Operand)} (ho:o.op = .build ty ps) {z:List AV} {pl:Nat→Option (Nat × Nat)} {vs:List (Nat × AV)} {cs:List AV}
 (hz:E1 P ty=some z) (hp:aT P ty=some pl) (hv:HX t ps.toList=some vs) (hf:T5 pl z vs=some cs):DZ K base h K.c (.agg cs) ((execOp a.eval o).run P K.w):=by
 obtain⟨zv,hrun,rfl,h1⟩:=JI hz
 obtain⟨g1,g2⟩:=W9 ht hv
 obtain⟨arr',e1,e2⟩:=lS (xs:=ps.toList.map fun p=>(p.1,a.eval p.2)) (arr:=zv.cells) hf (by rw[g1]; simp) (by simpa[Function.comp_def] using g2) (VRels.map_s _)
 refine B8 H (x:=.agg arr') ?_ (by simp only[As]; exact⟨_,rfl,e2⟩)
 simp only[execOp,ho]
 apply FX
 unfold aT at hp
 split at hp
 · rename_i fields hu
   obtain⟨l,hl,rfl⟩:=Option.map_eq_some_iff.1 hp
   have hm:(fields.mapM fun f=>do pure (f.offset,← sizeOf f.type):Sem (Array (Nat × Nat))).run P K.w = .ok l.toArray K.w:=by
    rw[Array.mapM_eq_mapM_toList,Sem.run_map,fQ hl]
    rfl
   have e1':Instr.fill (fun i=>l.toArray[i]?) zv.cells (ps.map fun p=>(p.1,a.eval p.2)).toList=some arr':=by
    rw[Array.toList_map]
    simpa using e1
   simp only[Instr.build,Sem.run_bind,hrun,Result.andThen_ok,run_underlying hu,hm]
   rw[e1']
   rfl
 · rename_i n e hu
   obtain⟨n',hn,rfl⟩:=Option.map_eq_some_iff.1 hp
   have e1':Instr.fill (fun i=>some (i * n',n')) zv.cells (ps.map fun p=>(p.1,a.eval p.2)).toList=some arr':=by
    rw[Array.toList_map]
    exact e1
   simp only[Instr.build,Sem.run_bind,hrun,Result.andThen_ok,run_underlying hu,Cb hn]
   rw[e1']
   rfl
 · cases hp
def LP (K:Cx) (arr:Array Value) (sz:Nat) (rows:List (List AV)):Prop:=∀ (i:Nat) (r:List AV),rows[i]? = some r→r.length=sz∧Lr K arr (i * sz) r
theorem wO {K:Cx} {arr:Array Value} {sz:Nat} {rows:List (List AV)} (hrows:LP K arr sz rows) {n:Nat} (hsz:arr.size=n * sz) (hn:rows.length≤n) {i:Nat} {cs:List AV} {vs:List Value} (hi:i < rows.length) (hv:VRels K cs vs) (hc:cs.length=sz) (h1:∀ v∈vs,v.oneCell' = true) :
 LP K (Hd arr (i * sz) vs) sz (rows.set i cs):=by
 have hcl:cs.length=vs.length:=hv.length
 have hfit:i * sz + vs.length≤arr.size:=by
  rw[hsz]
  have:(i + 1) * sz≤n * sz:=Nat.mul_le_mul_right sz (by omega)
  rw[Nat.succ_mul] at this; omega
 intro k r hk
 by_cases e:i=k
 · subst e
   rw[List.getElem?_set_self hi] at hk
   cases hk
   refine⟨hc,fun j c hj=>?_⟩
   obtain⟨v,k1,k2⟩:=hv.get hj
   have hjl:j < vs.length:=(List.getElem?_eq_some_iff.1 k1).1
   refine⟨v,?_,h1 v (List.mem_of_getElem? k1),k2⟩
   rw[Hn hfit,if_neg (by omega),if_pos (by omega),show i * sz + j - i * sz=j by omega]
   exact k1
 · rw[List.getElem?_set_ne e] at hk
   obtain⟨g1,g2⟩:=hrows k r hk
   refine⟨g1,fun j c hj=>?_⟩
   obtain⟨v,k1,k2,k3⟩:=g2 j c hj
   refine⟨v,?_,k2,k3⟩
   have hjl:j < sz:=by rw[← g1]; exact (List.getElem?_eq_some_iff.1 hj).1
   have:=fM (i:=k) (j:=i) (sz:=sz) (x:=k * sz + j) (Ne.symm e) (by omega) (by omega)
   rw[Hn hfit]
   by_cases g3:k * sz + j < i * sz
   · rw[if_pos g3]; exact k1
   · rw[if_neg g3,if_neg (by omega)]; exact k1
theorem ADq {z:Value} {n j:Nat} (hj:j < n * z.cells.size):((Array.range (n * z.cells.size)).map (z.cells[· % z.cells.size]!))[j]? = z.cells[j % z.cells.size]?:=by
 have hp:0 < z.cells.size:=by
  rcases Nat.eq_zero_or_pos z.cells.size with e | e
  · rw[e] at hj; simp at hj
  · exact e
 have hm:j % z.cells.size < z.cells.size:=Nat.mod_lt _ hp
 rw[Array.getElem?_map,Array.getElem?_range,if_pos hj]
 simp[hm]
theorem nN {K:Cx} {z:Value} (h1:∀ v∈z.cells.toList,v.oneCell' = true) {n l:Nat} (hl:l≤n):LP K ((Array.range (n * z.cells.size)).map (z.cells[· % z.cells.size]!)) z.cells.size (List.replicate l (z.cells.toList.map .s)):=by
 intro i r hi
 have hil:i < l:=by simpa using (List.getElem?_eq_some_iff.1 hi).1
 have hr:r=z.cells.toList.map .s:=by
  rw[List.getElem?_replicate,if_pos hil] at hi
  exact (Option.some.inj hi).symm
 subst hr
 refine⟨by simp,fun j c hj=>?_⟩
 rw[List.getElem?_map] at hj
 obtain⟨v,hv,rfl⟩:=Option.map_eq_some_iff.1 hj
 have hjl:j < z.cells.size:=by simpa using (List.getElem?_eq_some_iff.1 hv).1
 refine⟨v,?_,h1 v (List.mem_of_getElem? hv),by simp[As]⟩
 have hlt:i * z.cells.size + j < n * z.cells.size:=by
  have:(i + 1) * z.cells.size≤n * z.cells.size:=Nat.mul_le_mul_right _ (by omega)
  rw[Nat.succ_mul] at this; omega
 rw[ADq hlt,Nat.mul_comm i,Nat.mul_add_mod,Nat.mod_eq_of_lt hjl]
 simpa using hv
theorem Lo {K:Cx} {T:TypeId} {arr:Array Value} {sz κ:Nat} {fz:Nat × Nat} {rows:List (List AV)} (hr:LP K arr sz rows) (hs:arr.size=κ * sz) (hl:rows.length≤κ) (hf:∀ i,i < arr.size→¬ (fz.1≤i∧i < fz.2)) :
 VT (K.allocOwn (.cells arr T fz) κ) (K.w.heap.size,0,κ) (.rows sz rows):=by
 refine⟨arr,T,fz,World.alloc_heap_new _ _,by simp[hs],hf,hl,fun i r hi=>⟨(hr i r hi).1,?_⟩⟩
 rw[Nat.zero_add]
 exact (hr i r hi).2.mono (CH K _ κ).le
theorem S9 {K:Cx} {o:Obj} {κ n sz:Nat} (hn:n≤κ):As (K.allocOwn o κ) (.osl K.c 0 n sz) (.slice (some ⟨K.w.heap.size,0,none⟩) n κ):=by
 simp only[As,JN,UL]
 exact⟨Nat.lt_succ_self _,_,κ,rfl,by simp,hn,.inr (by simp)⟩
theorem lU {K:Cx} {sz n:Nat} (hp:0 < sz):∀ {vs:List (Nat × AV)} {xs:List (Nat × Value)} {rows rows':List (List AV)} {arr:Array Value},Nv sz rows vs=some rows'→vs.map (·.1)=xs.map (·.1)→VRels K (vs.map (·.2)) (xs.map (·.2))→LP K arr sz rows→arr.size=n * sz→rows.length=n →
 ∃ arr',Instr.fill (fun i=>some (i * sz,sz)) arr xs=some arr'∧LP K arr' sz rows'∧arr'.size=n * sz∧rows'.length=n
 | [],[],rows,rows',arr,h,_,_,hr,hs,hn=>by
  simp only[Nv,Option.some.injEq] at h
  subst h
  exact⟨arr,rfl,hr,hs,hn⟩
 | (i,v) :: vs,(j,x) :: xs,rows,rows',arr,h,hi,hv,hr,hs,hn=>by
  simp only[List.map_cons,List.cons.injEq] at hi
  obtain⟨rfl,hi⟩:=hi
  simp only[List.map_cons,VRels] at hv
  simp only[Nv] at h
  split at h
  · rename_i ds h2
    split at h
    · rename_i hc
      obtain⟨k1,k2⟩:=KC h2 hv.1
      have hl:ds.length=x.cells.size:=by simpa using k1.length
      have hfit:i * sz + x.cells.size≤arr.size:=by
       rw[hs]
       have:(i + 1) * sz≤n * sz:=Nat.mul_le_mul_right _ (by omega)
       rw[Nat.succ_mul] at this; omega
      have hset:=wO hr hs (by omega) hc.2 k1 hc.1 k2
      obtain⟨arr',e1,e2⟩:=lU hp h hi hv.2 hset (by rw[Gn (by simpa using hfit)]; exact hs) (by simpa using hn)
      refine⟨arr',?_,e2⟩
      have hcond:(decide (x.cells.size≠sz) || decide (i * sz + x.cells.size > arr.size))=false:=by
       simp only[Bool.or_eq_false_iff,decide_eq_false_iff_not]
       omega
      have hfold:(x.cells.zipIdx.foldl (fun cs (p:Value × Nat)=>cs.setIfInBounds (i * sz + p.2) p.1) arr)=Hd arr (i * sz) x.cells.toList:=by
       rw[← Array.foldl_toList,Array.toList_zipIdx]
       have:=Ub x.cells.toList 0 (i * sz) arr (by simpa using hfit)
       simpa using this
      simp only[Instr.fill]
      rw[hcond]
      simp only[Bool.false_eq_true,if_false]
      rw[hfold]
      exact e1
    · cases h
  · cases h
 | [],_ :: _,_,_,_,_,hi,_,_,_,_=>by simp at hi
 | _ :: _,[],_,_,_,_,hi,_,_,_,_=>by simp at hi
theorem Si (ht:VRels K t a.tmps.toList) {ty e:TypeId} {len sz:Nat} {z:List AV} {ps:List (Nat × Operand)} {vs:List (Nat × AV)} {rows:List (List AV)} (he:LF P ty=some e) (hs:CQ P e=some sz) (hz:E1 P e=some z)
 (hv:HX t ps=some vs) (hc:len * sz≤16777216∧0 < sz∧z.length=sz) (hf:Nv sz (List.replicate len z) vs=some rows) :
 ∃ arr,(Instr.buildSlice ty len (ps.map fun p=>(p.1,a.eval p.2)).toArray).run P K.w = .ok (.slice (some ⟨K.w.heap.size,0,none⟩) len len) (K.w.alloc (.cells arr e))∧LP K arr sz rows∧arr.size=len * sz∧rows.length=len:=by
 obtain⟨zv,hrun,rfl,h1⟩:=JI hz
 obtain⟨g1,g2⟩:=W9 ht hv
 obtain⟨c1,c2,c3⟩:=hc
 have c3':zv.cells.size=sz:=by simpa using c3
 subst c3'
 have hz0:=nN (K:=K) h1 (n:=len) (l:=len) (Nat.le_refl _)
 obtain⟨arr',e1,e2,e3,e4⟩:=lU (n:=len) c2 (xs:=ps.map fun p=>(p.1,a.eval p.2)) hf (by rw[g1]; simp) (by simpa[Function.comp_def] using g2) hz0 (by simp) (by simp)
 refine⟨arr',?_,e2,e3,e4⟩
 have hu:=Nu he
 have hgt:¬ (len * zv.cells.size > 2 ^ 24):=by omega
 have hnil:∀ (n:Nat) (f:Nat→Value),n=0→(Array.range n).map f = #[]:=fun n f e0=>by subst e0; simp
 by_cases e0:len * zv.cells.size=0
 · rw[hnil _ _ e0] at e1
   simp only[Instr.buildSlice,Sem.run_bind,run_underlying hu,Result.andThen_ok,Cb hs,if_neg hgt,Sem.run_pure,if_pos e0]
   rw[hnil _ _ e0,e1]
   simp only[newRow,Sem.run_bind,run_newObj_alloc,Result.andThen_ok,Sem.run_pure]
 · simp only[Instr.buildSlice,Sem.run_bind,run_underlying hu,Result.andThen_ok,Cb hs,if_neg hgt,Sem.run_pure,if_neg e0,hrun,e1]
   simp only[newRow,Sem.run_bind,run_newObj_alloc,Result.andThen_ok,Sem.run_pure]
theorem Yr (H:BW K base h) (ht:VRels K t a.tmps.toList) {o:Oper} {ty e:TypeId} {len sz:Nat} {z:List AV} {ps:Array (Nat × Operand)} {vs:List (Nat × AV)} {rows:List (List AV)} (ho:o.op = .buildSlice ty len ps) (he:LF P ty=some e) (hs:CQ P e=some sz) (hz:E1 P e=some z)
 (hv:HX t ps.toList=some vs) (hc:len * sz≤16777216∧0 < sz∧z.length=sz) (hf:Nv sz (List.replicate len z) vs=some rows) :
 DZ K base (h.upd (CT K.c sz rows)) (K.c + 1) (.osl K.c 0 len sz) ((execOp a.eval o).run P K.w):=by
 obtain⟨arr,e1,e2,e3,e4⟩:=Si (K:=K) ht he hs hz hv hc hf
 refine Es (K':=K.allocOwn (.cells arr e) len) ?_ (CH K _ _) (DG H _ _ _ (Lo e2 e3 (by omega) (fun i _=>by omega))) rfl (S9 (Nat.le_refl _))
 simp only[execOp,ho]
 apply FX
 have hm:(ps.map fun p=>(p.1,a.eval p.2))=(ps.toList.map fun p=>(p.1,a.eval p.2)).toArray:=by apply Array.ext'; simp
 rw[← bA K (.cells arr e) len] at e1
 rw[← hm] at e1
 exact e1
theorem bY (H:BW K base h) (ht:VRels K t a.tmps.toList) {o:Oper} {ty e:TypeId} {l c:Operand} {sz b:Nat} {z:List AV} {ln cp:Int} (ho:o.op = .makeSlice ty l c) (he:LF P ty=some e) (hs:CQ P e=some sz) (hb:O0 P e=some b) (hz:E1 P e=some z)
 (hl:(A0 t l).bind DQ = some ln) (hcp:(A0 t c).bind DQ = some cp) (hc:0≤ln∧ln≤cp∧cp≤9223372036854775807∧b * cp≤281474976710656∧0 < sz∧z.length=sz) :
 DZ K base (h.upd (CT K.c sz (List.replicate ln.toNat z))) (K.c + 1) (.osl K.c 0 ln.toNat sz) ((execOp a.eval o).run P K.w):=by
 obtain⟨zv,hrun,rfl,h1⟩:=JI hz
 obtain⟨c1,c2,c3,c4,c5,c6⟩:=hc
 have c6':zv.cells.size=sz:=by simpa using c6
 subst c6'
 obtain⟨q,q1,q2⟩:=Option.bind_eq_some_iff.1 hl
 obtain⟨k,hk⟩:=Ey (P:=P) (w:=K.w) q2 (BD ht q1)
 obtain⟨q',q1',q2'⟩:=Option.bind_eq_some_iff.1 hcp
 obtain⟨k',hk'⟩:=Ey (P:=P) (w:=K.w) q2' (BD ht q1')
 have hu:=Nu he
 obtain⟨i,hi,rfl⟩:=Option.map_eq_some_iff.1 hb
 have hw1:IntKind.i64.wrap ln=ln:=IntWalk.i64_in _ (by omega)
 have hw2:IntKind.i64.wrap cp=cp:=IntWalk.i64_in _ (by omega)
 have hz0:=nN (K:=K) h1 (n:=cp.toNat) (l:=ln.toNat) (by omega)
 refine Es (K':=K.allocOwn (.cells ((Array.range (cp.toNat * zv.cells.size)).map (zv.cells[· % zv.cells.size]!)) e) cp.toNat) ?_ (CH K _ _) (DG H _ _ _ (Lo hz0 (by simp) (by rw[List.length_replicate]; omega) (fun i _=>by omega))) rfl (S9 (κ:=cp.toNat) (by omega))
 simp only[execOp,ho]
 apply FX
 have ht1:¬ (cp < 0∨(281474976710656:Int) < (i.bytes:Int) * cp):=by omega
 have hnil:∀ (n:Nat) (f:Nat→Value),n=0→(Array.range n).map f = #[]:=fun n f e0=>by subst e0; simp
 have hcond:((decide (cp < 0) || decide ((i.bytes:Int) * cp > 2 ^ 48)) || decide (ln < 0) || decide (ln > cp))=false:=by
  simp only[Bool.or_eq_false_iff,decide_eq_false_iff_not]
  omega
 by_cases e0:cp.toNat * zv.cells.size=0
 · simp only[bA]
   rw[hnil _ _ e0]
   simp only[Instr.makeSlice,hk,hk',asInt,asIntOf,Sem.run_map,Sem.run_bind,run_underlying hu,Result.andThen_ok,Sem.run_pure,typeInfo,run_program,hi,hw1,hw2,hcond,Bool.false_eq_true,if_false,run_askRoom,Cb hs,if_pos e0]
   rw[hnil _ _ e0]
   simp only[newRow,Sem.run_bind,run_newObj_alloc,Result.andThen_ok,Sem.run_pure]
 · simp only[Instr.makeSlice,hk,hk',asInt,asIntOf,Sem.run_map,Sem.run_bind,run_underlying hu,Result.andThen_ok,Sem.run_pure,typeInfo,run_program,hi,hw1,hw2,hcond,Bool.false_eq_true,if_false,run_askRoom,Cb hs,if_neg e0,hrun]
   simp only[newRow,Sem.run_bind,run_newObj_alloc,Result.andThen_ok,Sem.run_pure]
   rfl
end
end Go.Vm
namespace Go.Vm
open Go
section
variable {P:Program} {K:Cx} {base:Nat} {h:AW} {t:List AV} {a:Act}
theorem PH {K:Cx} {b sz:Nat}:∀ {rows:List (List AV)} {o:Nat},(∀ (i:Nat) (r:List AV),rows[i]? = some r→r.length=sz∧Nq K b (o + i * sz) r)→Nq K b o rows.flatten
 | [],o,_=>fun j c hj=>by simp at hj
 | r :: rs,o,h=>by
  obtain⟨h1,h2⟩:=h 0 r rfl
  have ih:=PH (rows:=rs) (o:=o + sz) (fun i q hq=>by
   obtain⟨k1,k2⟩:=h (i + 1) q (by simpa using hq)
   exact⟨k1,by rw[show o + sz + i * sz=o + (i + 1) * sz by rw[Nat.succ_mul]; omega]; exact k2⟩)
  intro j c hj
  rw[List.flatten_cons] at hj
  by_cases hlt:j < r.length
  · rw[List.getElem?_append_left hlt] at hj
    have:=h2 j c hj
    simpa using this
  · rw[List.getElem?_append_right (by omega)] at hj
    obtain⟨v,e1,e2⟩:=ih (j - r.length) c hj
    refine⟨v,?_,e2⟩
    rw[show o + j=o + sz + (j - r.length) by omega]
    exact e1
theorem Lw {sz:Nat}:∀ {rows:List (List AV)},(∀ (i:Nat) (r:List AV),rows[i]? = some r→r.length=sz)→rows.flatten.length=rows.length * sz
 | [],_=>by simp
 | r :: rs,h=>by
  have h1:=h 0 r rfl
  have h2:=Lw (rows:=rs) (fun i q hq=>h (i + 1) q (by simpa using hq))
  rw[List.flatten_cons,List.length_append,h1,h2,List.length_cons,Nat.succ_mul]
  omega
theorem Lh (H:BW K base h) {sz:Nat} {v:AV} {rows:List (List AV)} (hr:Bn h sz v=some rows) (hns:∀ b,v ≠ .s (.string b)) {x:Value} (hx:As K v x) :
 ∃ A c,x = .slice A rows.length c∧(rows=[]∨∃ b o,A=some ⟨b,o,none⟩∧∀ (i:Nat) (r:List AV),rows[i]? = some r→r.length=sz∧Nq K b (o + i * sz) r):=by
 unfold Bn at hr
 split at hr
 · cases hr
   simp only[As] at hx
   exact⟨none,0,hx,.inl rfl⟩
 · cases hr
   simp only[As] at hx
   obtain⟨A,e,_⟩:=hx
   exact⟨A,0,e,.inl rfl⟩
 · rename_i sz' rows'
   split at hr
   · rename_i hc
     cases hr
     simp only[As] at hx
     obtain⟨A,cap,e,_,_,h2⟩:=hx
     refine⟨A,cap,e,?_⟩
     rcases h2 with h2 | ⟨b,o,e2,h2⟩
     · exact .inl h2
     · rcases hc with rfl | hc
       · exact .inr ⟨b,o,e2,fun i r hi=>⟨(h2.row hi).1,(h2.row hi).2.lies⟩⟩
       · exact .inl hc
   · cases hr
 · rename_i id off len sz'
   split at hr
   · rename_i e
     subst e
     split at hr
     · rename_i sz'' rows' hid
       split at hr
       · rename_i hc
         obtain⟨rfl,hlen⟩:=hc
         cases hr
         simp only[As] at hx
         obtain⟨hlt,A,cap,e,h2,h3,h4⟩:=hx
         have hl:((rows'.drop off).take len).length=len:=by rw[List.length_take,List.length_drop]; omega
         refine⟨some A,cap,by rw[hl]; exact e,?_⟩
         by_cases h0:len=0
         · left; rw[h0]; rfl
         · right
           have h5:A=⟨(K.ι id).1,((K.ι id).2.1 + off) * sz'',none⟩:=by
            rcases h4 with h4 | h4
            · omega
            · exact h4
           refine⟨(K.ι id).1,((K.ι id).2.1 + off) * sz'',by rw[h5],fun i r hi=>?_⟩
           have hil:i < len:=by
            have:=(List.getElem?_eq_some_iff.1 hi).1
            omega
           rw[List.getElem?_take_of_lt hil,List.getElem?_drop] at hi
           have hrow:Kh h id (off + i) sz'' = some r:=by simp only[Kh,hid,if_true,hi]
           obtain⟨arr,T,fz,g1,g2,g3,g4,g5⟩:=H.obj id _ hid
           refine⟨(g5 _ r hi).1,?_⟩
           have:=QG H hrow
           rw[← Nat.add_mul,Nat.add_assoc]
           exact this
       · cases hr
     · cases hr
   · cases hr
 · rename_i b
   exact absurd rfl (hns b)
 · cases hr
theorem AEr (H:BW K base h) {sz:Nat} {v:AV} {rows:List (List AV)} (hr:Bn h sz v=some rows) {x:Value} (hx:As K v x) :
 ∃ news:List Value,(∀ w,(Builtin.lenOf x).run P w = .ok rows.length w)∧(∀ w',w'.heap=K.w.heap→(Builtin.firstCells sz rows.length x).run P w' = .ok news.toArray w')∧news.length=rows.length * sz∧VRels K rows.flatten news∧(∀ u∈news,u.oneCell' = true) ∧
  ∀ (i:Nat) (r:List AV),rows[i]? = some r→r.length=sz:=by
 by_cases hs:∃ b,v = .s (.string b)
 · obtain⟨b,rfl⟩:=hs
   simp only[As] at hx
   subst hx
   simp only[Bn] at hr
   split at hr
   · rename_i e
     subst e
     cases hr
     refine⟨b.data.toList.map fun x=>.int .u8 x.toNat,fun w=>?_,fun w' hw=>?_,by simp,?_,fun u hu=>?_,fun i r hi=>?_⟩
     · simp[Builtin.lenOf]
     · simp only[Builtin.firstCells,Sem.run_pure,List.length_map]
       congr 1
       have:b.extract 0 b.data.toList.length=b:=by
        have hl:b.data.toList.length=b.size:=by simp
        rw[hl]
        apply ByteArray.ext
        simp[ByteArray.data_extract]
       rw[this]
       apply Array.ext'
       simp
     · have hm:∀ (l:List UInt8),VRels K (l.map fun x=>[AV.s (.int .u8 x.toNat)]).flatten (l.map fun x=>.int .u8 x.toNat):=by
        intro l
        induction l with
        | nil=>simp[VRels]
        | cons c l ih=>
         simp only[List.map_cons,List.flatten_cons,List.cons_append,List.nil_append,VRels,As]
         exact⟨trivial,ih⟩
       exact hm _
     · simp only[List.mem_map] at hu
       obtain⟨c,_,rfl⟩:=hu
       rfl
     · rw[List.getElem?_map] at hi
       obtain⟨c,_,rfl⟩:=Option.map_eq_some_iff.1 hi
       rfl
   · cases hr
 · obtain⟨A,c,rfl,h2⟩:=Lh H hr (fun b e=>hs ⟨b,e⟩) hx
   rcases h2 with rfl | ⟨b,o,rfl,h2⟩
   · refine⟨[],fun w=>rfl,fun w' hw=>?_,by simp,by simp[VRels],fun u hu=>by simp at hu,fun i r hi=>by simp at hi⟩
     cases A <;> simp[Builtin.firstCells,loadCells,loadCellsFrom]
   · have hl:=PH h2
     obtain⟨vs,k1,k2,k3⟩:=hl.vals
     have hlen:vs.length=rows.length * sz:=by
      rw[← k1.length,Lw (fun i r hi=>(h2 i r hi).1)]
     refine⟨vs,fun w=>rfl,fun w' hw=>?_,hlen,k1,k3,fun i r hi=>(h2 i r hi).1⟩
     exact run_firstCells_some w' sz rows.length ⟨b,o,none⟩ rows.length c vs hlen (fun j u hj=>by
      rw[GT]
      exact O1 (k2 j u hj) (by rw[hw]))
theorem VY:∀ {rows:List (List AV)} {bs:List UInt8},F4 rows=some bs→∃ ns:List Int,rows=ns.map (fun n=>[AV.s (.int .u8 n)])∧bs=ns.map fun n=>UInt8.ofNat n.toNat
 | [],bs,h=>by
  simp only[F4,Option.some.injEq] at h
  subst h
  exact⟨[],rfl,rfl⟩
 | r :: rs,bs,h=>by
  unfold F4 at h
  split at h
  · rename_i e; cases e
  · rename_i n rest e
    cases e
    split at h
    · rename_i bs' h2
      cases h
      obtain⟨ns,e1,e2⟩:=VY h2
      exact⟨n :: ns,by rw[e1]; rfl,by rw[e2]; rfl⟩
    · cases h
  · cases h
theorem y6 (H:BW K base h) (ht:VRels K t a.tmps.toList) {o:Oper} {src dst e:TypeId} {x:Operand} (ho:o.op = .convert src dst x) {v:AV} (hx:A0 t x=some v) (hns:∀ b,v ≠ .s (.string b)) (hs:P.underlying src=some (.slice e)) (he:P.underlying e=some (.int .u8)) (hd:P.underlying dst=some .string)
 {bs:List UInt8} (hb:(Bn h 1 v).bind F4=some bs):DZ K base h (K.c + 1) (.s (.string ⟨bs.toArray⟩)) ((execOp a.eval o).run P K.w):=by
 obtain⟨rows,h1,h2⟩:=Option.bind_eq_some_iff.1 hb
 obtain⟨A,c,e1,h3⟩:=Lh H h1 hns (BD ht hx)
 obtain⟨ns,rfl,rfl⟩:=VY h2
 refine Wy H (x:=.string (strOfNums ns)) ?_ (by simp[As,strOfNums])
 simp only[execOp,ho,e1]
 apply FX
 rcases h3 with h3 | ⟨b,p,rfl,h3⟩
 · have h4:ns=[]:=by simpa using h3
   subst h4
   cases A with
   | none=>
    have:=run_convert_bytes_nil (P:=P) K.w src e hs he 0 c dst hd
    have hE:ByteArray.empty=(⟨#[]⟩:ByteArray):=rfl
    rw[hE] at this
    simpa[strOfNums] using this
   | some A=>
    rw[run_convert_bytes_string K.w src dst e _ _ _ hs he hd]
    have:=run_bytesToString (P:=P) K.w A 0 c [] (by simp[loadCells,loadCellsFrom])
    have hE:ByteArray.empty=(⟨#[]⟩:ByteArray):=rfl
    rw[hE] at this
    simpa[strOfNums] using this
 · have hl:(ns.map fun n=>[AV.s (.int .u8 n)]).length=ns.length:=by simp
   rw[hl]
   refine run_convert_bytes_arg K.w src e hs he b p ns.length c ns rfl (fun i hi=>?_) dst hd
   have hg:(ns.map fun n=>[AV.s (.int .u8 n)])[i]? = some [AV.s (.int .u8 ns[i])]:=by simp[hi]
   obtain⟨_,h5⟩:=h3 i _ hg
   obtain⟨u,k1,k2,k3⟩:=h5 0 _ rfl
   simp only[As] at k3
   rw[k3] at k1
   simp only[Nat.mul_one,Nat.add_zero] at k1
   rw[k1]
   simp[hi]
theorem n9 (w:World) (arr:Array Value) (T:TypeId):(w.alloc (.cells arr T)).freeze ⟨w.heap.size,arr.size,none⟩ 1=w.alloc (.cells arr T (arr.size,arr.size + 1)):=by
 unfold World.freeze
 simp only[Nat.one_ne_zero,if_false]
 simp only[World.alloc]
 congr 1
 apply Array.ext_getElem?
 intro i
 rw[Array.getElem?_modify,Array.getElem?_push,Array.getElem?_push]
 by_cases e:w.heap.size=i
 · rw[if_pos e,if_pos e.symm,if_pos e.symm]
   simp
 · rw[if_neg e,if_neg (Ne.symm e),if_neg (Ne.symm e)]
theorem oH (H:BW K base h) (ht:VRels K t a.tmps.toList) {o:Oper} {src dst e:TypeId} {x:Operand} (ho:o.op = .convert src dst x) {b:ByteArray} (hx:A0 t x=some (.s (.string b))) {sd:TypeDesc} (hs:P.underlying src=some sd) (hd:P.underlying dst=some (.slice e)) (he:P.underlying e=some (.int .u8))
 {i:TypeInfo} (hi:P.info? e=some i) (hc:i.size=1∧b.size≤9223372036854775807) :
 DZ K base (h.upd (CT K.c 1 (b.data.toList.map fun x=>[AV.s (.int .u8 x.toNat)]))) (K.c + 1) (.osl K.c 0 b.size 1) ((execOp a.eval o).run P K.w):=by
 have hr:=BD ht hx
 simp only[As] at hr
 have hge:=grownCap_ge K.w b.size 0 e
 generalize hcap:grownCap K.w b.size 0 e=cap at hge
 let arr:Array Value:=(b.data.map fun b=>Value.int .u8 b.toNat) ++ Array.replicate (cap - b.size) (.int .u8 0)
 have hbs:b.data.size=b.size:=rfl
 have hsz:arr.size=cap:=by simp[arr,hbs]; omega
 let K1:Cx:={ K with w:=K.w.drew }
 have S1:K.Step K1:=Jw K K.w.drew K.c (Nat.le_refl _) rfl rfl rfl rfl
 have H1:BW K1 base h:=Ll H K.w.drew K.c (Nat.le_refl _) rfl rfl rfl rfl
 have hrows:LP K1 arr 1 (b.data.toList.map fun x=>[AV.s (.int .u8 x.toNat)]):=by
  intro k r hk
  rw[List.getElem?_map] at hk
  obtain⟨c,hc',rfl⟩:=Option.map_eq_some_iff.1 hk
  refine⟨rfl,fun j d hj=>?_⟩
  cases j with
  | succ j=>simp at hj
  | zero=>
   simp at hj
   subst hj
   refine⟨.int .u8 c.toNat,?_,rfl,by simp[As]⟩
   have hkl:k < b.data.size:=by simpa using (List.getElem?_eq_some_iff.1 hc').1
   have:(b.data.map fun b=>Value.int .u8 b.toNat)[k]? = some (.int .u8 c.toNat):=by
    rw[Array.getElem?_map]
    have:b.data[k]? = some c:=by simpa using hc'
    rw[this]; rfl
   simp only[Nat.mul_one,Nat.add_zero,arr]
   rw[Array.getElem?_append_left (by simpa using hkl)]
   exact this
 refine Es (K':=K1.allocOwn (.cells arr e (arr.size,arr.size + 1)) cap) (x:=.slice (some ⟨K.w.heap.size,0,none⟩) b.size cap) ?_ (S1.trans (CH K1 _ _)) (DG H1 _ _ _ (Lo hrows (by omega) (by simp[hbs]; omega) (fun i hi=>by simp; omega))) rfl (S9 (K:=K1) hge)
 simp only[execOp,ho,hr]
 apply FX
 have hf:(Question.appendCap b.size 0 e).forced=false:=rfl
 have hsh:(K.w.drew.alloc (.cells arr e)).shape? K.w.heap.size=some (e,arr.size):=by
  simp only[World.shape?]
  have:=World.alloc_heap_new K.w.drew (.cells arr e)
  rw[show K.w.drew.heap.size=K.w.heap.size from rfl] at this
  rw[this]
 have hcv:(convert src dst (.string b)).run P K.w=(Conv.stringToBytes e b).run P K.w:=by
  cases sd <;> simp[convert,run_underlying hs,run_underlying hd,run_underlying he]
 have hfz:=n9 K.w.drew arr e
 rw[show K.w.drew.heap.size=K.w.heap.size from rfl] at hfz
 rw[hcv]
 unfold Conv.stringToBytes
 simp only[Sem.run_bind,run_choose,hf,Bool.false_eq_true,if_false,Result.andThen_ok]
 have hcap':(Question.appendCap b.size 0 e).cut (K.w.tape K.w.drawn (.appendCap b.size 0 e))=cap:=hcap
 rw[hcap']
 simp only[newRow,Sem.run_bind,run_newObj_alloc,Result.andThen_ok,Sem.run_pure,markStringish,run_shape]
 have hsh':(World.alloc { K.w with drawn:=K.w.drawn + 1 } (.cells arr e)).shape? K.w.heap.size=some (e,arr.size):=hsh
 rw[hsh']
 simp only[run_freeze,Result.andThen_ok]
 have hfz':(World.alloc { K.w with drawn:=K.w.drawn + 1 } (.cells arr e)).freeze ⟨K.w.heap.size,arr.size,none⟩ 1=K.w.drew.alloc (.cells arr e (arr.size,arr.size + 1)):=hfz
 rw[hfz']
 rfl
end
end Go.Vm
namespace Go.Vm
open Go
section
variable {P:Program} {K:Cx} {base:Nat} {h:AW} {t:List AV} {a:Act}
def yK (K:Cx) (arr:Array Value) (q sz:Nat) (rows:List (List AV)):Prop:=∀ (i:Nat) (r:List AV),rows[i]? = some r→r.length=sz∧Lr K arr ((q + i) * sz) r
theorem RU {sz:Nat}:∀ {rows:List (List AV)},(∀ (i:Nat) (r:List AV),rows[i]? = some r→r.length=sz)→∀ {i j:Nat} {r:List AV} {c:AV},rows[i]? = some r→r[j]? = some c→rows.flatten[i * sz + j]? = some c
 | [],_,i,j,r,c,hi,_=>by simp at hi
 | q :: qs,h,0,j,r,c,hi,hj=>by
  simp at hi
  subst hi
  rw[List.flatten_cons,Nat.zero_mul,Nat.zero_add,List.getElem?_append_left (List.getElem?_eq_some_iff.1 hj).1]
  exact hj
 | q :: qs,h,i + 1,j,r,c,hi,hj=>by
  simp at hi
  have h0:=h 0 q rfl
  have ih:=RU (rows:=qs) (fun k r hk=>h (k + 1) r (by simpa using hk)) hi hj
  rw[List.flatten_cons,List.getElem?_append_right (by rw[h0,Nat.succ_mul]; omega),h0,show (i + 1) * sz + j - sz=i * sz + j by rw[Nat.succ_mul]; omega]
  exact ih
theorem VJ {K:Cx} {arr:Array Value} {q sz:Nat} {R N:List (List AV)} {vs:List Value} {m:Nat} (hR:yK K arr q sz R) (hm:m≤R.length) (hN:∀ (i:Nat) (r:List AV),N[i]? = some r→r.length=sz) (hv:VRels K N.flatten vs) (h1:∀ v∈vs,v.oneCell' = true)
 (hl:vs.length=N.length * sz) (hfit:(q + m) * sz + vs.length≤arr.size):yK K (Hd arr ((q + m) * sz) vs) q sz (R.take m ++ N ++ R.drop (m + N.length)):=by
 have htl:(R.take m).length=m:=by simp; omega
 intro i r hi
 rw[List.append_assoc] at hi
 by_cases g1:i < m
 · rw[List.getElem?_append_left (by omega),List.getElem?_take_of_lt g1] at hi
   obtain⟨k1,k2⟩:=hR i r hi
   refine⟨k1,fun j c hj=>?_⟩
   obtain⟨v,e1,e2⟩:=k2 j c hj
   have hjl:j < sz:=by rw[← k1]; exact (List.getElem?_eq_some_iff.1 hj).1
   have:(q + i + 1) * sz≤(q + m) * sz:=Nat.mul_le_mul_right sz (by omega)
   rw[Nat.succ_mul] at this
   exact⟨v,by rw[Hn hfit,if_pos (by omega)]; exact e1,e2⟩
 · rw[List.getElem?_append_right (by omega),htl] at hi
   by_cases g2:i - m < N.length
   · rw[List.getElem?_append_left g2] at hi
     have k1:=hN _ r hi
     refine⟨k1,fun j c hj=>?_⟩
     have hjl:j < sz:=by rw[← k1]; exact (List.getElem?_eq_some_iff.1 hj).1
     obtain⟨v,e1,e2⟩:=hv.get (RU hN hi hj)
     have hx:(q + i) * sz=(q + m) * sz + (i - m) * sz:=by rw[← Nat.add_mul]; congr 1; omega
     have hlt:(i - m) * sz + j < vs.length:=(List.getElem?_eq_some_iff.1 e1).1
     refine⟨v,?_,h1 v (List.mem_of_getElem? e1),e2⟩
     rw[Hn hfit,if_neg (by omega),if_pos (by omega),show (q + i) * sz + j - (q + m) * sz=(i - m) * sz + j by omega]
     exact e1
   · rw[List.getElem?_append_right (by omega),List.getElem?_drop,show m + N.length + (i - m - N.length)=i by omega] at hi
     obtain⟨k1,k2⟩:=hR i r hi
     refine⟨k1,fun j c hj=>?_⟩
     obtain⟨v,e1,e2⟩:=k2 j c hj
     have:(q + m + N.length) * sz≤(q + i) * sz:=Nat.mul_le_mul_right sz (by omega)
     rw[Nat.add_mul (q + m)] at this
     exact⟨v,by rw[Hn hfit,if_neg (by omega),if_neg (by omega)]; exact e1,e2⟩
theorem VK {K:Cx} {olds news:List Value} {z:Array Value} {sz:Nat} {R N:List (List AV)} (hR:∀ (i:Nat) (r:List AV),R[i]? = some r→r.length=sz) (hvR:VRels K R.flatten olds) (h1R:∀ v∈olds,v.oneCell' = true) (hlR:olds.length=R.length * sz)
 (hN:∀ (i:Nat) (r:List AV),N[i]? = some r→r.length=sz) (hvN:VRels K N.flatten news) (h1N:∀ v∈news,v.oneCell' = true) (hlN:news.length=N.length * sz) :
 LP K (olds.toArray ++ news.toArray ++ z) sz (R ++ N):=by
 have hall:∀ (i:Nat) (r:List AV),(R ++ N)[i]? = some r→r.length=sz:=fun i r hi=>by
  by_cases g:i < R.length
  · rw[List.getElem?_append_left g] at hi; exact hR i r hi
  · rw[List.getElem?_append_right (by omega)] at hi; exact hN _ r hi
 have hv:VRels K (R ++ N).flatten (olds ++ news):=by rw[List.flatten_append]; exact hvR.append hvN
 intro i r hi
 refine⟨hall i r hi,fun j c hj=>?_⟩
 obtain⟨v,e1,e2⟩:=hv.get (RU hall hi hj)
 refine⟨v,?_,?_,e2⟩
 · have hlt:=(List.getElem?_eq_some_iff.1 e1).1
   rw[Array.getElem?_append_left (by simpa using hlt)]
   rw[← e1]
   simp
 · rcases List.mem_append.1 (List.mem_of_getElem? e1) with hm | hm
   · exact h1R v hm
   · exact h1N v hm
section
variable {tx ty' e:TypeId} {sz n:Nat} {x:Value} {news:List Value}
theorem Ra {d:TypeDesc} (hk:∀ k,d ≠ .int k):(match d with | .int _=>true | _=>false)=false:=by
 cases d <;> first | rfl | exact absurd rfl (hk _)
theorem kS {w w':World} {ats:Array TypeId} {ty:TypeId} (ha:ats.toList=[tx,ty']) (hu:P.underlying tx=some (.slice e)) (hs:CQ P e=some sz) {d:TypeDesc} (hd:P.underlying ty' = some d) (hk:∀ k,d ≠ .int k)
 (hn:∀ w,(Builtin.lenOf x).run P w = .ok n w) (hc:(Builtin.firstCells sz n x).run P w = .ok news.toArray w) {A:Addr} {l c:Nat} (hlc:l + n≤c) (hst:(storeCells (A.add (l * sz)) news).run P w = .ok () w') :
 (Builtin.append_ ats ty #[.slice (some A) l c,x]).run P w = .ok (.slice (some A) (l + n) c) w':=by
 have ha':ats = #[tx,ty']:=by apply Array.ext'; rw[ha]
 subst ha'
 unfold Builtin.append_
 simp only[List.getElem?_toArray,List.getElem?_cons_zero,List.getElem?_cons_succ,Sem.run_bind,run_underlying hu,run_underlying hd,Result.andThen_ok,Cb hs,Sem.run_pure,Ra hk,Bool.false_eq_true,if_false,hn,if_pos hlc,Bool.not_false,if_true,hc,hst]
theorem aD {w:World} {ats:Array TypeId} {ty:TypeId} (ha:ats.toList=[tx,ty']) (hu:P.underlying tx=some (.slice e)) (hs:CQ P e=some sz) {d:TypeDesc} (hd:P.underlying ty' = some d) (hk:∀ k,d ≠ .int k)
 (hn:∀ w,(Builtin.lenOf x).run P w = .ok 0 w) (hc:(Builtin.firstCells sz 0 x).run P w = .ok #[] w) {A:Option Addr} {l c:Nat} (hlc:l≤c) :
 (Builtin.append_ ats ty #[.slice A l c,x]).run P w = .ok (.slice A l c) w:=by
 have ha':ats = #[tx,ty']:=by apply Array.ext'; rw[ha]
 subst ha'
 unfold Builtin.append_
 simp only[List.getElem?_toArray,List.getElem?_cons_zero,List.getElem?_cons_succ,Sem.run_bind,run_underlying hu,run_underlying hd,Result.andThen_ok,Cb hs,Sem.run_pure,Ra hk,Bool.false_eq_true,if_false,hn,Nat.add_zero,if_pos hlc,Bool.not_false,if_true,hc]
 cases A with
 | none=>rfl
 | some A=>simp only[storeCells,Sem.run_pure,Sem.run_bind,Result.andThen_ok]
theorem Sg {w:World} {ats:Array TypeId} {ty:TypeId} (ha:ats.toList=[tx,ty']) (hu:P.underlying tx=some (.slice e)) (hs:CQ P e=some sz) {i:TypeInfo} (hi:P.info? e=some i) {z:Value} (hz:∀ w,(zeroValue e).run P w = .ok z w) {d:TypeDesc} (hd:P.underlying ty' = some d) (hk:∀ k,d ≠ .int k)
 (hn:∀ w,(Builtin.lenOf x).run P w = .ok n w) (hc:(Builtin.firstCells sz n x).run P w.drew = .ok news.toArray w.drew) {A:Option Addr} {l c:Nat} (hlc:¬ (l + n≤c)) {olds:List Value} (ho:(Builtin.firstCells sz l (.slice A l c)).run P w.drew = .ok olds.toArray w.drew)
 (h63:l + n≤9223372036854775807) (h48:Builtin.nextslicecap (l + n) c * i.bytes≤281474976710656) :
 (Builtin.append_ ats ty #[.slice A l c,x]).run P w = .ok (.slice (some ⟨w.heap.size,0,none⟩) (l + n) (grownCap w (l + n) c e)) (w.drew.alloc (.cells (olds.toArray ++ news.toArray ++ Builtin.zeroCells z.cells (grownCap w (l + n) c e - (l + n))) e)):=by
 have ha':ats = #[tx,ty']:=by apply Array.ext'; rw[ha]
 subst ha'
 have c1:¬ (((l + n:Nat):Int) > IntKind.i64.max∧(false=true∨i.bytes=0)):=by
  rintro⟨h,_⟩
  have:IntKind.i64.max=9223372036854775807:=rfl
  omega
 have c1':¬ (((l + n:Nat):Int) > IntKind.i64.max∧(False∨i.bytes=0)):=by
  rintro⟨h,_⟩
  have:IntKind.i64.max=9223372036854775807:=rfl
  omega
 have c2:¬ (Builtin.nextslicecap (l + n) c * i.bytes > 2 ^ 48):=by omega
 have hf:(Question.appendCap (l + n) c e).forced=false:=rfl
 have hcap:(Question.appendCap (l + n) c e).cut (w.tape w.drawn (.appendCap (l + n) c e))=grownCap w (l + n) c e:=rfl
 have hw:({ w with drawn:=w.drawn + 1 }:World)=w.drew:=rfl
 unfold Builtin.append_
 simp only[List.getElem?_toArray,List.getElem?_cons_zero,List.getElem?_cons_succ,Sem.run_bind,run_underlying hu,run_underlying hd,Result.andThen_ok,Cb hs,Sem.run_pure,Ra hk,Bool.false_eq_true,if_false,hn,if_neg hlc,Bool.not_false,if_true,
  typeInfo,run_program,hi,if_neg c1',if_neg c2,run_choose,hf,hcap,hw,run_askRoom,hc,ho,hz,newRow,run_newObj_alloc]
 rfl
end
theorem AEW (H:BW K base h) {id off len sz:Nat} {rows:List (List AV)} (hid:h id=some (.rows sz rows)) (hle:off + len≤rows.length) {A:Addr} {cap:Nat} (hA:A=⟨(K.ι id).1,((K.ι id).2.1 + off) * sz,none⟩∨len=0) :
 ∃ olds:List Value,(∀ w',w'.heap=K.w.heap→(Builtin.firstCells sz len (.slice (some A) len cap)).run P w' = .ok olds.toArray w')∧olds.length=len * sz∧VRels K ((rows.drop off).take len).flatten olds∧(∀ u∈olds,u.oneCell' = true) ∧
  ∀ (i:Nat) (r:List AV),((rows.drop off).take len)[i]? = some r→r.length=sz:=by
 obtain⟨arr,T,fz,g1,g2,g3,g4,g5⟩:=H.obj id _ hid
 have hrow:∀ (i:Nat) (r:List AV),((rows.drop off).take len)[i]? = some r→r.length=sz∧Nq K (K.ι id).1 (((K.ι id).2.1 + off) * sz + i * sz) r:=by
  intro i r hi
  have hil:i < len:=by
   have:=(List.getElem?_eq_some_iff.1 hi).1
   rw[List.length_take] at this; omega
  rw[List.getElem?_take_of_lt hil,List.getElem?_drop] at hi
  have hra:Kh h id (off + i) sz=some r:=by simp only[Kh,hid,if_true,hi]
  refine⟨(g5 _ r hi).1,?_⟩
  rw[← Nat.add_mul,Nat.add_assoc]
  exact QG H hra
 have hll:((rows.drop off).take len).length=len:=by rw[List.length_take,List.length_drop]; omega
 obtain⟨vs,k1,k2,k3⟩:=(PH hrow).vals
 have hlen:vs.length=len * sz:=by
  rw[← k1.length,Lw (fun i r hi=>(hrow i r hi).1),hll]
 refine⟨vs,fun w' hw=>?_,hlen,k1,k3,fun i r hi=>(hrow i r hi).1⟩
 rcases hA with rfl | rfl
 · exact run_firstCells_some w' sz len _ len cap vs hlen (fun j u hj=>by
    rw[GT]
    exact O1 (k2 j u hj) (by rw[hw]))
 · have:vs=[]:=List.eq_nil_of_length_eq_zero (by omega)
   subst this
   simp[Builtin.firstCells,loadCells,loadCellsFrom]
theorem RV (H:BW K base h) (ht:VRels K t a.tmps.toList) {o:Oper} {x y:Operand} {args:Array Operand} {ats:Array TypeId} {tx ty e:TypeId} {d:TypeDesc} (ho:o.op = .call { callee:=.builtin .append,args:=args,argTypes:=ats }) (ha:args.toList=[x,y]) (hat:ats.toList=[tx,ty])
 {u v r:AV} {us:Ups} (hx:A0 t x=some u) (hyv:As K v (a.eval y)) (hu:P.underlying tx=some (.slice e)) (hd:P.underlying ty=some d) (hk:∀ k,d ≠ .int k) (hr:Br P h K.c e u v=some (r,us)) :
 DZ K base (h.upd us) (K.c + 1) r ((execOp a.eval o).run P K.w):=by
 have ha':args = #[x,y]:=by apply Array.ext'; rw[ha]
 have hex:∀ {v':Value} {w':World},(Builtin.append_ ats o.type #[a.eval x,a.eval y]).run P K.w = .ok v' w'→(execOp a.eval o).run P K.w = .ok (.value v') w':=fun {v' w'} he=>by
  simp only[execOp,ho,ha',resolve,List.map_toArray,List.map_cons,List.map_nil,Sem.run_bind,Sem.run_pure,Result.andThen_ok,invoke,builtin,he]
 unfold Br at hr
 simp only[Option.bind_eq_bind,Option.bind_eq_some_iff] at hr
 obtain⟨sz,hsz,b,hb,news,hnews,zs,hzs,hr⟩:=hr
 obtain⟨z,hzrun,rfl,hz1⟩:=JI hzs
 obtain⟨i,hi,rfl⟩:=Option.map_eq_some_iff.1 hb
 obtain⟨nv,n1,n2,n3,n4,n5,n6⟩:=AEr (P:=P) H hnews hyv
 have hux:=BD ht hx
 split at hr
 · cases hr
 rename_i hsz0
 have hzsz:z.cells.size=sz:=by
  have:¬ ((z.cells.toList.map AV.s).length≠sz):=fun hx=>hsz0 (.inr hx)
  simpa using this
 split at hr
 · rename_i hne
   subst hne
   have hnv:nv=[]:=List.eq_nil_of_length_eq_zero (by simpa using n3)
   subst hnv
   have key:∀ (A:Option Addr) (l c:Nat),l≤c→a.eval x = .slice A l c→As K r (.slice A l c)→us=[]→DZ K base (h.upd us) (K.c + 1) r ((execOp a.eval o).run P K.w):=by
    intro A l c hlc hs hv hus
    subst hus
    refine Wy H (hex ?_) hv
    rw[hs]
    exact aD hat hu hsz hd hk (fun w=>n1 w) (n2 K.w rfl) hlc
   split at hr
   · cases hr
     have hux':=hux
     simp only[As] at hux
     exact key none 0 0 (Nat.le_refl _) hux (by simp[As]) rfl
   · cases hr
     have hux':=hux
     simp only[As] at hux
     obtain⟨A,hA⟩:=hux
     exact key A 0 0 (Nat.le_refl _) hA.1 (by rw[← hA.1]; exact hux') rfl
   · cases hr
     have hux':=hux
     simp only[As] at hux
     obtain⟨hlt,A,cap,hA,_,h3,_⟩:=hux
     exact key (some A) _ cap h3 hA (by rw[← hA]; exact hux') rfl
   · cases hr
 · rename_i hne
   have hpos:0 < news.length:=by
    cases news with
    | nil=>exact absurd rfl hne
    | cons=>simp
   have hdrew:K.w.drew.heap=K.w.heap:=rfl
   let K1:Cx:={ K with w:=K.w.drew }
   have S1:K.Step K1:=Jw K K.w.drew K.c (Nat.le_refl _) rfl rfl rfl rfl
   have H1:BW K1 base h:=Ll H K.w.drew K.c (Nat.le_refl _) rfl rfl rfl rfl
   have fresh:∀ (A:Option Addr),a.eval x = .slice A 0 0→(if news.length * i.bytes≤140737488355328∧news.length≤9223372036854775807 then some (AV.osl K.c 0 news.length sz,CT K.c sz news) else none)=some (r,us)→DZ K base (h.upd us) (K.c + 1) r ((execOp a.eval o).run P K.w):=by
    intro A hA hr
    split at hr
    case isFalse=>cases hr
    rename_i hc
    cases hr
    have hcap:=grownCap_ge K.w (0 + news.length) 0 e
    have hold:(Builtin.firstCells sz 0 (.slice A 0 0)).run P K.w.drew = .ok ([]:List Value).toArray K.w.drew:=by
     cases A <;> simp[Builtin.firstCells,loadCells,loadCellsFrom]
    have hrun:=Sg (ty:=o.type) (w:=K.w) (A:=A) (l:=0) (c:=0) hat hu hsz hi hzrun hd hk n1 (n2 K.w.drew hdrew) (by omega) hold (by omega) (by rw[Nat.zero_add,nextslicecap_zero hpos]; omega)
    rw[Nat.zero_add] at hrun hcap
    have hR:=VK (K:=K1) (sz:=sz) (R:=[]) (N:=news) (olds:=[]) (news:=nv) (z:=Builtin.zeroCells z.cells (grownCap K.w news.length 0 e - news.length)) (fun i r hi=>by simp at hi) (by simp[VRels]) (fun v hv=>by simp at hv) (by simp) n6 (n4.mono S1.le) n5 n3
    rw[List.nil_append] at hR
    refine Es (K':=K1.allocOwn (.cells (([]:List Value).toArray ++ nv.toArray ++ Builtin.zeroCells z.cells (grownCap K.w news.length 0 e - news.length)) e) (grownCap K.w news.length 0 e)) (hex (by rw[hA]; exact hrun)) (S1.trans (CH K1 _ _)) (DG H1 _ _ _ (Lo hR ?_ hcap (fun i _=>by omega))) rfl (S9 (K:=K1) hcap)
    simp only[Array.size_append,List.size_toArray,List.length_nil,size_zeroCells,hzsz,n3,Nat.zero_add]
    rw[← Nat.add_mul]
    congr 1
    omega
   split at hr
   · simp only[As] at hux
     exact fresh none hux hr
   · simp only[As] at hux
     obtain⟨A,hA⟩:=hux
     exact fresh A hA.1 hr
   · rename_i id off len sz'
     simp only[As] at hux
     obtain⟨hlt,A,cap,hA,h2,h3,h4⟩:=hux
     split at hr
     case h_2=>cases hr
     rename_i sz'' rows hid
     split at hr
     case isFalse=>cases hr
     rename_i hc
     obtain⟨e1,e2,hle⟩:=hc
     subst e1
     subst e2
     obtain⟨arr,T,fz,g1,g2,g3,g4,g5⟩:=H.obj id _ hid
     have inplace:len + news.length≤cap→A=⟨(K.ι id).1,((K.ι id).2.1 + off) * sz'',none⟩→(K.ι id).2.1 * sz'' + (off + len + news.length) * sz''≤arr.size ∧
      (Builtin.append_ ats o.type #[a.eval x,a.eval y]).run P K.w = .ok (.slice (some A) (len + news.length) cap) (DT K.w (K.ι id).1 (.cells (Hd arr (((K.ι id).2.1 + off + len) * sz'') nv) T fz)):=by
      intro hroom hAe
      have hb1:((K.ι id).2.1 + off + len) * sz'' + nv.length≤arr.size:=by
       rw[g2,n3,← Nat.add_mul]
       exact Nat.mul_le_mul_right _ (by omega)
      refine⟨?_,?_⟩
      · rw[← Nat.add_mul,g2]
        exact Nat.mul_le_mul_right _ (by omega)
      · rw[hA]
        refine kS hat hu hsz hd hk n1 (n2 K.w rfl) hroom ?_
        rw[hAe,GT,← Nat.add_mul]
        have:=FE (P:=P) nv 0 (((K.ι id).2.1 + off + len) * sz'') arr K.w g1 g3 (by simpa using hb1) n5
        simpa using this
     split at hr
     · rename_i hfit
       cases hr
       have hAe:A=⟨(K.ι id).1,((K.ι id).2.1 + off) * sz'',none⟩:=by
        rcases h4 with h4 | h4
        · omega
        · exact h4
       obtain⟨hb0,hrun⟩:=inplace (by omega) hAe
       have hb1:((K.ι id).2.1 + (off + len)) * sz'' + nv.length≤arr.size:=by
        rw[g2,n3,← Nat.add_mul]
        exact Nat.mul_le_mul_right _ (by omega)
       have hR:=VJ (K:=K) (R:=rows) (N:=news) (q:=(K.ι id).2.1) (m:=off + len) g5 hle n6 n4 n5 n3 hb1
       have S2:K.Step (K.setB (K.ι id).1 (.cells (Hd arr (((K.ι id).2.1 + (off + len)) * sz'') nv) T fz)):=Jx (H.L id _ hid) g1 (fun R e=>by cases e)
       have hO:VT (K.setB (K.ι id).1 (.cells (Hd arr (((K.ι id).2.1 + (off + len)) * sz'') nv) T fz)) (K.ι id) (.rows sz'' (rows.take (off + len) ++ news ++ rows.drop (off + len + news.length))):=by
        refine⟨_,T,fz,EZ g1,by rw[Gn hb1,g2],by rw[Gn hb1]; exact g3,?_,fun k r hkr=>⟨(hR k r hkr).1,(hR k r hkr).2.mono S2.le⟩⟩
        simp only[List.length_append,List.length_take,List.length_drop]; omega
       have H2:=Nz H hid g1 (fun R e=>by cases e) _ hO
       have S3:=Jw (K.setB (K.ι id).1 (.cells (Hd arr (((K.ι id).2.1 + (off + len)) * sz'') nv) T fz)) (K.setB (K.ι id).1 (.cells (Hd arr (((K.ι id).2.1 + (off + len)) * sz'') nv) T fz)).w (K.c + 1) (Nat.le_succ _) rfl rfl rfl rfl
       have H3:=Ll H2 (K.setB (K.ι id).1 (.cells (Hd arr (((K.ι id).2.1 + (off + len)) * sz'') nv) T fz)).w (K.c + 1) (Nat.le_succ _) rfl rfl rfl rfl
       rw[Nat.add_assoc] at hrun
       refine Es (hex hrun) (S2.trans S3) H3 rfl ?_
       simp only[As]
       exact⟨Nat.lt_succ_of_lt hlt,A,cap,rfl,h2,by omega,.inr hAe⟩
     · split at hr
       case isFalse=>cases hr
       rename_i hnf hc
       cases hr
       by_cases hroom:len + news.length≤cap
       ·
         have hAe:A=⟨(K.ι id).1,((K.ι id).2.1 + off) * sz'',none⟩:=by
          rcases h4 with h4 | h4
          · omega
          · exact h4
         obtain⟨hb0,hrun⟩:=inplace hroom hAe
         have hb1:((K.ι id).2.1 + off + len) * sz'' + nv.length≤arr.size:=by
          rw[g2,n3,← Nat.add_mul]
          exact Nat.mul_le_mul_right _ (by omega)
         have hll:((rows.drop off).take len).length=len:=by rw[List.length_take,List.length_drop]; omega
         have hR0:yK K arr ((K.ι id).2.1 + off) sz'' ((rows.drop off).take len):=fun i r hi=>by
          have hil:i < len:=by
           have:=(List.getElem?_eq_some_iff.1 hi).1
           omega
          rw[List.getElem?_take_of_lt hil,List.getElem?_drop] at hi
          rw[Nat.add_assoc]
          exact g5 _ r hi
         have hR:=VJ (K:=K) (N:=news) (q:=(K.ι id).2.1 + off) (m:=len) hR0 (by omega) n6 n4 n5 n3 hb1
         rw[show List.take len ((rows.drop off).take len)=(rows.drop off).take len from List.take_of_length_le (by omega),show List.drop (len + news.length) ((rows.drop off).take len)=[] from List.drop_of_length_le (by omega),List.append_nil] at hR
         let K2:Cx:={ w:=DT K.w (K.ι id).1 (.cells (Hd arr (((K.ι id).2.1 + off + len) * sz'') nv) T fz),ι:=fun j=>if j=K.c then ((K.ι id).1,(K.ι id).2.1 + off,cap) else K.ι j,L:=K.L,X:=K.X,c:=K.c + 1 }
         have SB:=Jx (K:=K) (b:=(K.ι id).1) (o:=.cells (Hd arr (((K.ι id).2.1 + off + len) * sz'') nv) T fz) (H.L id _ hid) g1 (fun R e=>by cases e)
         have S2:K.Step K2:=⟨Nat.le_succ _,fun j hj=>by simp[K2,Nat.ne_of_lt hj],SB.os,SB.tape,SB.output,SB.size,SB.keep,rfl,SB.loops⟩
         have hιc:K2.ι K.c=((K.ι id).1,(K.ι id).2.1 + off,cap):=by simp[K2]
         have hO:VT K2 (K2.ι K.c) (.rows sz'' ((rows.drop off).take len ++ news)):=by
          rw[hιc]
          refine⟨_,T,fz,EZ g1,?_,by rw[Gn hb1]; exact g3,by rw[List.length_append,hll]; exact hroom,fun k r hkr=>⟨(hR k r hkr).1,(hR k r hkr).2.mono S2.le⟩⟩
          rw[Gn hb1,g2]
          show _=((K.ι id).2.1 + off + cap) * sz''
          rw[Nat.add_assoc,h2]
         have hdr:∀ j p,(h.put id none) j=some p→j≠id∧h j=some p:=fun j p hj=>by
          by_cases e:j=id
          · subst e; rw[AW.put_same] at hj; cases hj
          · rw[AW.put_other h e] at hj; exact⟨e,hj⟩
         have H2:BW K2 base ((h.put id none).put K.c (some (.rows sz'' ((rows.drop off).take len ++ news)))):=by
          refine (H.drop id).put S2 K.c _ (fun j p hj hp=>?_) (fun b hb=>?_) (fun p hp=>?_)
          · obtain⟨d1,d2⟩:=hdr j p hp
            exact⟨Lj (H.inj j id p _ d2 hid d1),H.L j p d2⟩
          · have:=H.bs b hb
            simpa[K2] using this
          · cases hp
            refine⟨Nat.lt_succ_self _,by rw[hιc]; exact H.L id _ hid,hO,fun j q hj hq=>?_⟩
            obtain⟨d1,d2⟩:=hdr j q hq
            rw[hιc]
            exact H.inj j id q _ d2 hid d1
         refine Es (K':=K2) (hex hrun) S2 H2 rfl ?_
         simp only[As]
         rw[hιc]
         exact⟨Nat.lt_succ_self _,A,cap,rfl,Nat.zero_add _,hroom,.inr (by rw[hAe]; rfl)⟩
       ·
         have hAe:A=⟨(K.ι id).1,((K.ι id).2.1 + off) * sz'',none⟩∨len=0:=by
          rcases h4 with h4 | h4
          · right; omega
          · exact .inl h4
         obtain⟨olds,o1,o2,o3,o4,o5⟩:=AEW (P:=P) H hid hle hAe (cap:=cap)
         have hll:((rows.drop off).take len).length=len:=by rw[List.length_take,List.length_drop]; omega
         have hcap:=grownCap_ge K.w (len + news.length) cap e
         have hrun:=Sg (ty:=o.type) (w:=K.w) (A:=some A) (l:=len) (c:=cap) hat hu hsz hi hzrun hd hk n1 (n2 K.w.drew hdrew) hroom (o1 K.w.drew hdrew) hc.2 (growslice_fits (by omega) hc.1)
         rw[← hA] at hrun
         have hR:=VK (K:=K1) (sz:=sz'') (N:=news) (news:=nv) (z:=Builtin.zeroCells z.cells (grownCap K.w (len + news.length) cap e - (len + news.length))) o5 (o3.mono S1.le) o4 (by rw[o2,hll]) n6 (n4.mono S1.le) n5 n3
         refine Es (K':=K1.allocOwn (.cells (olds.toArray ++ nv.toArray ++ Builtin.zeroCells z.cells (grownCap K.w (len + news.length) cap e - (len + news.length))) e) (grownCap K.w (len + news.length) cap e)) (hex hrun) (S1.trans (CH K1 _ _)) (DG (H1.drop id) _ _ _ (Lo hR ?_ (by rw[List.length_append,hll]; exact hcap) (fun i _=>by omega))) rfl (S9 (K:=K1) hcap)
         simp only[Array.size_append,List.size_toArray,size_zeroCells,hzsz,n3,o2]
         rw[← Nat.add_mul,← Nat.add_mul]
         congr 1
         omega
   · cases hr
theorem aW (z:Array Value):∀ n,(Builtin.zeroCells z n).toList=(List.replicate n z.toList).flatten
 | 0=>by simp[Builtin.zeroCells]
 | n + 1=>by
  have ih:=aW z n
  rw[List.replicate_succ,List.flatten_cons,← ih]
  simp only[Builtin.zeroCells,Array.toList_map,Array.toList_range]
  rw[Nat.succ_mul,Nat.add_comm,List.range_add,List.map_append,List.map_map]
  congr 1
  · apply List.ext_getElem?
    intro i
    rcases Nat.lt_or_ge i z.size with hi | hi
    · simp[hi,Nat.mod_eq_of_lt hi]
    · simp[hi]
  · refine List.map_congr_left fun i _=>?_
    simp
theorem sX:∀ l:List Value,VRels K (l.map .s) l
 | []=>by simp[VRels]
 | v :: l=>by simp only[List.map_cons,VRels]; exact⟨by simp[As],sX l⟩
theorem yZ (H:BW K base h) (ht:VRels K t a.tmps.toList) {o:Oper} {x:Operand} {args:Array Operand} {ats:Array TypeId} {tx e:TypeId} (ho:o.op = .call { callee:=.builtin .clear,args:=args,argTypes:=ats }) (ha:args.toList=[x]) (hat:ats.toList=[tx])
 {u v:AV} {us:Ups} (hx:A0 t x=some u) (hu:P.underlying tx=some (.slice e)) (hr:Sw P h e u=some (v,us)) :
 DZ K base (h.upd us) K.c v ((execOp a.eval o).run P K.w):=by
 have ha':args = #[x]:=by apply Array.ext'; rw[ha]
 have hat':ats = #[tx]:=by apply Array.ext'; rw[hat]
 have hex:∀ {v':Value} {w':World},(Builtin.clear_ ats o.type #[a.eval x]).run P K.w = .ok v' w'→(execOp a.eval o).run P K.w = .ok (.value v') w':=fun {v' w'} he=>by
  simp only[execOp,ho,ha',resolve,List.map_toArray,List.map_cons,List.map_nil,Sem.run_bind,Sem.run_pure,Result.andThen_ok,invoke,builtin,he]
 have hux:=BD ht hx
 unfold Sw at hr
 split at hr
 case h_2=>cases hr
 rename_i sz zs hsz hzs
 obtain⟨z,hzrun,rfl,hz1⟩:=JI hzs
 split at hr
 · cases hr
 rename_i hsz0
 have hzsz:z.cells.size=sz:=by
  have:¬ ((z.cells.toList.map AV.s).length≠sz):=fun hx=>hsz0 (.inr hx)
  simpa using this
 have triv:∀ (A:Option Addr) (c:Nat),a.eval x = .slice A 0 c→(Builtin.clear_ ats o.type #[a.eval x]).run P K.w = .ok (.tuple #[]) K.w:=fun A c hs=>by
  subst hat'
  unfold Builtin.clear_
  rw[hs]
  cases A <;> simp[Sem.run_bind,run_underlying hu]
 split at hr
 · cases hr
   simp only[As] at hux
   exact B8 H (hex (triv none 0 hux)) (by simp[As])
 · cases hr
   simp only[As] at hux
   obtain⟨A,hA⟩:=hux
   exact B8 H (hex (triv _ _ hA.1)) (by simp[As])
 · rename_i id off len sz'
   simp only[As] at hux
   obtain⟨hlt,A,cap,hA,h2,h3,h4⟩:=hux
   split at hr
   case h_2=>cases hr
   rename_i sz'' rows hid
   split at hr
   case isFalse=>cases hr
   rename_i hc
   obtain⟨e1,e2,hle⟩:=hc
   subst e1
   subst e2
   cases hr
   by_cases hl0:len=0
   · subst hl0
     have hrow:rows.take off ++ List.replicate 0 (z.cells.toList.map AV.s) ++ rows.drop (off + 0)=rows:=by simp
     have hh:h.upd [(id,some (C0.rows sz'' (rows.take off ++ List.replicate 0 (z.cells.toList.map AV.s) ++ rows.drop (off + 0))))]=h:=by
      rw[hrow]
      funext j
      simp only[AW.upd,AW.put]
      split
      · rename_i e; rw[e,hid]
      · rfl
     rw[hh]
     exact B8 H (hex (triv _ _ hA)) (by simp[As])
   · obtain⟨arr,T,fz,g1,g2,g3,g4,g5⟩:=H.obj id _ hid
     have hAe:A=⟨(K.ι id).1,((K.ι id).2.1 + off) * sz'',none⟩:=h4.resolve_left (by omega)
     have hvs:=aW z.cells len
     have hlen:(Builtin.zeroCells z.cells len).toList.length=len * sz'':=by rw[Array.length_toList,size_zeroCells,hzsz]
     have hN:∀ (i:Nat) (r:List AV),(List.replicate len (z.cells.toList.map AV.s))[i]? = some r→r.length=sz'':=fun i r hi=>by
      have:=List.mem_of_getElem? hi
      rw[List.mem_replicate] at this
      rw[this.2]; simpa using hzsz
     have hv:VRels K (List.replicate len (z.cells.toList.map AV.s)).flatten (Builtin.zeroCells z.cells len).toList:=by
      have:(List.replicate len (z.cells.toList.map AV.s)).flatten=((List.replicate len z.cells.toList).flatten).map AV.s:=by
       rw[List.map_flatten,List.map_replicate]
      rw[this,hvs]
      exact sX _
     have h1c:∀ v∈(Builtin.zeroCells z.cells len).toList,v.oneCell' = true:=fun v hv=>by
      rw[hvs] at hv
      obtain⟨l,hl,hv⟩:=List.mem_flatten.1 hv
      rw[List.mem_replicate] at hl
      exact hz1 v (hl.2 ▸ hv)
     generalize (Builtin.zeroCells z.cells len).toList=zv at hlen hv h1c hvs
     have hb1:((K.ι id).2.1 + off) * sz'' + zv.length≤arr.size:=by
      rw[g2,hlen,← Nat.add_mul]
      exact Nat.mul_le_mul_right _ (by omega)
     have hrun:(Builtin.clear_ ats o.type #[a.eval x]).run P K.w = .ok (.tuple #[]) (DT K.w (K.ι id).1 (.cells (Hd arr (((K.ι id).2.1 + off) * sz'') zv) T fz)):=by
      have hst:=FE (P:=P) zv 0 (((K.ι id).2.1 + off) * sz'') arr K.w g1 g3 (by simpa using hb1) h1c
      rw[Nat.add_zero] at hst
      subst hat'
      unfold Builtin.clear_
      rw[hA,hAe]
      obtain⟨l,rfl⟩:∃ l,len=l + 1:=⟨len - 1,by omega⟩
      have hzc:(Builtin.zeroCells z.cells (l + 1)).toList=zv:=(aW _ _).trans hvs.symm
      simp only[List.getElem?_toArray,List.getElem?_cons_zero,Sem.run_bind,run_underlying hu,Result.andThen_ok,hzrun,hzc,hst,Sem.run_pure]
     have hR:=VJ (K:=K) (R:=rows) (N:=List.replicate len (z.cells.toList.map AV.s)) (q:=(K.ι id).2.1) (m:=off) g5 (by omega) hN hv h1c (by rw[hlen,List.length_replicate]) hb1
     rw[List.length_replicate] at hR
     have S2:K.Step (K.setB (K.ι id).1 (.cells (Hd arr (((K.ι id).2.1 + off) * sz'') zv) T fz)):=Jx (H.L id _ hid) g1 (fun R e=>by cases e)
     have hO:VT (K.setB (K.ι id).1 (.cells (Hd arr (((K.ι id).2.1 + off) * sz'') zv) T fz)) (K.ι id) (.rows sz'' (rows.take off ++ List.replicate len (z.cells.toList.map AV.s) ++ rows.drop (off + len))):=by
      refine⟨_,T,fz,EZ g1,by rw[Gn hb1,g2],by rw[Gn hb1]; exact g3,?_,fun k r hkr=>⟨(hR k r hkr).1,(hR k r hkr).2.mono S2.le⟩⟩
      simp only[List.length_append,List.length_take,List.length_drop,List.length_replicate]; omega
     have H2:=Nz H hid g1 (fun R e=>by cases e) _ hO
     exact Es (hex hrun) S2 H2 rfl (by simp[As])
 · cases hr
theorem fN {tx ty' e:TypeId} {sz:Nat} {w:World} {ats:Array TypeId} {ty:TypeId} (ha:ats.toList=[tx,ty']) (hu:P.underlying tx=some (.slice e)) (hs:CQ P e=some sz) {i:TypeInfo} (hi:P.info? e=some i) {z:Value} (hz:∀ w,(zeroValue e).run P w = .ok z w) {kk k:IntKind} (hd:P.underlying ty' = some (.int kk))
 {n:Nat} (h1:1≤n) (h63:n≤9223372036854775807) (hsz:sz≠0) (h48:n * i.bytes≤140737488355328) :
 (Builtin.append_ ats ty #[.slice none 0 0,.int k n]).run P w = .ok (.slice (some ⟨w.heap.size,0,none⟩) n (grownCap w n 0 e)) (w.drew.alloc (.cells (#[] ++ Builtin.zeroCells z.cells n ++ Builtin.zeroCells z.cells (grownCap w n 0 e - n)) e)):=by
 have ha':ats = #[tx,ty']:=by apply Array.ext'; rw[ha]
 subst ha'
 have hwrap:IntKind.i64.wrap (n:Int)=(n:Int):=by
  exact IntWalk.i64_in (n:Int) ⟨by omega,by omega⟩
 have hm:IntKind.i64.max=9223372036854775807:=rfl
 have c0:¬ ((n:Int) < 0):=by omega
 have c0':¬ ((n:Int) * (i.bytes:Int) > 2 ^ 48):=by
  have:(n:Int) * (i.bytes:Int)=((n * i.bytes:Nat):Int):=by push_cast; rfl
  omega
 have c1:¬ (((n:Nat):Int) > IntKind.i64.max∧(True∨i.bytes=0)):=fun q=>by
  have:=q.1
  rw[hm] at this
  omega
 have c5:¬ (((n:Nat):Int) > IntKind.i64.max∧True):=fun q=>by
  have:=q.1
  rw[hm] at this
  omega
 have c3:¬ (n≤0):=by omega
 have hnc:Builtin.nextslicecap n 0=n:=nextslicecap_zero (by omega)
 have c2:¬ (Builtin.nextslicecap n 0 * i.bytes > 2 ^ 48):=by rw[hnc]; omega
 have c4:¬ (n * sz=0):=by
  intro q
  rcases Nat.mul_eq_zero.1 q with q | q
  · omega
  · exact hsz q
 have hf:(Question.appendCap n 0 e).forced=false:=rfl
 have hcap:(Question.appendCap n 0 e).cut (w.tape w.drawn (.appendCap n 0 e))=grownCap w n 0 e:=rfl
 have hw:({ w with drawn:=w.drawn + 1 }:World)=w.drew:=rfl
 unfold Builtin.append_
 simp only[List.getElem?_toArray,List.getElem?_cons_zero,List.getElem?_cons_succ,Sem.run_bind,run_underlying hu,run_underlying hd,Result.andThen_ok,Cb hs,Sem.run_pure,if_true,asInt,asIntOf,hwrap,if_neg c0,typeInfo,run_program,hi,if_neg c0',Int.toNat_natCast,Nat.zero_add,if_neg c3,Bool.not_true,Bool.false_eq_true,if_false,if_neg c1,true_or,if_neg c5,if_neg c2,run_choose,hf,hcap,hw,run_askRoom,if_neg c4,hz,Builtin.firstCells,newRow,run_newObj_alloc]
 rfl
theorem ABR (H:BW K base h) (ht:VRels K t a.tmps.toList) {o:Oper} {x y:Operand} {args:Array Operand} {ats:Array TypeId} {tx ty e:TypeId} {kk k:IntKind} {m:Int} (ho:o.op = .call { callee:=.builtin .append,args:=args,argTypes:=ats }) (ha:args.toList=[x,y]) (hat:ats.toList=[tx,ty])
 {r:AV} {us:Ups} (hx:A0 t x=some (.s (.slice none 0 0))) (hy:A0 t y=some (.s (.int k m))) (hu:P.underlying tx=some (.slice e)) (hd:P.underlying ty=some (.int kk)) (hr:Ud P K.c e m=some (r,us)) :
 DZ K base (h.upd us) (K.c + 1) r ((execOp a.eval o).run P K.w):=by
 have ha':args = #[x,y]:=by apply Array.ext'; rw[ha]
 have hex:∀ {v':Value} {w':World},(Builtin.append_ ats o.type #[a.eval x,a.eval y]).run P K.w = .ok v' w'→(execOp a.eval o).run P K.w = .ok (.value v') w':=fun {v' w'} he=>by
  simp only[execOp,ho,ha',resolve,List.map_toArray,List.map_cons,List.map_nil,Sem.run_bind,Sem.run_pure,Result.andThen_ok,invoke,builtin,he]
 have hux:=BD ht hx
 have huy:=BD ht hy
 simp only[As] at hux huy
 unfold Ud at hr
 split at hr
 case h_2=>cases hr
 rename_i sz b zs hsz hb hzs
 obtain⟨z,hzrun,rfl,hz1⟩:=JI hzs
 obtain⟨i,hi,rfl⟩:=Option.map_eq_some_iff.1 hb
 split at hr
 · cases hr
 rename_i hc
 have hsz0:sz≠0:=fun q=>hc (.inl q)
 have hzsz:z.cells.size=sz:=by
  have:¬ ((z.cells.toList.map AV.s).length≠sz):=fun q=>hc (.inr (.inl q))
  simpa using this
 have hm:1≤m∧m≤9223372036854775807∧m.toNat * i.bytes≤140737488355328:=Classical.not_not.1 fun q=>hc (.inr (.inr q))
 cases hr
 obtain⟨n,rfl⟩:∃ n:Nat,m=n:=⟨m.toNat,by omega⟩
 simp only[Int.toNat_natCast] at hm ⊢
 have hrun:=fN (P:=P) (ty:=o.type) (w:=K.w) (k:=k) hat hu hsz hi hzrun hd (n:=n) (by omega) (by omega) hsz0 hm.2.2
 let K1:Cx:={ K with w:=K.w.drew }
 have S1:K.Step K1:=Jw K K.w.drew K.c (Nat.le_refl _) rfl rfl rfl rfl
 have H1:BW K1 base h:=Ll H K.w.drew K.c (Nat.le_refl _) rfl rfl rfl rfl
 have hN:∀ (j:Nat) (r:List AV),(List.replicate n (z.cells.toList.map AV.s))[j]? = some r→r.length=sz:=fun j r hj=>by
  have:=List.mem_of_getElem? hj
  rw[List.mem_replicate] at this
  rw[this.2]; simpa using hzsz
 have hvs:=aW z.cells n
 have hlen:(Builtin.zeroCells z.cells n).toList.length=n * sz:=by rw[Array.length_toList,size_zeroCells,hzsz]
 have hv:VRels K1 (List.replicate n (z.cells.toList.map AV.s)).flatten (Builtin.zeroCells z.cells n).toList:=by
  have:(List.replicate n (z.cells.toList.map AV.s)).flatten=((List.replicate n z.cells.toList).flatten).map AV.s:=by
   rw[List.map_flatten,List.map_replicate]
  rw[this,hvs]
  exact sX _
 have h1c:∀ v∈(Builtin.zeroCells z.cells n).toList,v.oneCell' = true:=fun v hv=>by
  rw[hvs] at hv
  obtain⟨l,hl,hv⟩:=List.mem_flatten.1 hv
  rw[List.mem_replicate] at hl
  exact hz1 v (hl.2 ▸ hv)
 have hcap:=grownCap_ge K.w n 0 e
 have hR:=VK (K:=K1) (sz:=sz) (R:=[]) (N:=List.replicate n (z.cells.toList.map AV.s)) (olds:=[]) (news:=(Builtin.zeroCells z.cells n).toList) (z:=Builtin.zeroCells z.cells (grownCap K.w n 0 e - n)) (fun i r hi=>by simp at hi) (by simp[VRels]) (fun v hv=>by simp at hv) (by simp) hN hv h1c (by rw[hlen,List.length_replicate])
 rw[List.nil_append,Array.toArray_toList] at hR
 have hosl:=S9 (K:=K1) (sz:=sz) (n:=n) (o:=.cells (#[] ++ Builtin.zeroCells z.cells n ++ Builtin.zeroCells z.cells (grownCap K.w n 0 e - n)) e) hcap
 refine Es (K':=K1.allocOwn (.cells (#[] ++ Builtin.zeroCells z.cells n ++ Builtin.zeroCells z.cells (grownCap K.w n 0 e - n)) e) (grownCap K.w n 0 e)) (hex (by rw[hux,huy]; exact hrun)) (S1.trans (CH K1 _ _)) (DG H1 _ _ _ (Lo hR ?_ (by rw[List.length_replicate]; exact hcap) (fun i _=>by omega))) rfl hosl
 simp only[Array.size_append,List.size_toArray,List.length_nil,Array.size_empty,size_zeroCells,hzsz,Nat.zero_add]
 rw[← Nat.add_mul]
 congr 1
 omega
end
end Go.Vm
namespace Go.Vm
open Go Go.MapKept
section
variable {P:Program} {K:Cx} {base:Nat} {h:AW} {t:List AV} {a:Act}
theorem AE1 {P:Program} {w w':World} {s:Sem Unit} (h:s.run P w = .ok () w'):(do s; pure Next.skip:Sem Next).run P w = .ok .skip w':=by
 rw[Sem.run_bind,h]; rfl
def VS (K:Cx) (es:List (Value × AV)) (ms:Array MapEntry):Prop:=ms.size=es.length∧∀ (i:Nat) (e:Value × AV),es[i]? = some e→∃ v,ms[i]? = some ⟨e.1,v,i⟩∧As K e.2 v
theorem VS.mono {K K':Cx} (h:K.Le K') {es:List (Value × AV)} {ms:Array MapEntry} (hm:VS K es ms):VS K' es ms:=
 ⟨hm.1,fun i e hi=>by obtain⟨v,h1,h2⟩:=hm.2 i e hi; exact⟨v,h1,h2.mono h⟩⟩
theorem lV {kd:TypeDesc} {k:Value}:∀ {es:List (Value × AV)} {ms:List MapEntry} {i:Nat} {r:Option (Nat × AV)},T6 kd k es i=some r→ms.length=es.length →
 (∀ (j:Nat) (e:Value × AV),es[j]? = some e→∃ v,ms[j]? = some ⟨e.1,v,i + j⟩∧As K e.2 v) →
 (r=none∧Instr.findNow kd k ms i=some none)∨∃ j x v,r=some (i + j,x)∧Instr.findNow kd k ms i=some (some (i + j,v))∧As K x v∧∃ k',es[j]? = some (k',x)∧ms[j]? = some ⟨k',v,i + j⟩∧Instr.sameNow kd k k' = some true
 | [],[],i,r,h,_,_=>by
  simp only[T6,Option.some.injEq] at h
  subst h
  exact .inl ⟨rfl,rfl⟩
 | e :: es,m :: ms,i,r,h,hl,hr=>by
  obtain⟨v,h1,h2⟩:=hr 0 e rfl
  simp only[List.getElem?_cons_zero,Option.some.injEq,Nat.add_zero] at h1
  subst h1
  simp only[T6] at h
  simp only[Instr.findNow]
  split at h
  · rename_i hs
    cases h
    rw[hs]
    exact .inr ⟨0,e.2,v,rfl,rfl,h2,e.1,rfl,rfl,hs⟩
  · rename_i hs
    rw[hs]
    rcases lV h (by simpa using hl) (fun j d hj=>by
     obtain⟨u,g1,g2⟩:=hr (j + 1) d (by simpa using hj)
     exact⟨u,by simpa[Nat.add_assoc,Nat.add_comm 1 j] using g1,g2⟩) with ⟨h3,h4⟩ | ⟨j,x,u,h3,h4,h5,k',h6,h7,h8⟩
    · exact .inl ⟨h3,h4⟩
    · refine .inr ⟨j + 1,x,u,?_,?_,h5,k',by simpa using h6,by simpa[Nat.add_assoc,Nat.add_comm 1 j] using h7,h8⟩
      · rw[h3,Nat.add_assoc,Nat.add_comm 1 j]
      · rw[h4,Nat.add_assoc,Nat.add_comm 1 j]
  · cases h
 | [],_ :: _,_,_,_,hl,_=>by simp at hl
 | _ :: _,[],_,_,_,hl,_=>by simp at hl
theorem ADB {kt:TypeId} {k:Value} (h:ADA P kt k=true):∃ kd,P.underlying kt=some kd∧IsKey kd k:=by
 unfold ADA at h
 split at h
 · rename_i q q' n e
   exact⟨_,e,by have:=of_decide_eq_true h; simp[IsKey,this]⟩
 · rename_i e
   exact⟨_,e,trivial⟩
 · cases h
theorem AAB {kd:TypeDesc} {k k':Value} (hk:IsKey kd k) (h:Instr.sameNow kd k k' = some true):k=k':=by
 unfold Instr.sameNow at h
 split at h
 · split at h
   · rename_i e
     simp only[Option.some.injEq,beq_iff_eq] at h
     rw[e,h]
   · cases h
 · simp only[Option.some.injEq] at h
   rw[(bytes_beq _ _).1 h]
 · simp only[Option.some.injEq,beq_iff_eq] at h
   rw[h]
 · cases h
theorem X4 {kt:TypeId} {k:Value} {es:List (Value × AV)} {ms:Array MapEntry} {r:Option (Nat × AV)} (hs:HF P kt k es=some r) (hm:VS K es ms) (e:Bool) (w:World) :
 (Instr.checkKey e 10000 kt k).run P w = .ok () w∧((r=none∧(Instr.findKey kt k ms.toList).run P w = .ok none w)∨∃ i x v,r=some (i,x)∧(Instr.findKey kt k ms.toList).run P w = .ok (some (i,v)) w∧As K x v∧es[i]? = some (k,x)∧ms[i]? = some ⟨k,v,i⟩∧Instr.sameBits 10000 k k=true):=by
 unfold HF at hs
 split at hs
 · rename_i hk
   obtain⟨kd,h1,h2⟩:=ADB hk
   rw[h1] at hs
   simp only[Option.bind_some] at hs
   refine⟨run_checkKey h1 h2 e 9999,?_⟩
   rcases lV (K:=K) (ms:=ms.toList) hs (by simpa using hm.1) (fun j d hj=>by
    obtain⟨v,g1,g2⟩:=hm.2 j d hj
    exact⟨v,by rw[Nat.zero_add]; simpa using g1,g2⟩) with ⟨h3,h4⟩ | ⟨j,x,v,h3,h4,h5,k',h6,h7,h8⟩
   · exact .inl ⟨h3,run_findKey h1 h4⟩
   · rw[Nat.zero_add] at h3 h4 h7
     obtain rfl:=AAB h2 h8
     refine .inr ⟨j,x,v,h3,run_findKey h1 h4,h5,h6,by simpa using h7,?_⟩
     cases kd <;> cases k <;> simp_all [IsKey,Instr.sameBits,bytes_beq]
 · cases hs
theorem nM {e:TypeId} {z:AV} (hz:nL P e=some z):∃ x,z = .s x∧x.oneCell' = true∧∀ w,(zeroValue e).run P w = .ok x w:=by
 unfold nL at hz
 cases hi:P.info? e with
 | none=>rw[hi] at hz; cases hz
 | some i=>
  rw[hi] at hz
  simp only[Option.bind_some] at hz
  cases hzz:i.zero with
  | none=>rw[hzz] at hz; cases hz
  | some x=>
   rw[hzz] at hz
   simp only at hz
   split at hz
   · rename_i h1
     cases hz
     exact⟨x,rfl,h1,fun w=>by simp[zeroValue,typeInfo,hi,hzz]⟩
   · cases hz
theorem oG (H:BW K base h) {o:Oper} {ty:TypeId} (ho:o.op = .makeMap ty none) :
 DZ K base (h.upd [(K.c,some (.map []))]) (K.c + 1) (.mp K.c) ((execOp a.eval o).run P K.w):=by
 refine⟨K.allocOwn (.map #[] 0) 0,.map (some K.w.heap.size),.inl ?_,CH K _ 0,DG H _ 0 _ ⟨#[],?_,rfl,fun i e hi=>by simp at hi⟩,rfl,?_⟩
 · simp only[execOp,ho]
   apply FX
   simp only[Option.map_none,Instr.makeMap,Sem.run_bind,run_newObj_alloc,Result.andThen_ok,Sem.run_pure]
   rfl
 · show (K.w.heap.push _)[K.w.heap.size]? = _; simp
 · simp only[As,JN,UL]
   exact⟨Nat.lt_succ_self _,trivial⟩
theorem N1 (H:BW K base h) {id:Nat} {es:List (Value × AV)} (hid:h id=some (.map es)):∃ ms,K.w.heap[(K.ι id).1]? = some (.map ms es.length)∧VS K es ms:=by
 obtain⟨ms,h1,h2,h3⟩:=H.obj id _ hid
 exact⟨ms,h1,h2,h3⟩
theorem uC (H:BW K base h) (ht:VRels K t a.tmps.toList) {o:Oper} {xt:TypeId} {x k:Operand} {ok:Bool} (ho:o.op = .lookup xt x k ok) {kt et:TypeId} (hu:P.underlying xt=some (.map kt et)) {es:List (Value × AV)} (hx:(A0 t x).bind (QS h)=some es)
 {kv:Value} (hk:(A0 t k).bind Bc=some kv) {v:AV} (hv:Rj P et ok (HF P kt kv es)=some v):DZ K base h K.c v ((execOp a.eval o).run P K.w):=by
 obtain⟨ku,hk1,hk2⟩:=Option.bind_eq_some_iff.1 hk
 have ek:a.eval k=kv:=Ou hk2 (BD ht hk1)
 obtain⟨u,hx1,hx2⟩:=Option.bind_eq_some_iff.1 hx
 have hxr:=BD ht hx1
 have hcase:∃ ms:Array MapEntry,VS K es ms∧((a.eval x = .map none∧ms = #[])∨∃ b n,a.eval x = .map (some b)∧K.w.heap[b]? = some (.map ms n)):=by
  unfold QS at hx2
  split at hx2
  · rename_i id
    split at hx2
    · rename_i es' hid
      cases hx2
      obtain⟨ms,h1,h2⟩:=N1 H hid
      simp only[As] at hxr
      exact⟨ms,h2,.inr ⟨_,_,hxr.2,h1⟩⟩
    · cases hx2
  · rename_i es'
    cases hx2
    simp only[As] at hxr
    obtain⟨b,ms,e1,_,h1,h2,h3⟩:=hxr
    refine⟨ms,⟨by simpa using h2,fun i e hi=>?_⟩,.inr ⟨b,_,e1,h1⟩⟩
    rw[List.getElem?_map] at hi
    obtain⟨q,hq,rfl⟩:=Option.map_eq_some_iff.1 hi
    exact⟨q.2,h3 i q hq,S6 K q.2⟩
  · cases hx2
    simp only[As] at hxr
    exact⟨#[],⟨rfl,fun i e hi=>by simp at hi⟩,.inl ⟨hxr,rfl⟩⟩
  · cases hx2
 obtain⟨ms,hmm,hes⟩:=hcase
 have fin:∀ (y:Value),(Instr.lookup xt (a.eval x) (a.eval k) ok).run P K.w = .ok y K.w→As K v y→DZ K base h K.c v ((execOp a.eval o).run P K.w):=fun y hy hr=>by
  refine B8 H (x:=y) ?_ hr
  simp only[execOp,ho]
  exact FX hy
 cases hs:HF P kt kv es with
 | none=>rw[hs] at hv; cases hv
 | some r=>
  obtain⟨c1,c2⟩:=X4 (K:=K) hs hmm ms.isEmpty K.w
  rw[hs] at hv
  rcases c2 with ⟨rfl,c3⟩ | ⟨i,x',v',rfl,c3,c4,_⟩
  · simp only[Rj] at hv
    obtain⟨z,hz,hvz⟩:=Option.map_eq_some_iff.1 hv
    obtain⟨zx,rfl,_,hzr⟩:=nM hz
    refine fin (if ok then .tuple #[zx,.bool false] else zx) ?_ ?_
    · unfold Instr.lookup
      rcases hes with ⟨e1,rfl⟩ | ⟨b,n,e1,hb⟩
      · have c1':(Instr.checkKey (#[]:Array MapEntry).isEmpty 10000 kt kv).run P K.w = .ok () K.w:=c1
        simp only[Sem.run_bind,run_underlying hu,Result.andThen_ok,e1,ek,c1',c3,hzr,Sem.run_pure]
      · simp only[Sem.run_bind,run_underlying hu,Result.andThen_ok,e1,ek,Go.MapKept.run_getObj_map hb,c1,c3,hzr,Sem.run_pure]
    · subst hvz
      cases ok <;> simp[As,VRels]
  · simp only[Rj,Option.some.injEq] at hv
    refine fin (if ok then .tuple #[v',.bool true] else v') ?_ ?_
    · unfold Instr.lookup
      rcases hes with ⟨e1,rfl⟩ | ⟨b,n,e1,hb⟩
      · have c1':(Instr.checkKey (#[]:Array MapEntry).isEmpty 10000 kt kv).run P K.w = .ok () K.w:=c1
        simp only[Sem.run_bind,run_underlying hu,Result.andThen_ok,e1,ek,c1',c3,Sem.run_pure]
      · simp only[Sem.run_bind,run_underlying hu,Result.andThen_ok,e1,ek,Go.MapKept.run_getObj_map hb,c1,c3,Sem.run_pure]
    · subst hv
      cases ok <;> simp[As,VRels,c4]
theorem oV (H:BW K base h) {id:Nat} {es es':List (Value × AV)} (hid:h id=some (.map es)) {ms ms':Array MapEntry} (hb:K.w.heap[(K.ι id).1]? = some (.map ms es.length)) (hm:VS K es' ms') :
 K.Step (K.setB (K.ι id).1 (.map ms' es'.length))∧BW (K.setB (K.ι id).1 (.map ms' es'.length)) base (h.upd [(id,some (.map es'))]):=by
 have S:=Jx (o:=.map ms' es'.length) (H.L id _ hid) hb (fun R e=>by cases e)
 refine⟨S,Nz H hid hb (fun R e=>by cases e) (.map es') ⟨ms',EZ hb,(hm.mono S.le).1,(hm.mono S.le).2⟩⟩
theorem cQ {es:List (Value × AV)} {ms:Array MapEntry} (hm:VS K es ms) {i:Nat} {k v:Value} {x:AV} (hx:As K x v) (f:MapEntry→MapEntry) (hf:∀ e,ms[i]? = some e→f e=⟨k,v,i⟩):VS K (es.set i (k,x)) (ms.modify i f):=by
 refine⟨by simp[hm.1],fun j e hj=>?_⟩
 rw[List.getElem?_set] at hj
 split at hj
 · rename_i hij
   subst hij
   split at hj
   · rename_i hlt
     cases hj
     have hlt2:i < ms.size:=by rw[hm.1]; exact hlt
     refine⟨v,?_,hx⟩
     rw[Array.getElem?_modify,if_pos rfl,Array.getElem?_eq_getElem hlt2,Option.map_some,hf _ (Array.getElem?_eq_getElem hlt2)]
   · cases hj
 · rename_i hij
   obtain⟨u,h1,h2⟩:=hm.2 j e hj
   exact⟨u,by rw[Array.getElem?_modify,if_neg hij]; exact h1,h2⟩
theorem mN {es:List (Value × AV)} {ms:Array MapEntry} (hm:VS K es ms) {k v:Value} {x:AV} (hx:As K x v):VS K (es ++ [(k,x)]) (ms.push ⟨k,v,es.length⟩):=by
 refine⟨by simp[hm.1],fun j e hj=>?_⟩
 rw[Array.getElem?_push,hm.1]
 rcases Nat.lt_trichotomy j es.length with h | h | h
 · rw[List.getElem?_append_left h] at hj
   rw[if_neg (by omega)]
   exact hm.2 j e hj
 · subst h
   rw[List.getElem?_append_right (Nat.le_refl _),Nat.sub_self] at hj
   cases hj
   rw[if_pos rfl]
   exact⟨v,rfl,hx⟩
 · rw[List.getElem?_append_right (by omega),List.getElem?_eq_none (by simp; omega)] at hj
   cases hj
theorem m9 {w:World} {k:Value} (h:Instr.sameBits 10000 k k=true):(Instr.keyThatStays k k).run P w = .ok k w:=by
 unfold Instr.keyThatStays
 rw[h]
 rfl
theorem RX (H:BW K base h) (ht:VRels K t a.tmps.toList) {o:Oper} {mt:TypeId} {m k x:Operand} (ho:o.op = .mapUpdate mt m k x∨o.op = .insert mt m k x) {kt et:TypeId} (hu:P.underlying mt=some (.map kt et)) {id:Nat} (hm:A0 t m=some (.mp id)) {es es':List (Value × AV)} (hid:h id=some (.map es))
 {kv:Value} (hk:(A0 t k).bind Bc=some kv) {xa:AV} (hx:A0 t x=some xa) (hv:zI P kt kv xa es=some es'):DZ K base (h.upd [(id,some (.map es'))]) K.c (.s undef) ((execOp a.eval o).run P K.w):=by
 obtain⟨ku,hk1,hk2⟩:=Option.bind_eq_some_iff.1 hk
 have ek:a.eval k=kv:=Ou hk2 (BD ht hk1)
 have em:=BD ht hm
 simp only[As] at em
 have hxr:=BD ht hx
 obtain⟨ms,hb,hmm⟩:=N1 H hid
 have fin:∀ ms',VS K es' ms'→(Instr.mapUpdate mt (a.eval m) (a.eval k) (a.eval x)).run P K.w = .ok () (DT K.w (K.ι id).1 (.map ms' es'.length))→DZ K base (h.upd [(id,some (.map es'))]) K.c (.s undef) ((execOp a.eval o).run P K.w):=fun ms' hms hrun=>by
  obtain⟨S,H'⟩:=oV H hid hb hms
  refine⟨_,undef,.inr ⟨?_,rfl⟩,S,H',rfl,by simp[As]⟩
  rcases ho with ho | ho <;> simp only[execOp,ho] <;> exact AE1 hrun
 unfold zI at hv
 cases hs:HF P kt kv es with
 | none=>rw[hs] at hv; cases hv
 | some r=>
  obtain⟨c1,c2⟩:=X4 (K:=K) hs hmm false K.w
  rw[hs] at hv
  rcases c2 with ⟨rfl,c3⟩ | ⟨i,x',v',rfl,c3,c4,c5,c6,c7⟩
  · cases hv
    refine fin (ms.push ⟨kv,a.eval x,es.length⟩) (mN hmm hxr) ?_
    rw[em.2]
    unfold Instr.mapUpdate
    simp only[Sem.run_bind,run_underlying hu,Result.andThen_ok,Go.MapKept.run_getObj_map hb,ek,c1,c3,Go.MapKept.run_setObj_map _ hb]
    simp[DT]
  · cases hv
    refine fin (ms.modify i fun e=>{ e with key:=kv,val:=a.eval x }) (cQ hmm hxr _ fun e he=>by rw[c6] at he; cases he; rfl) ?_
    rw[em.2]
    unfold Instr.mapUpdate
    simp only[Sem.run_bind,run_underlying hu,Result.andThen_ok,Go.MapKept.run_getObj_map hb,ek,c1,c3,c6,Option.map_some,Option.getD_some,m9 c7,Go.MapKept.run_setObj_map _ hb]
    simp[DT]
theorem gU (H:BW K base h) (ht:VRels K t a.tmps.toList) {o:Oper} {mt:TypeId} {m k:Operand} (ho:o.op = .mapEntry mt m k) {kt et:TypeId} (hu:P.underlying mt=some (.map kt et)) {id:Nat} (hm:A0 t m=some (.mp id)) {es:List (Value × AV)} (hid:h id=some (.map es))
 {kv:Value} (hk:(A0 t k).bind Bc=some kv) {r:AV × List (Value × AV)} (hv:ABM P kt et kv es=some r):DZ K base (h.upd [(id,some (.map r.2))]) K.c r.1 ((execOp a.eval o).run P K.w):=by
 obtain⟨ku,hk1,hk2⟩:=Option.bind_eq_some_iff.1 hk
 have ek:a.eval k=kv:=Ou hk2 (BD ht hk1)
 have em:=BD ht hm
 simp only[As] at em
 obtain⟨ms,hb,hmm⟩:=N1 H hid
 have fin:∀ ms' y,VS K r.2 ms'→(Instr.mapEntry mt (a.eval m) (a.eval k)).run P K.w = .ok y (DT K.w (K.ι id).1 (.map ms' r.2.length))→As K r.1 y→DZ K base (h.upd [(id,some (.map r.2))]) K.c r.1 ((execOp a.eval o).run P K.w):=fun ms' y hms hrun hy=>by
  obtain⟨S,H'⟩:=oV H hid hb hms
  refine⟨_,y,.inl ?_,S,H',rfl,hy.mono S.le⟩
  simp only[execOp,ho]
  exact FX hrun
 unfold ABM at hv
 cases hs:HF P kt kv es with
 | none=>rw[hs] at hv; cases hv
 | some q=>
  obtain⟨c1,c2⟩:=X4 (K:=K) hs hmm false K.w
  rw[hs] at hv
  rcases c2 with ⟨rfl,c3⟩ | ⟨i,x',v',rfl,c3,c4,c5,c6,c7⟩
  · obtain⟨z,hz,rfl⟩:=Option.map_eq_some_iff.1 hv
    obtain⟨zx,rfl,_,hzr⟩:=nM hz
    refine fin (ms.push ⟨kv,zx,es.length⟩) (.tuple #[zx,goInt es.length]) (mN hmm (by simp[As])) ?_ ?_
    · rw[em.2]
      unfold Instr.mapEntry
      simp only[Sem.run_bind,run_underlying hu,Result.andThen_ok,Go.MapKept.run_getObj_map hb,ek,c1,c3,hzr,Go.MapKept.run_setObj_map _ hb,Sem.run_pure]
      simp[DT]
    · simp[As,VRels,goInt]
  · cases hv
    refine fin (ms.modify i fun e=>{ e with key:=kv }) (.tuple #[v',goInt i]) ?_ ?_ ?_
    · have:=cQ hmm (i:=i) (k:=kv) c4 (fun e=>{ e with key:=kv }) (fun e he=>by rw[c6] at he; cases he; rfl)
      rw[show es.set i (kv,x')=es from ?_] at this
      · exact this
      · obtain⟨hlt,he⟩:=List.getElem?_eq_some_iff.1 c5
        rw[← he,List.set_getElem_self]
    · rw[em.2]
      unfold Instr.mapEntry
      simp only[Sem.run_bind,run_underlying hu,Result.andThen_ok,Go.MapKept.run_getObj_map hb,ek,c1,c3,c6,Option.map_some,Option.getD_some,m9 c7,Go.MapKept.run_setObj_map _ hb,Sem.run_pure]
      simp[DT]
    · simp[As,VRels,goInt,c4]
theorem Ys (H:BW K base h) (ht:VRels K t a.tmps.toList) {o:Oper} {mt:TypeId} {m k x:Operand} (ho:o.op = .entryStore mt m k x) {id:Nat} (hm:A0 t m=some (.mp id)) {es es':List (Value × AV)} (hid:h id=some (.map es))
 {j:Int} (hk:(A0 t k).bind DQ = some j) {xa:AV} (hx:A0 t x=some xa) (hv:X6 j xa es=some es'):DZ K base (h.upd [(id,some (.map es'))]) K.c (.s undef) ((execOp a.eval o).run P K.w):=by
 obtain⟨ku,hk1,hk2⟩:=Option.bind_eq_some_iff.1 hk
 obtain⟨kk,ek⟩:=Ey (P:=P) (w:=K.w) hk2 (BD ht hk1)
 have em:=BD ht hm
 simp only[As] at em
 have hxr:=BD ht hx
 obtain⟨ms,hb,hmm⟩:=N1 H hid
 unfold X6 at hv
 split at hv
 case isFalse=>cases hv
 rename_i h0
 split at hv
 case h_2=>cases hv
 rename_i e he
 cases hv
 obtain⟨v,g1,g2⟩:=hmm.2 _ _ he
 have hfi:ms.findIdx? (fun e=>(e.born:Int) == j)=some j.toNat:=by
  rw[Array.findIdx?_eq_some_iff_getElem]
  obtain⟨q1,q2⟩:=Array.getElem?_eq_some_iff.1 g1
  refine⟨q1,by rw[q2]; simp; omega,fun i hi=>?_⟩
  have hlt:i < es.length:=by rw[← hmm.1]; omega
  obtain⟨u,r1,_⟩:=hmm.2 i es[i] (List.getElem?_eq_getElem hlt)
  obtain⟨r2,r3⟩:=Array.getElem?_eq_some_iff.1 r1
  rw[r3]
  simp
  omega
 have hms:VS K (es.set j.toNat (e.1,xa)) (ms.modify j.toNat fun e=>{ e with val:=a.eval x }):=cQ hmm hxr _ fun q hq=>by rw[g1] at hq; cases hq; rfl
 obtain⟨S,H'⟩:=oV H hid hb hms
 refine⟨_,undef,.inr ⟨?_,rfl⟩,S,H',rfl,by simp[As]⟩
 simp only[execOp,ho]
 apply AE1
 rw[em.2]
 unfold Instr.entryStore
 have hai:(asInt (Value.int kk j)).run P K.w = .ok j K.w:=rfl
 simp only[Sem.run_bind,Go.MapKept.run_getObj_map hb,Result.andThen_ok,ek,hai,Sem.run_pure,hfi,Go.MapKept.run_setObj_map _ hb]
 simp[DT,Cx.setB]
theorem ABT (H:BW K base h) (ht:VRels K t a.tmps.toList) {o:Oper} {x:Operand} {args:Array Operand} {ats:Array TypeId} (ho:o.op = .call { callee:=.builtin .len,args:=args,argTypes:=ats }) (ha:args.toList=[x]) {id:Nat} (hx:A0 t x=some (.mp id))
 {ty kt et:TypeId} (h0:ats[0]? = some ty) (hu:P.underlying ty=some (.map kt et)) {es:List (Value × AV)} (hid:h id=some (.map es)):DZ K base h K.c (.s (.int .i64 es.length)) ((execOp a.eval o).run P K.w):=by
 have em:=BD ht hx
 simp only[As] at em
 obtain⟨ms,hb,hmm⟩:=N1 H hid
 obtain rfl:args = #[x]:=by cases args; simp_all
 refine B8 H (x:=goInt ms.size) ?_ (by simp[As,goInt,hmm.1])
 have hrun:(Builtin.len_ ats o.type #[a.eval x]).run P K.w = .ok (goInt ms.size) K.w:=by
  simp only[Builtin.len_,h0,em.2,Sem.run_bind,run_underlying hu,Result.andThen_ok,List.getElem?_toArray,List.getElem?_cons_zero,Go.MapKept.run_getObj_map hb,Sem.run_pure]
 simp only[execOp,ho,resolve,List.map_toArray,List.map_cons,List.map_nil,Sem.run_bind,Sem.run_pure,Result.andThen_ok,invoke,builtin,hrun]
theorem ABS (H:BW K base h) (ht:VRels K t a.tmps.toList) {o:Oper} {x:Operand} {args:Array Operand} {ats:Array TypeId} (ho:o.op = .call { callee:=.builtin .len,args:=args,argTypes:=ats }) (ha:args.toList=[x]) {es:List (Value × Value)} (hx:A0 t x=some (.fmp es))
 {ty kt et:TypeId} (h0:ats[0]? = some ty) (hu:P.underlying ty=some (.map kt et)):DZ K base h K.c (.s (.int .i64 es.length)) ((execOp a.eval o).run P K.w):=by
 have em:=BD ht hx
 simp only[As] at em
 obtain⟨b,ms,e1,_,hb,h2,_⟩:=em
 obtain rfl:args = #[x]:=by cases args; simp_all
 refine B8 H (x:=goInt ms.size) ?_ (by simp[As,goInt,h2])
 have hrun:(Builtin.len_ ats o.type #[a.eval x]).run P K.w = .ok (goInt ms.size) K.w:=by
  simp only[Builtin.len_,h0,e1,Sem.run_bind,run_underlying hu,Result.andThen_ok,List.getElem?_toArray,List.getElem?_cons_zero,Go.MapKept.run_getObj_map hb,Sem.run_pure]
 simp only[execOp,ho,resolve,List.map_toArray,List.map_cons,List.map_nil,Sem.run_bind,Sem.run_pure,Result.andThen_ok,invoke,builtin,hrun]
theorem uM (H:BW K base h) (ht:VRels K t a.tmps.toList) {o:Oper} {v:AV} {us:Ups} (ho:Gz P o t h K.c=some (v,us)) :
 DZ K base (h.upd us) (if Be o.op then K.c + 1 else K.c) v ((execOp a.eval o).run P K.w):=by
 unfold Gz at ho
 split at ho
 · rename_i ty hop
   cases ho
   simp only[hop,Be,if_true]
   exact oG H hop
 · rename_i xt x k ok hop
   simp only[hop,Be]
   split at ho
   · rename_i kt et es kv h1 h2 h3
     obtain⟨u,h4,h5⟩:=Option.map_eq_some_iff.1 ho
     cases h5
     exact uC H ht hop h1 h2 h3 h4
   · cases ho
 · rename_i mt m k x hop
   simp only[hop,Be]
   split at ho
   · rename_i kt et id kv xa h1 h2 h3 h4
     split at ho
     · rename_i es hid
       obtain⟨es',h5,h6⟩:=Option.map_eq_some_iff.1 ho
       cases h6
       exact RX H ht (.inl hop) h1 h2 hid h3 h4 h5
     · cases ho
   · cases ho
 · rename_i mt m k hop
   simp only[hop,Be]
   split at ho
   · rename_i kt et id kv h1 h2 h3
     split at ho
     · rename_i es hid
       obtain⟨r,h5,h6⟩:=Option.map_eq_some_iff.1 ho
       cases h6
       exact gU H ht hop h1 h2 hid h3 h5
     · cases ho
   · cases ho
 · rename_i mt m k x hop
   simp only[hop,Be]
   split at ho
   · rename_i id j xa h1 h2 h3
     split at ho
     · rename_i es hid
       obtain⟨es',h5,h6⟩:=Option.map_eq_some_iff.1 ho
       cases h6
       exact Ys H ht hop h1 hid h2 h3 h5
     · cases ho
   · cases ho
 · rename_i mt m k x hop
   simp only[hop,Be]
   split at ho
   · rename_i kt et id kv xa h1 h2 h3 h4
     split at ho
     · rename_i es hid
       obtain⟨es',h5,h6⟩:=Option.map_eq_some_iff.1 ho
       cases h6
       exact RX H ht (.inr hop) h1 h2 hid h3 h4 h5
     · cases ho
   · cases ho
 · cases ho
end
end Go.Vm
namespace Go.Vm
open Go
theorem aM {K:Cx} {b:Nat}:∀ {cs:List AV} {o:Nat},(∀ (j:Nat) (c:AV),cs[j]? = some c→∃ v,K.free b∧K.w.cell? ⟨b,o + j,none⟩=some v∧v.oneCell' = true∧As K c v)→CRel K b o cs
 | [],_,_=>by simp[CRel]
 | c :: cs,o,h=>by
  simp only[CRel]
  refine⟨by simpa using h 0 c rfl,aM fun j d hj=>?_⟩
  have:=h (j + 1) d (by simpa using hj)
  rw[show o + 1 + j=o + (j + 1) by omega]
  exact this
theorem rW {K:Cx} {b sz:Nat}:∀ {rows:List (List AV)} {o:Nat},(∀ (i:Nat) (r:List AV),rows[i]? = some r→r.length=sz∧CRel K b (o + i * sz) r)→RRel K b o sz rows
 | [],_,_=>by simp[RRel]
 | r :: rs,o,h=>by
  simp only[RRel]
  obtain⟨h1,h2⟩:=h 0 r rfl
  refine⟨h1,by simpa using h2,rW fun i q hq=>?_⟩
  have:=h (i + 1) q (by simpa using hq)
  rw[show o + sz + i * sz=o + (i + 1) * sz by rw[Nat.succ_mul]; omega]
  exact this
theorem S5 {K:Cx} {c:AV} {v:Value} (h:Dx c=true) (hr:As K c v):As K.frz c v:=by
 cases c <;> simp only[Dx] at h <;> first
  | (simp only[As,Cx.frz_frz] at hr ⊢; exact hr)
  | cases h
def Cx.shed (K:Cx) (ids:List Nat):Cx:={ K with L:=fun b=>K.L b∧∀ i∈ids,(K.ι i).1≠b }
theorem TJ (K:Cx) (ids:List Nat):K.Step (K.shed ids):=⟨Nat.le_refl _,fun _ _=>rfl,rfl,rfl,rfl,Nat.le_refl _,fun b hb hl=>⟨rfl,fun e=>hl e.1⟩,rfl,fun _ h=>h⟩
theorem Ov:∀ (ids:List Nat) (h:AW) (j:Nat),(h.upd (drops ids)) j=if j∈ids then none else h j
 | [],h,j=>by simp[drops,AW.upd]
 | i :: ids,h,j=>by
  have ih:=Ov ids (h.put i none) j
  show ((h.put i none).upd (drops ids)) j=_
  rw[ih]
  by_cases e:j∈ids
  · rw[if_pos e,if_pos (List.mem_cons_of_mem i e)]
  · rw[if_neg e]
    by_cases e2:j=i
    · subst e2
      rw[AW.put_same,if_pos (List.mem_cons_self ..)]
    · rw[AW.put_other h e2,if_neg (by simp[e,e2])]
theorem Jy:∀ (a b:Ups) (h:AW),h.upd (a ++ b)=(h.upd a).upd b
 | [],_,_=>rfl
 | (i,o) :: a,b,h=>Jy a b (h.put i o)
section
variable {P:Program} {K:Cx} {base:Nat} {h:AW} {t:List AV} {a:Act}
theorem ABW (H:BW K base h) {ids:List Nat} (hids:∀ i∈ids,∃ o,h i=some o):BW (K.shed ids) base (h.upd (drops ids)):=by
 have key:∀ j o,(h.upd (drops ids)) j=some o→j∉ids∧h j=some o:=fun j o hj=>by
  rw[Ov] at hj
  split at hj
  · cases hj
  · rename_i e; exact⟨e,hj⟩
 refine⟨fun j o hj=>H.lt j o (key j o hj).2,fun j o hj=>?_,fun b hb=>H.bs b hb.1,H.XL,H.le,fun i j o p hi hj=>H.inj i j o p (key i o hi).2 (key j p hj).2,fun j o hj=>(H.obj j o (key j o hj).2).mono (TJ K ids).le rfl,H.gl_step (TJ K ids)⟩
 obtain⟨k1,k2⟩:=key j o hj
 refine⟨H.L j o k2,fun i hi=>?_⟩
 obtain⟨q,hq⟩:=hids i hi
 exact H.inj i j q o hq k2 (fun e=>k1 (e ▸ hi))
theorem nA (H:BW K base h) {ids:List Nat} {id:Nat} (hid:id∈ids) {o:C0} (ho:h id=some o):(K.shed ids).frz.free (K.ι id).1:=by
 have hL:=H.L id o ho
 have hb:=H.bs _ hL
 exact⟨hb.2,fun e=>e.2 id hid rfl,fun e=>by have:=H.XL _ e; omega⟩
theorem wP (H:BW K base h) {id off len sz:Nat} {rows rs:List (List AV)} (hrows:Bn h sz (.osl id off len sz)=some rows) {K2:Cx} (hw:K2.w=K.w) (hb:K2.free (K.ι id).1) (hlen:rs.length=rows.length)
 (hcell:∀ (i:Nat) (r:List AV),rs[i]? = some r→∃ q,rows[i]? = some q∧r.length=q.length∧∀ (j:Nat) (c:AV),r[j]? = some c→∃ c0,q[j]? = some c0∧∀ v,As K c0 v→As K2.frz c v)
 {x:Value} (hx:As K (.osl id off len sz) x):As K2 (.fsl sz rs) x:=by
 obtain⟨A,c,e,h3⟩:=Lh H hrows (fun b e=>by cases e) hx
 simp only[As] at hx ⊢
 obtain⟨hlt,A',cap,e',g2,g3,g4⟩:=hx
 rw[e] at e'
 injection e' with e5 e6 e7
 rcases Nat.eq_zero_or_pos rows.length with h0 | h0
 · have:rs=[]:=List.eq_nil_of_length_eq_zero (by omega)
   subst this
   exact⟨A,c,by rw[e,h0]; rfl,by rw[e5]; simp,by simp,.inl rfl⟩
 · rcases h3 with rfl | ⟨b,p,rfl,h3⟩
   · exact absurd h0 (Nat.lt_irrefl 0)
   · have hA:A' = ⟨(K.ι id).1,((K.ι id).2.1 + off) * sz,none⟩:=by
      rcases g4 with g4 | g4
      · omega
      · exact g4
     have hbb:b=(K.ι id).1:=by
      rw[hA] at e5
      injection e5 with e5
      injection e5
     refine⟨_,c,by rw[hlen]; exact e,by simp,by omega,.inr ⟨b,p,rfl,rW fun i r hi=>?_⟩⟩
     obtain⟨q,q1,q2,q3⟩:=hcell i r hi
     obtain⟨k1,k2⟩:=h3 i q q1
     refine⟨q2.trans k1,aM fun j d hj=>?_⟩
     obtain⟨c0,m1,m2⟩:=q3 j d hj
     obtain⟨v,n1,n2,n3⟩:=k2 j c0 m1
     exact⟨v,by rw[Cx.frz_free,hbb]; exact hb,by rw[Cx.frz_w,hw]; exact n1,n2,m2 v n3⟩
theorem ER {id off len sz:Nat} {rows:List (List AV)} (hr:Bn h sz (.osl id off len sz)=some rows):∃ o,h id=some o:=by
 unfold Bn at hr
 simp only[if_true] at hr
 split at hr
 · exact⟨_,by assumption⟩
 · cases hr
theorem ACt {c d:AV} {ids:List Nat} (hc:bT h c=some (d,ids)):∀ i∈ids,∃ o,h i=some o:=fun i hi=>by
 unfold bT at hc
 split at hc
 · split at hc
   · rename_i hr
     split at hc
     · cases hc
       rw[List.mem_singleton.1 hi]
       exact ER hr
     · cases hc
   · cases hc
 · split at hc
   · cases hc; cases hi
   · cases hc
theorem ACu (H:BW K base h) {c d:AV} {ids ids0:List Nat} (hc:bT h c=some (d,ids)) (hs:∀ i∈ids,i∈ids0) {v:Value} (hv:As K c v):As (K.shed ids0).frz d v:=by
 have hle:K.frz.Le (K.shed ids0).frz:=(TJ K ids0).le.frz
 unfold bT at hc
 split at hc
 · rename_i id off len sz
   split at hc
   · rename_i rows hr
     split at hc
     · rename_i hno
       cases hc
       obtain⟨o,ho⟩:=ER hr
       refine wP H hr (K2:=(K.shed ids0).frz) rfl (nA H (hs id (List.mem_singleton.2 rfl)) ho) rfl (fun i r hi=>⟨r,hi,rfl,fun j e hj=>⟨e,hj,fun v hv=>?_⟩⟩) hv
       have g1:=List.all_eq_true.1 hno r (List.mem_of_getElem? hi)
       rw[Cx.frz_frz]
       exact (S5 (List.all_eq_true.1 g1 e (List.mem_of_getElem? hj)) hv).mono hle
     · cases hc
   · cases hc
 · split at hc
   · rename_i hno
     cases hc
     exact (S5 hno hv).mono hle
   · cases hc
theorem oB:∀ {cs ds:List AV} {ids:List Nat},oA h cs=some (ds,ids)→ds.length=cs.length∧(∀ i∈ids,∃ o,h i=some o)∧∀ (j:Nat) (d:AV),ds[j]? = some d→∃ c ids',cs[j]? = some c∧bT h c=some (d,ids')∧∀ i∈ids',i∈ids
 | [],ds,ids,hl=>by
  cases hl
  exact⟨rfl,(fun i hi=>nomatch hi),fun j d hj=>by simp at hj⟩
 | c :: cs,ds,ids,hl=>by
  simp only[oA] at hl
  split at hl
  · rename_i v x vs y h1 h2
    cases hl
    obtain⟨k1,k2,k3⟩:=oB h2
    refine⟨by simp[k1],fun i hi=>?_,fun j d hj=>?_⟩
    · rcases List.mem_append.1 hi with hi | hi
      · exact ACt h1 i hi
      · exact k2 i hi
    · cases j with
      | zero=>
       simp at hj
       subst hj
       exact⟨c,x,rfl,h1,fun i hi=>List.mem_append_left _ hi⟩
      | succ j=>
       obtain⟨e,ids',q1,q2,q3⟩:=k3 j d (by simpa using hj)
       exact⟨e,ids',by simpa using q1,q2,fun i hi=>List.mem_append_right _ (q3 i hi)⟩
  · cases hl
theorem aN:∀ {rows rs:List (List AV)} {ids:List Nat},gS h rows=some (rs,ids)→rs.length=rows.length∧(∀ i∈ids,∃ o,h i=some o)∧∀ (i:Nat) (r:List AV),rs[i]? = some r→∃ q ids',rows[i]? = some q∧oA h q=some (r,ids')∧∀ i∈ids',i∈ids
 | [],rs,ids,hl=>by
  cases hl
  exact⟨rfl,(fun i hi=>nomatch hi),fun j d hj=>by simp at hj⟩
 | c :: cs,ds,ids,hl=>by
  simp only[gS] at hl
  split at hl
  · rename_i v x vs y h1 h2
    cases hl
    obtain⟨k1,k2,k3⟩:=aN h2
    refine⟨by simp[k1],fun i hi=>?_,fun j d hj=>?_⟩
    · rcases List.mem_append.1 hi with hi | hi
      · exact (oB h1).2.1 i hi
      · exact k2 i hi
    · cases j with
      | zero=>
       simp at hj
       subst hj
       exact⟨c,x,rfl,h1,fun i hi=>List.mem_append_left _ hi⟩
      | succ j=>
       obtain⟨e,ids',q1,q2,q3⟩:=k3 j d (by simpa using hj)
       exact⟨e,ids',by simpa using q1,q2,fun i hi=>List.mem_append_right _ (q3 i hi)⟩
  · cases hl
theorem AEE (H:BW K base h) {id off len sz:Nat} {rows rs:List (List AV)} {ids:List Nat} (hr:Bn h sz (.osl id off len sz)=some rows) (hf:gS h rows=some (rs,ids)) {x:Value} (hx:As K (.osl id off len sz) x) :
 As (K.shed (id :: ids)) (.fsl sz rs) x:=by
 obtain⟨o,ho⟩:=ER hr
 obtain⟨k1,_,k3⟩:=aN hf
 refine wP H hr (K2:=K.shed (id :: ids)) rfl (nA H (List.mem_cons_self ..) ho) k1 (fun i r hi=>?_) hx
 obtain⟨q,ids',q1,q2,q3⟩:=k3 i r hi
 obtain⟨l1,_,l3⟩:=oB q2
 refine⟨q,q1,l1,fun j c hj=>?_⟩
 obtain⟨c0,ids2,m1,m2,m3⟩:=l3 j c hj
 exact⟨c0,m1,fun v hv=>ACu H m2 (fun i hi=>List.mem_cons_of_mem id (q3 i (m3 i hi))) hv⟩
theorem oE (H:BW K base h) (ht:VRels K t a.tmps.toList) {o:Oper} {x y:Operand} {args:Array Operand} {ats:Array TypeId} {tx ty e:TypeId} {d:TypeDesc} (ho:o.op = .call { callee:=.builtin .append,args:=args,argTypes:=ats }) (ha:args.toList=[x,y]) (hat:ats.toList=[tx,ty])
 {u v r:AV} {us:Ups} (hx:A0 t x=some u) (hy:A0 t y=some v) (hu:P.underlying tx=some (.slice e)) (hd:P.underlying ty=some d) (hk:∀ k,d ≠ .int k) (hr:Mo P h K.c tx e u v=some (r,us)) :
 DZ K base (h.upd us) (K.c + 1) r ((execOp a.eval o).run P K.w):=by
 have plain:Br P h K.c e u v=some (r,us)→DZ K base (h.upd us) (K.c + 1) r ((execOp a.eval o).run P K.w):=fun hr=>
  RV H ht ho ha hat hx (BD ht hy) hu hd hk hr
 unfold Mo at hr
 split at hr
 · unfold EW at hr
   split at hr
   · rename_i id off len sz
     split at hr
     · rename_i rows hrows
       split at hr
       · exact plain hr
       · split at hr
         · rename_i rs ids hf
           obtain⟨⟨r',us'⟩,h1,h2⟩:=Option.map_eq_some_iff.1 hr
           cases h2
           obtain⟨q,hq⟩:=ER hrows
           have hids:∀ i∈id :: ids,∃ o,h i=some o:=fun i hi=>by
            rcases List.mem_cons.1 hi with rfl | hi
            · exact⟨q,hq⟩
            · exact (aN hf).2.1 i hi
           have S:=TJ K (id :: ids)
           obtain⟨K',z,g1,g2,g3,g4,g5⟩:=RV (K:=K.shed (id :: ids)) (a:=a) (ABW H hids) (ht.mono S.le) ho ha hat hx (AEE H hrows hf (BD ht hy)) hu hd hk h1
           refine⟨K',z,g1,S.trans g2,?_,g4,g5⟩
           rw[Jy]
           exact g3
         · cases hr
     · cases hr
   · exact plain hr
 · exact plain hr
end
end Go.Vm
namespace Go.Vm
open Go
section
variable {P:Program} {K:Cx} {base:Nat} {h:AW} {t:List AV} {a:Act}
theorem Az {x:Option AV} {v:AV} {us:Ups} (h:x.map (fun y=>(y,([]:Ups)))=some (v,us)):x=some v∧us=[]:=by
 obtain⟨y,h1,h2⟩:=Option.map_eq_some_iff.1 h
 cases h2
 exact⟨h1,rfl⟩
theorem Wn (H:BW K base h) (ht:VRels K t a.tmps.toList) {o:Oper} {v:AV} {us:Ups} (ho:aop P o t h K.c=some (v,us)) :
 DZ K base (h.upd us) (if Be o.op then K.c + 1 else K.c) v ((execOp a.eval o).run P K.w):=by
 unfold aop at ho
 split at ho
 · rename_i x hop
   obtain⟨h1,rfl⟩:=Az ho
   simp only[hop,Be]
   exact lI H ht (.inl hop) h1
 · rename_i x hop
   obtain⟨h1,rfl⟩:=Az ho
   simp only[hop,Be]
   exact lI H ht (.inr hop) h1
 · rename_i c x y hop
   simp only[hop,Be]
   split at ho
   · rename_i hc
     obtain⟨h1,rfl⟩:=Az ho
     exact l6 H ht hop hc (by simpa using h1)
   · rename_i hc
     obtain⟨h1,rfl⟩:=Az ho
     exact l6 H ht hop hc (by simpa using h1)
   · cases ho
 · rename_i e hop
   simp only[hop,Be]
   split at ho
   · rename_i cs hz
     cases ho
     exact yX H hop hz
   · cases ho
 · rename_i e x hop
   simp only[hop,Be]
   split at ho
   · rename_i cs hz
     cases ho
     exact ACz H ht hop hz
   · cases ho
 · rename_i ty ps hop
   simp only[hop,Be]
   split at ho
   · rename_i z pl vs h1 h2 h3
     obtain⟨cs,h4,h5⟩:=Option.map_eq_some_iff.1 ho
     cases h5
     exact yY H ht hop h1 h2 h3 h4
   · cases ho
 · rename_i ty len ps hop
   simp only[hop,Be]
   split at ho
   · rename_i e he
     split at ho
     · rename_i sz z vs h1 h2 h3
       split at ho
       · rename_i hc
         obtain⟨rows,h4,h5⟩:=Option.map_eq_some_iff.1 ho
         cases h5
         exact Yr H ht hop he h1 h2 h3 hc h4
       · cases ho
     · cases ho
   · cases ho
 · rename_i ty x hop
   simp only[hop,Be]
   split at ho
   · rename_i p hp
     obtain⟨h1,rfl⟩:=Az ho
     exact ABU H ht hop hp h1
   · cases ho
 · rename_i ty x y hop
   simp only[hop,Be]
   split at ho
   · rename_i p u h1 h2
     obtain⟨us',h3,h4⟩:=Option.map_eq_some_iff.1 ho
     cases h4
     exact y5 H ht hop h1 h2 h3
   · cases ho
 · rename_i x hop
   simp only[hop,Be]
   split at ho
   · rename_i id i sz off hx
     cases ho
     exact T7 H ht hop hx (.inl ⟨_,_,_,_,rfl⟩)
   · rename_i r off hx
     cases ho
     exact T7 H ht hop hx (.inr ⟨_,_,rfl⟩)
   · cases ho
 · rename_i op xt x y yt hop
   simp only[hop,Be]
   split at ho
   · rename_i hpl
     simp only[Bool.and_eq_true] at hpl
     have hus:us=[]:=by
      split at ho
      · cases ho; rfl
      · exact (Az ho).2
     subst hus
     exact ACy H ht hop hpl.1 hpl.2 ho
   · obtain⟨b,h1,h2⟩:=Option.map_eq_some_iff.1 ho
     cases h2
     exact AC0 H ht hop h1
 · rename_i op xt x hop
   simp only[hop,Be]
   split at ho
   · rename_i hpl
     obtain⟨h1,rfl⟩:=Az ho
     exact AEH H ht hop hpl h1
   · cases ho
 · rename_i src dst x hop
   simp only[hop,Be]
   split at ho
   · rename_i b sd e h1 h2 h0
     split at ho
     · rename_i i h3 h4
       split at ho
       · rename_i hc
         cases ho
         exact oH H ht hop h1 h2 h0 h3 h4 hc
       · cases ho
     · cases ho
   · rename_i b h1 h2 h0
     split at ho
     · rename_i hpl
       obtain⟨h1,rfl⟩:=Az ho
       exact RW H ht hop hpl h1
     · cases ho
   · rename_i v' e hns h1 h2 h0
     split at ho
     · rename_i bs h5 h6
       cases ho
       exact y6 H ht hop h1 (fun b e=>hns b e) h2 h5 h0 h6
     · cases ho
   · rename_i v' sd dd g1 g2 g3 h1 h2 h0
     split at ho
     · rename_i hpl
       obtain⟨h1',rfl⟩:=Az ho
       exact RW H ht hop (by unfold BP; rw[h1]; exact hpl) h1'
     · cases ho
   · cases ho
 · rename_i f first caps hop
   simp only[hop,Be]
   split at ho
   · rename_i h0
     obtain⟨vs,h1,h2⟩:=Option.map_eq_some_iff.1 ho
     cases h2
     exact gT H ht hop h0 h1
   · cases ho
 · rename_i ty l c hop
   simp only[hop,Be]
   split at ho
   · rename_i e he
     split at ho
     · rename_i sz b z ln cp h1 h2 h3 h4 h5
       split at ho
       · rename_i hc
         cases ho
         exact bY H ht hop he h1 h2 h3 h4 h5 hc
       · cases ho
     · cases ho
   · cases ho
 · rename_i xt x lo hi mx hop
   simp only[hop,Be]
   split at ho
   · rename_i v' l u m e h1 h2 h3 h4 h5
     split at ho
     · rename_i z hz
       split at ho
       · rename_i id off len sz
         split at ho
         · rename_i e1
           subst e1
           obtain⟨h6,rfl⟩:=Az ho
           exact O5 H ht hop h1 h2 h3 h4 h5 hz (.inl ⟨_,_,_,rfl⟩) h6
         · cases ho
       · rename_i sz rows
         split at ho
         · rename_i e1
           subst e1
           obtain⟨h6,rfl⟩:=Az ho
           exact O5 H ht hop h1 h2 h3 h4 h5 hz (.inr (.inl ⟨_,rfl⟩)) h6
         · cases ho
       · obtain⟨h6,rfl⟩:=Az ho
         exact O5 H ht hop h1 h2 h3 h4 h5 hz (.inr (.inr (.inl rfl))) h6
       · obtain⟨h6,rfl⟩:=Az ho
         exact O5 H ht hop h1 h2 h3 h4 h5 hz (.inr (.inr (.inr rfl))) h6
       · cases ho
     · cases ho
   · rename_i v' l u h1 h2 h3 h4 h5
     split at ho
     · rename_i b
       obtain⟨h6,rfl⟩:=Az ho
       have hm:mx=none:=by
        cases mx with
        | none=>rfl
        | some m=>
         simp only[Eu] at h4
         split at h4 <;> cases h4
       subst hm
       exact gV H ht hop h1 h2 h3 h5 h6
     · cases ho
   · cases ho
 · rename_i xt x f hop
   simp only[hop,Be]
   split at ho
   · rename_i u h1
     obtain⟨h6,rfl⟩:=Az ho
     exact bU H ht hop h1 h6
   · cases ho
 · rename_i xt x f hop
   simp only[hop,Be]
   split at ho
   · rename_i cs fields h1 h2
     split at ho
     · rename_i fd h3
       obtain⟨h6,rfl⟩:=Az ho
       exact yI H ht hop h1 h2 h3 h6
     · cases ho
   · cases ho
 · rename_i xt x i hop
   simp only[hop,Be]
   split at ho
   · rename_i u j h1 h2
     obtain⟨h6,rfl⟩:=Az ho
     exact bV H ht hop h1 h2 h6
   · cases ho
 · rename_i xt x i hop
   simp only[hop,Be]
   split at ho
   · rename_i b j h1 h2 h3
     split at ho
     · rename_i hj
       cases ho
       exact bX H ht hop h1 h2 h3 hj
     · cases ho
   · rename_i cs j len e h1 h2 h3
     split at ho
     · rename_i z hz
       split at ho
       · rename_i hj
         obtain⟨h6,rfl⟩:=Az ho
         exact bW H ht hop h1 h2 h3 hz hj h6
       · cases ho
     · cases ho
   · cases ho
 · rename_i x i hop
   simp only[hop,Be]
   split at ho
   · rename_i vs h1
     obtain⟨h6,rfl⟩:=Az ho
     exact oF H ht hop h1 h6
   · cases ho
 · rename_i args ats hop
   simp only[hop,Be]
   split at ho
   · rename_i x hargs
     split at ho
     · rename_i u h1
       have hb:∀ {d:TypeDesc},(ats[0]?).bind P.underlying=some d→∃ ty,ats[0]? = some ty∧P.underlying ty=some d:=fun {d} hd=>Option.bind_eq_some_iff.1 hd
       split at ho
       all_goals first
        | cases ho; done
        | skip
       · rename_i e id off len sz h2
         obtain⟨ty,k1,k2⟩:=hb h2
         simp only[lenOf,Option.map_some,Option.some.injEq] at ho
         cases ho
         exact Nw H ht hop hargs h1 k1 k2 (.inl ⟨⟨_,rfl⟩,_,_,_,_,rfl,rfl⟩)
       · rename_i e sz rows h2
         obtain⟨ty,k1,k2⟩:=hb h2
         simp only[lenOf,Option.map_some,Option.some.injEq] at ho
         cases ho
         exact Nw H ht hop hargs h1 k1 k2 (.inr (.inl ⟨⟨_,rfl⟩,_,_,rfl,rfl⟩))
       · rename_i e h2
         obtain⟨ty,k1,k2⟩:=hb h2
         simp only[lenOf,Option.map_some,Option.some.injEq] at ho
         cases ho
         exact Nw H ht hop hargs h1 k1 k2 (.inr (.inr (.inl ⟨⟨_,rfl⟩,rfl,rfl⟩)))
       · rename_i e h2
         obtain⟨ty,k1,k2⟩:=hb h2
         simp only[lenOf,Option.map_some,Option.some.injEq] at ho
         cases ho
         exact Nw H ht hop hargs h1 k1 k2 (.inr (.inr (.inr (.inl ⟨⟨_,rfl⟩,rfl,rfl⟩))))
       · rename_i b h2
         obtain⟨ty,k1,k2⟩:=hb h2
         simp only[lenOf,Option.map_some,Option.some.injEq] at ho
         cases ho
         exact Nw H ht hop hargs h1 k1 k2 (.inr (.inr (.inr (.inr (.inl ⟨rfl,_,rfl,rfl⟩)))))
       · rename_i k e h2
         obtain⟨ty,k1,k2⟩:=hb h2
         cases ho
         exact Nw H ht hop hargs h1 k1 k2 (.inr (.inr (.inr (.inr (.inr ⟨_,rfl⟩)))))
       · rename_i kt et id h2
         obtain⟨ty,k1,k2⟩:=hb h2
         split at ho
         · split at ho
           · rename_i es hid
             cases ho
             exact ABT H ht hop hargs h1 k1 k2 hid
           · cases ho
         · cases ho
       · rename_i kt et es h2
         obtain⟨ty,k1,k2⟩:=hb h2
         cases ho
         exact ABS H ht hop hargs h1 k1 k2
     · cases ho
   · cases ho
 · rename_i args ats hop
   simp only[hop,Be]
   split at ho
   · rename_i x y tx ty hargs hats
     split at ho
     · rename_i u v' e d' h1 h2 h3 h4
       exact oE H ht hop hargs hats h1 h2 (Nu h3) h4 (fun k e=>by cases e) ho
     · rename_i u v' e h1 h2 h3 h4
       exact RV H ht hop hargs hats h1 (BD ht h2) (Nu h3) h4 (fun k e=>by cases e) ho
     · rename_i k m e k' h1 h2 h3 h4
       exact ABR H ht hop hargs hats h1 h2 (Nu h3) h4 ho
     · cases ho
   · cases ho
 · rename_i args ats hop
   simp only[hop,Be]
   split at ho
   · rename_i x tx hargs hats
     split at ho
     · rename_i u e h1 h2
       exact yZ H ht hop hargs hats h1 (Nu h2) ho
     · cases ho
   · cases ho
 · rename_i b args ats hb1 hb2 hb3 hop
   split at ho
   · split at ho
     · rename_i hpl
       obtain⟨h6,rfl⟩:=Az ho
       simp only[hop,Be]
       exact Ly H ht hop hpl h6
     · cases ho
   · split at ho
     · rename_i hpl
       obtain⟨h6,rfl⟩:=Az ho
       simp only[hop,Be]
       exact Ly H ht hop hpl h6
     · cases ho
   · split at ho
     · rename_i hpl
       obtain⟨h6,rfl⟩:=Az ho
       simp only[hop,Be]
       exact Ly H ht hop hpl h6
     · cases ho
   · cases ho
 · exact uM H ht ho
end
end Go.Vm
namespace Go.Vm
open Go
section
variable {P:Program} {K:Cx} {base:Nat} {h:AW} {t:List AV} {a:Act}
theorem ACI (H:BW K base h) (ht:VRels K t a.tmps.toList) {o:Oper} {ty:TypeId} {len:Nat} {ps:Array (Nat × Operand)} {v:AV} (ho:o.op = .buildSlice ty len ps) (hv:Rh P t ty len ps.toList=some v) :
 DZ K base h K.c v ((execOp a.eval o).run P K.w):=by
 unfold Rh at hv
 split at hv
 case h_2=>cases hv
 rename_i e he
 split at hv
 case h_2=>cases hv
 rename_i sz z vs h1 h2 h3
 split at hv
 case isFalse=>cases hv
 rename_i hc
 split at hv
 case h_2=>cases hv
 rename_i rows hf
 split at hv
 case isFalse=>cases hv
 rename_i hno
 cases hv
 obtain⟨arr,e1,e2,e3,e4⟩:=Si (K:=K) ht he h1 h2 h3 hc hf
 have S:=JD H (.cells arr e)
 have hfree:(K.allocFree (.cells arr e)).free K.w.heap.size:=by
  refine⟨by simp[Cx.allocFree],fun hl=>?_,fun hx=>?_⟩
  · have:=(H.bs _ hl).2; omega
  · have:=H.XL _ hx; have:=H.le; omega
 refine Es (K':=K.allocFree (.cells arr e)) (x:=.slice (some ⟨K.w.heap.size,0,none⟩) len len) ?_ S (LI H _) rfl ?_
 · simp only[execOp,ho]
   apply FX
   have hm:(ps.map fun p=>(p.1,a.eval p.2))=(ps.toList.map fun p=>(p.1,a.eval p.2)).toArray:=by apply Array.ext'; simp
   rw[← hm] at e1
   exact e1
 · simp only[As]
   refine⟨_,len,by rw[e4],by simp,by omega,.inr ⟨K.w.heap.size,0,rfl,rW fun i r hi=>⟨(e2 i r hi).1,aM fun j c hj=>?_⟩⟩⟩
   obtain⟨v,k1,k2,k3⟩:=(e2 i r hi).2 j c hj
   refine⟨v,hfree,?_,k2,S5 ?_ (k3.mono S.le)⟩
   · have hb:(K.allocFree (.cells arr e)).w.heap[K.w.heap.size]? = some (.cells arr e):=World.alloc_heap_new _ _
     simp only[Cx.frz_w,World.cell?,hb,Nat.zero_add]
     simpa using k1
   · have g1:=List.all_eq_true.1 hno r (List.mem_of_getElem? hi)
     exact List.all_eq_true.1 g1 c (List.mem_of_getElem? hj)
theorem ABQ (H:BW K base h) (ht:VRels K t a.tmps.toList) {o:Oper} {e:TypeId} {x:Operand} {v:AV} (ho:o.op = .box e x) (hv:Lv t x=some v) :
 DZ K base h K.c v ((execOp a.eval o).run P K.w):=by
 unfold Lv at hv
 split at hv
 case h_2=>cases hv
 rename_i y hx
 cases hv
 obtain⟨u,h1,h2⟩:=Option.bind_eq_some_iff.1 hx
 obtain⟨h3,h4⟩:=KC h2 (BD ht h1)
 have S:=JD H (.cells (a.eval x).cells e)
 have hfree:(K.allocFree (.cells (a.eval x).cells e)).free K.w.heap.size:=by
  refine⟨by simp[Cx.allocFree],fun hl=>?_,fun hx=>?_⟩
  · have:=(H.bs _ hl).2; omega
  · have:=H.XL _ hx; have:=H.le; omega
 refine Es (K':=K.allocFree (.cells (a.eval x).cells e)) (x:=.pointer (some ⟨K.w.heap.size,0,none⟩)) ?_ S (LI H _) rfl ?_
 · simp only[execOp,ho]
   apply FX
   simp only[Instr.box,newVar,newRow,Sem.run_bind,run_newObj_alloc,Result.andThen_ok,Sem.run_pure]
   rfl
 · simp only[As]
   refine⟨K.w.heap.size,0,rfl,aM fun j c hj=>?_⟩
   cases j with
   | succ j=>simp at hj
   | zero=>
    simp only[List.getElem?_cons_zero,Option.some.injEq] at hj
    subst hj
    obtain⟨w,k1,k2⟩:=h3.get (i:=0) rfl
    refine⟨w,hfree,?_,h4 w (List.mem_of_getElem? k1),S5 rfl (k2.mono S.le)⟩
    have hb:(K.allocFree (.cells (a.eval x).cells e)).w.heap[K.w.heap.size]? = some (.cells (a.eval x).cells e):=World.alloc_heap_new _ _
    simp only[Cx.frz_w,World.cell?,hb,Nat.zero_add]
    simpa using k1
structure Nr (K K2:Cx) (own:Bool):Prop where
 w:K2.w=K.w
 fr:∀ b,K.free b→K2.free b
 L:own=true→∀ b,K.L b→K2.free b
theorem Nr.le0 {K K2:Cx} {own:Bool} (h:Nr K K2 own):K.frz.Le K2.frz:=
 ⟨Nat.le_refl 0,fun _ hi=>absurd hi (Nat.not_lt_zero _),fun b v o hf hc=>⟨h.fr b hf,by rw[Cx.frz_w,h.w]; exact hc⟩,fun b ms c hf hc=>⟨h.fr b hf,by rw[Cx.frz_w,h.w]; exact hc⟩⟩
theorem Nr.mono {K K2:Cx} {p q:Bool} (h:Nr K K2 p) (e:q=true→p=true):Nr K K2 q:=⟨h.w,h.fr,fun hq=>h.L (e hq)⟩
theorem Of {K K2:Cx} {f:AV→Option (AV × Bool)} {own:Bool} (hO:Nr K K2 own)
 (hf:∀ {c d:AV} {p:Bool} {v:Value},f c=some (d,p)→(p=true→own=true)→As K c v→As K2.frz d v) :
 ∀ {cs ds:List AV} {p:Bool} {vs:List Value},B4 f cs=some (ds,p)→(p=true→own=true)→VRels K cs vs→VRels K2.frz ds vs
 | [],ds,p,vs,h,_,hr=>by
  simp only[B4,Option.some.injEq,Prod.mk.injEq] at h
  obtain⟨rfl,_⟩:=h
  cases vs with
  | nil=>simp[VRels]
  | cons=>simp[VRels] at hr
 | c :: cs,ds,p,vs,h,hp,hr=>by
  simp only[B4] at h
  split at h
  · rename_i d a ds' b h1 h2
    simp only[Option.some.injEq,Prod.mk.injEq] at h
    obtain⟨rfl,rfl⟩:=h
    cases vs with
    | nil=>simp[VRels] at hr
    | cons v vs=>
     simp only[VRels] at hr ⊢
     exact⟨hf h1 (fun e=>hp (by rw[e]; rfl)) hr.1,Of hO hf h2 (fun e=>hp (by rw[e]; simp)) hr.2⟩
  · cases h
theorem VL {K K2:Cx} {f:AV→Option (AV × Bool)} (hO:Nr K K2 true) {b:Nat} (hb:K2.free b)
 (hf:∀ {c d:AV} {p:Bool} {v:Value},f c=some (d,p)→As K c v→As K2.frz d v)
 (hone:∀ {c d:AV} {p:Bool},f c=some (d,p)→True) :
 ∀ {cs ds:List AV} {p:Bool} {o:Nat},B4 f cs=some (ds,p)→Nq K b o cs→CRel K2.frz b o ds∧ds.length=cs.length
 | [],ds,p,o,h,_=>by
  simp only[B4,Option.some.injEq,Prod.mk.injEq] at h
  obtain⟨rfl,_⟩:=h
  simp[CRel]
 | c :: cs,ds,p,o,h,hl=>by
  simp only[B4] at h
  split at h
  · rename_i d a ds' q h1 h2
    simp only[Option.some.injEq,Prod.mk.injEq] at h
    obtain⟨rfl,_⟩:=h
    obtain⟨v,k1,k2,k3⟩:=hl 0 c rfl
    have hl':Nq K b (o + 1) cs:=fun j d hj=>by
     have:=hl (j + 1) d (by simpa using hj)
     rw[show o + 1 + j=o + (j + 1) by omega]
     exact this
    obtain⟨g1,g2⟩:=VL hO hb hf hone h2 hl'
    refine⟨?_,by simp[g2]⟩
    simp only[CRel]
    exact⟨⟨v,hb,by rw[Cx.frz_w,hO.w]; simpa using k1,k2,hf h1 k3⟩,g1⟩
  · cases h
theorem fS {K K2:Cx} {f:AV→Option (AV × Bool)} (hO:Nr K K2 true) {b sz:Nat} (hb:K2.free b)
 (hf:∀ {c d:AV} {p:Bool} {v:Value},f c=some (d,p)→As K c v→As K2.frz d v) :
 ∀ {rows rs:List (List AV)} {o:Nat},M3 f rows=some rs→(∀ (i:Nat) (r:List AV),rows[i]? = some r→r.length=sz∧Nq K b (o + i * sz) r)→RRel K2.frz b o sz rs∧rs.length=rows.length
 | [],rs,o,h,_=>by
  simp only[M3,Option.some.injEq] at h
  subst h
  simp[RRel]
 | r :: rows,rs,o,h,hl=>by
  simp only[M3] at h
  split at h
  · rename_i d a rs' h1 h2
    simp only[Option.some.injEq] at h
    subst h
    obtain⟨k1,k2⟩:=hl 0 r rfl
    obtain⟨g1,g2⟩:=VL hO hb hf (fun _=>trivial) h1 (by simpa using k2)
    obtain⟨g3,g4⟩:=fS (o:=o + sz) hO hb hf h2 (fun i q hq=>by
     have:=hl (i + 1) q (by simpa using hq)
     rw[show o + sz + i * sz=o + (i + 1) * sz by rw[Nat.succ_mul]; omega]
     exact this)
    simp only[RRel,List.length_cons,g4,and_true]
    exact⟨by rw[g2,k1],g1,g3⟩
  · cases h
theorem Ya {K:Cx}:∀ {es:List (Value × AV)} {vs:List (Value × Value)},EF es=some vs→es.length=vs.length∧∀ (i:Nat) (e:Value × Value),vs[i]? = some e→∃ a,es[i]? = some (e.1,a)∧∀ x,As K a x→x=e.2
 | [],vs,h=>by cases h; exact⟨rfl,fun i e hi=>by simp at hi⟩
 | (k,a) :: es,vs,h=>by
  have key:∃ v l,EF es=some l∧vs=(k,v) :: l∧∀ x,As K a x→x=v:=by
   cases a with
   | s v=>
    simp only[EF] at h
    obtain⟨l,h1,rfl⟩:=Option.map_eq_some_iff.1 h
    exact⟨v,l,h1,rfl,fun x hx=>by simpa[As] using hx⟩
   | fn f cs=>
    cases cs with
    | nil=>
     simp only[EF] at h
     obtain⟨l,h1,rfl⟩:=Option.map_eq_some_iff.1 h
     refine⟨_,l,h1,rfl,fun x hx=>?_⟩
     simp only[As] at hx
     obtain⟨cv,rfl,hc⟩:=hx
     have:cv.toList=[]:=by
      cases hl:cv.toList with
      | nil=>rfl
      | cons y ys=>rw[hl] at hc; simp[VRels] at hc
     have:cv = #[]:=by
      apply Array.ext'
      simpa using this
     rw[this]
    | cons c cs=>simp[EF] at h
   | _=>simp[EF] at h
  obtain⟨v,l,h1,rfl,h3⟩:=key
  obtain⟨g1,g2⟩:=Ya (K:=K) h1
  refine⟨by simp[g1],fun i e hi=>?_⟩
  cases i with
  | zero=>
   simp only[List.getElem?_cons_zero,Option.some.injEq] at hi
   subst hi
   exact⟨a,rfl,h3⟩
  | succ i=>
   simp only[List.getElem?_cons_succ] at hi ⊢
   exact g2 i e hi
theorem Wf {K K2:Cx} {base:Nat} {h:AW} (H:BW K base h):∀ (k:Nat) {own:Bool},Nr K K2 own→∀ {c d:AV} {p:Bool} {v:Value},CC h k c=some (d,p)→(p=true→own=true)→As K c v→As K2.frz d v:=by
 intro k
 induction k with
 | zero=>
  intro own hO c d p v hs hp hr
  cases c <;> simp only[CC,Option.some.injEq,Prod.mk.injEq,reduceCtorEq] at hs
  all_goals
   obtain⟨rfl,_⟩:=hs
   simp only[As,Cx.frz_frz] at hr ⊢
  · exact hr
  · obtain⟨b,o,e,hc⟩:=hr; exact⟨b,o,e,hc.mono hO.le0⟩
  · obtain⟨A,cap,e,hA,hle,hc⟩:=hr
    exact⟨A,cap,e,hA,hle,hc.imp id fun⟨b,o,e2,hc⟩=>⟨b,o,e2,hc.mono hO.le0⟩⟩
  · exact hr
  · obtain⟨b,ms,e,hf,hm,hk⟩:=hr
    exact⟨b,ms,e,hO.fr b hf,by rw[Cx.frz_w,hO.w]; exact hm,hk⟩
 | succ k ih=>
  intro own hO c d p v hs hp hr
  cases c <;> simp only[CC,Option.some.injEq,Prod.mk.injEq,reduceCtorEq] at hs
  case s=>
   obtain⟨rfl,_⟩:=hs
   simp only[As] at hr ⊢
   exact hr
  case agg cs=>
   obtain⟨⟨ds,q⟩,h1,h2⟩:=Option.map_eq_some_iff.1 hs
   cases h2
   simp only[As] at hr ⊢
   obtain⟨vs,rfl,hv⟩:=hr
   exact⟨vs,rfl,Of hO (fun g1 g2 g3=>ih hO g1 g2 g3) h1 hp hv⟩
  case tup cs=>
   obtain⟨⟨ds,q⟩,h1,h2⟩:=Option.map_eq_some_iff.1 hs
   cases h2
   simp only[As] at hr ⊢
   obtain⟨vs,rfl,hv⟩:=hr
   exact⟨vs,rfl,Of hO (fun g1 g2 g3=>ih hO g1 g2 g3) h1 hp hv⟩
  case ptr id i sz off=>
   split at hs
   · rename_i row hrow
     obtain⟨⟨ds,q⟩,h1,h2⟩:=Option.map_eq_some_iff.1 hs
     cases h2
     have hown:=hp rfl
     subst hown
     simp only[As] at hr ⊢
     obtain⟨hlt,rfl⟩:=hr
     have hid:∃ o,h id=some o:=by
      unfold Kh at hrow
      split at hrow
      · exact⟨_,by assumption⟩
      · cases hrow
     obtain⟨o,ho⟩:=hid
     have hb:=hO.L rfl _ (H.L id o ho)
     exact⟨_,_,rfl,by rw[Cx.frz_frz]; exact (VL hO hb (fun g1 g3=>ih hO g1 (fun _=>rfl) g3) (fun _=>trivial) h1 (QG H hrow)).1⟩
   · cases hs
  case fptr row off=>
   obtain⟨rfl,_⟩:=hs
   simp only[As,Cx.frz_frz] at hr ⊢
   obtain⟨b,o,e,hc⟩:=hr
   exact⟨b,o,e,hc.mono hO.le0⟩
  case osl id off len sz=>
   split at hs
   · rename_i rows hrows
     obtain⟨rs,h1,h2⟩:=Option.map_eq_some_iff.1 hs
     cases h2
     have hown:=hp rfl
     subst hown
     obtain⟨A,c,e,h3⟩:=Lh H hrows (fun b e=>by cases e) hr
     simp only[As] at hr ⊢
     obtain⟨hlt,A',cap,e',g2,g3,g4⟩:=hr
     rw[e] at e'
     injection e' with e5 e6 e7
     have hid:∃ o,h id=some o:=by
      unfold Bn at hrows
      simp only[if_true] at hrows
      split at hrows
      · exact⟨_,by assumption⟩
      · cases hrows
     obtain⟨o,ho⟩:=hid
     rcases h3 with rfl | ⟨b,p,rfl,h3⟩
     · simp only[M3,Option.some.injEq] at h1
       subst h1
       exact⟨A,c,by simpa using e,by rw[e5]; simp,by simp,.inl rfl⟩
     · rcases Nat.eq_zero_or_pos rows.length with h0 | h0
       · have:rows=[]:=List.eq_nil_of_length_eq_zero h0
         subst this
         simp only[M3,Option.some.injEq] at h1
         subst h1
         exact⟨_,c,by simpa using e,by simp,by simp,.inl rfl⟩
       · have hA:A' = ⟨(K.ι id).1,((K.ι id).2.1 + off) * sz,none⟩:=by
          rcases g4 with g4 | g4
          · omega
          · exact g4
         have hbb:b=(K.ι id).1:=by
          rw[hA] at e5
          injection e5 with e5
          injection e5
         have hb:K2.free b:=by rw[hbb]; exact hO.L rfl _ (H.L id o ho)
         obtain⟨k1,k2⟩:=fS hO hb (fun g1 g3=>ih hO g1 (fun _=>rfl) g3) h1 h3
         refine⟨_,c,by rw[k2]; exact e,by simp,by omega,.inr ⟨b,p,rfl,by rw[Cx.frz_frz]; exact k1⟩⟩
   · cases hs
  case mp id=>
   split at hs
   · rename_i es hid
     obtain⟨vs,h1,h2⟩:=Option.map_eq_some_iff.1 hs
     cases h2
     have hown:=hp rfl
     subst hown
     simp only[As] at hr ⊢
     obtain⟨hlt,rfl⟩:=hr
     obtain⟨ms,q1,q2,q3⟩:=H.obj id _ hid
     obtain⟨e1,e2⟩:=Ya (K:=K) h1
     refine⟨_,ms,rfl,hO.L rfl _ (H.L id _ hid),by rw[Cx.frz_w,hO.w,← e1]; exact q1,by rw[← e1]; exact q2,fun i e hi=>?_⟩
     obtain⟨a,g0,g3⟩:=e2 i e hi
     obtain⟨v,g1,g2⟩:=q3 i (e.1,a) g0
     rw[g3 v g2] at g1
     exact g1
   · cases hs
  case fmp es=>
   obtain⟨rfl,_⟩:=hs
   simp only[As] at hr ⊢
   obtain⟨b,ms,e,hf,hm,hk⟩:=hr
   exact⟨b,ms,e,hO.fr b hf,by rw[Cx.frz_w,hO.w]; exact hm,hk⟩
  case fsl sz rows=>
   obtain⟨rfl,_⟩:=hs
   simp only[As,Cx.frz_frz] at hr ⊢
   obtain⟨A,cap,e,hA,hle,hc⟩:=hr
   exact⟨A,cap,e,hA,hle,hc.imp id fun⟨b,o,e2,hc⟩=>⟨b,o,e2,hc.mono hO.le0⟩⟩
  case esl=>
   obtain⟨rfl,_⟩:=hs
   simp only[As] at hr ⊢
   exact hr
  case fn f caps=>
   obtain⟨⟨ds,q⟩,h1,h2⟩:=Option.map_eq_some_iff.1 hs
   cases h2
   simp only[As] at hr ⊢
   obtain⟨vs,rfl,hv⟩:=hr
   exact⟨vs,rfl,Of hO (fun g1 g2 g3=>ih hO g1 g2 g3) h1 hp hv⟩
  case any=>
   obtain⟨rfl,_⟩:=hs
   simp only[As]
end
end Go.Vm
namespace Go.Vm
open Go
theorem ACp {K K2:Cx} {c:AV} {v:Value} (h:TU c=true) (hr:As K c v):As K2 c v:=by
 have hs:∀ {cs:List AV} {vs:List Value},(cs.all fun | .s _=>true | _=>false)=true→VRels K cs vs→VRels K2 cs vs:=by
  intro cs
  induction cs with
  | nil=>intro vs _ hr; cases vs <;> simp_all [VRels]
  | cons c cs ih=>
   intro vs h hr
   cases vs with
   | nil=>simp[VRels] at hr
   | cons v vs=>
    simp only[VRels] at hr ⊢
    simp only[List.all_cons,Bool.and_eq_true] at h
    refine⟨?_,ih h.2 hr.2⟩
    cases c <;> first | (simp only[As] at hr ⊢; exact hr.1) | (exact absurd h.1 (by simp))
 cases c <;> simp only[TU] at h
 case s=>simp only[As] at hr ⊢; exact hr
 case agg cs=>
  simp only[As] at hr ⊢
  obtain⟨vs,e,hv⟩:=hr
  exact⟨vs,e,hs h hv⟩
 case tup cs=>
  simp only[As] at hr ⊢
  obtain⟨vs,e,hv⟩:=hr
  refine⟨vs,e,?_⟩
  clear e
  generalize vs.toList=ws at hv
  induction cs generalizing ws with
  | nil=>cases ws <;> simp_all [VRels]
  | cons c cs ih=>
   cases ws with
   | nil=>simp[VRels] at hv
   | cons w ws=>
    simp only[VRels] at hv ⊢
    simp only[List.all_cons,Bool.and_eq_true] at h
    refine⟨?_,ih h.2 ws hv.2⟩
    cases c with
    | s=>simp only[As] at hv ⊢; exact hv.1
    | agg ds=>
     simp only[As] at hv ⊢
     obtain⟨⟨us,e,hu⟩,_⟩:=hv
     exact⟨us,e,hs h.1 hu⟩
    | _=>exact absurd h.1 (by simp)
 all_goals cases h
def FF:Option Nat→Fence
 | none=>Fence.wide
 | some l=>Fence.wide.inRound l
theorem tB (r:Option Nat) (f:FuncId):(FF r).fn f:=by cases r <;> exact trivial
theorem aX (r:Option Nat):(FF r).depth=none:=by cases r <;> rfl
theorem ACM (r:Option Nat):(FF r).round=r:=by cases r <;> rfl
theorem tA {r:Option Nat} {N:Nat} {P:Program} {f:FuncId} {args:Array Value} {w:World} {R:Ending→World→Prop} (h:CallsIn Fence.wide N P f args w R):CallsIn (FF r) N P f args w R:=by
 cases r with
 | none=>exact h
 | some l=>exact h
theorem yJ (r:Option Nat) (l:Nat):(FF r).inRound l=FF (some l):=by cases r <;> rfl
def De (K:Cx) (base:Nat) (h':AW) (n':Nat) (v:AV):Ending→World→Prop:=fun e w'=>
 ∃ (K':Cx) (cv:Value),e = .returned cv∧K'.w=w'∧K.Step K'∧BW K' base h'∧K'.c=n'∧As K' v cv
def oW (r:Nat):Deferred:={ target:=.collected r,args:=#[] }
def LE (K K':Cx) (ms:List Nat) (a a':Act):Prop:=
 a'.defers=ms.map oW ++ a.defers∧ms.Nodup∧∀ m∈ms,K.w.heap.size≤m∧m < K'.w.heap.size∧¬ K'.L m∧K'.w.heap[m]? = some (.deferred (some []))
theorem LE.nil (K K':Cx) {a a':Act} (h:a'.defers=a.defers):LE K K' [] a a':=⟨by simpa using h,List.nodup_nil,fun m hm=>by simp at hm⟩
theorem LE.trans {A B C:Cx} {m1 m2:List Nat} {a b c:Act} (S1:A.Step B) (S2:B.Step C) (h1:LE A B m1 a b) (h2:LE B C m2 b c):LE A C (m2 ++ m1) a c:=by
 obtain⟨e1,n1,k1⟩:=h1
 obtain⟨e2,n2,k2⟩:=h2
 refine⟨by rw[e2,e1,List.map_append,List.append_assoc],?_,fun m hm=>?_⟩
 · rw[List.nodup_append]
   refine⟨n2,n1,fun x hx y hy e=>?_⟩
   subst e
   have:=(k2 x hx).1
   have:=(k1 x hy).2.1
   omega
 · rcases List.mem_append.1 hm with hm | hm
   · obtain⟨g1,g2,g3,g4⟩:=k2 m hm
     exact⟨Nat.le_trans S1.size g1,g2,g3,g4⟩
   · obtain⟨g1,g2,g3,g4⟩:=k1 m hm
     obtain⟨q1,q2⟩:=S2.keep m g2 g3
     exact⟨g1,Nat.lt_of_lt_of_le g2 S2.size,q2,q1.trans g4⟩
def AX.toExit:AX→Exit
 | .normal=>.normal
 | .exit id=>.exit id
 | .goto l=>.goto l
 | .ret=>.ret
structure He (K:Cx) (base:Nat) (a:Act) (s':St) (K':Cx) (a':Act) (ms:List Nat):Prop where
 step:K.Step K'
 heap:BW K' base s'.h
 n:K'.c=s'.n
 t:VRels K' s'.t a'.tmps.toList
 marks:LE K K' ms a a'
structure aZ (E:Env) (r:Rec):Prop where
 call:∀ f args h n v h' n',r.call f args h n=some (v,h',n')→∀ (K:Cx) (base:Nat) (cargs:Array Value),BW K base h→K.c=n→VRels K args cargs.toList→∀ N,CallsIn Fence.wide N E.P f cargs K.w (De K base h' n' v)
 body:∀ f args h n v h' n',r.call f args h n=some (v,h',n')→∃ fn,E.P.funcs[f]? = some fn∧fn.body.isSome=true
 code:∀ c s x s',Eq c=true→r.code c s=some (x,s')→∀ (K:Cx) (base:Nat) (rd:Option Nat) (N:Nat) (a:Act) (Q:Exit→Act→World→Prop),BW K base s.h→K.c=s.n→VRels K s.t a.tmps.toList→(∀ l,rd=some l→bI K.w l) →
  (∀ K' a' ms,He K base a s' K' a' ms→Q x.toExit a' K'.w)→c.wpIn (FF rd) N E.P Q a K.w
structure T0 (E:Env):Prop where
 name:∀ (f:FuncId) (fn:Func),E.P.funcs[f]? = some fn→(fn.name == "runtime.NumGoroutine")=false
 code:∀ (f:FuncId) (fn:Func) (c:Code),E.P.funcs[f]? = some fn→fn.body=some c→Eq c=true
 prim:∀ g p,E.prim g=some p→(∃ fn,E.P.funcs[g]? = some fn∧fn.body.isSome=true) ∧
  ∀ args v,p args=some v→∀ (K:Cx) (base:Nat) (h:AW) (cargs:Array Value),BW K base h→VRels K args cargs.toList→∀ N,CallsIn Fence.wide N E.P g cargs K.w (De K base h K.c v)
 primM:∀ g p,E.primM g=some p→(∃ fn,E.P.funcs[g]? = some fn∧fn.body.isSome=true) ∧
  ∀ args h n v h' n',p args h n=some (v,h',n')→∀ (K:Cx) (base:Nat) (cargs:Array Value),BW K base h→K.c=n→VRels K args cargs.toList→∀ N,CallsIn Fence.wide N E.P g cargs K.w (De K base h' n' v)
section
variable {E:Env} {r:Rec} {K:Cx} {base:Nat} {h:AW} {t:List AV} {a:Act}
theorem nW (hE:T0 E) (hr:aZ E r) (H:BW K base h) {g:FuncId} {vs:List AV} {cargs:Array Value} (hv:VRels K vs cargs.toList) {v:AV} {h':AW} {n':Nat} (hc:C1 E r g vs h K.c=some (v,h',n')) (N:Nat) :
 CallsIn Fence.wide N E.P g cargs K.w (De K base h' n' v)∧∃ fn,E.P.funcs[g]? = some fn∧fn.body.isSome=true:=by
 unfold C1 at hc
 split at hc
 · rename_i p hp
   obtain⟨u,h1,h2⟩:=Option.map_eq_some_iff.1 hc
   cases h2
   obtain⟨k1,k2⟩:=hE.prim g p hp
   exact⟨k2 _ _ h1 K base _ cargs H hv N,k1⟩
 · split at hc
   · split at hc
     case h_2=>cases hc
     rename_i vs' b hsnap
     split at hc
     case h_2=>cases hc
     rename_i u hin nin hcall
     split at hc
     case h_2=>cases hc
     rename_i v' q hsnap2
     split at hc
     · cases hc
     rename_i hflat
     cases hc
     let K0:Cx:={ w:=K.w,ι:=K.ι,L:=fun _=>False,X:=if b then fun _=>False else fun x=>K.X x∨K.L x,c:=0 }
     have hO:Nr K K0 b:=by
      refine⟨rfl,fun x hx=>⟨hx.1,fun e=>e,?_⟩,fun hb x hx=>⟨(H.bs x hx).2,fun e=>e,?_⟩⟩
      · cases b
        · simp only[K0,Bool.false_eq_true,if_false]
          rintro (e | e)
          · exact hx.2.2 e
          · exact hx.2.1 e
        · simp[K0]
      · simp[K0,hb]
     have hfrz:K0.frz=K0:=rfl
     have hargs:VRels K0 vs' cargs.toList:=by
      rw[← hfrz]
      exact Of hO (fun g1 g2 g3=>Wf H depth hO g1 g2 g3) hsnap (fun e=>e) hv
     have hX0:∀ x,K0.X x→x < K.w.heap.size:=by
      intro x hx
      cases b
      · simp only[K0,Bool.false_eq_true,if_false] at hx
        rcases hx with hx | hx
        · have:=H.XL x hx
          have:=H.le
          omega
        · exact (H.bs x hx).2
      · simp[K0] at hx
     have H0:BW K0 K.w.heap.size AW.nil:=
      { lt:=fun _ _ e=>(by cases e),L:=fun _ _ e=>(by cases e),bs:=fun _ e=>False.elim e,XL:=hX0,le:=Nat.le_refl _,inj:=fun _ _ _ _ e=>(by cases e),obj:=fun _ _ e=>(by cases e),gl:=fun q hq=>⟨Nat.lt_of_lt_of_le (H.gl q hq).1 H.le,(H.gl q hq).2⟩ }
     refine⟨(hr.call g vs' AW.nil 0 u hin nin hcall K0 K.w.heap.size cargs H0 rfl hargs N).mono ?_,hr.body g vs' AW.nil 0 u hin nin hcall⟩
     rintro e w' ⟨K1,cv,rfl,rfl,S,H1,hn,hu⟩
     let K':Cx:={ w:=K1.w,ι:=K.ι,L:=K.L,X:=K.X,c:=K.c }
     have hold:∀ x,x < K.w.heap.size→K1.w.heap[x]? = K.w.heap[x]?:=fun x hx=>(S.keep x hx (fun e=>e)).1
     have S':K.Step K':=⟨Nat.le_refl _,fun _ _=>rfl,S.os,S.tape,S.output,S.size,fun x hx hl=>⟨hold x hx,hl⟩,rfl,fun l ⟨R,hl⟩=>⟨R,(hold l (Lz hl)).trans hl⟩⟩
     have H':BW K' base h:=H.step S' (fun x hx=>hold x (H.bs x hx).2) rfl
     refine⟨K',cv,rfl,rfl,S',H',rfl,?_⟩
     cases hb:b with
     | true=>
      have hf:TU v=true:=by
       rw[hb] at hflat
       simpa using hflat
      have:As ({ K1 with X:=fun _=>False,L:=fun _=>False }:Cx).frz v cv:=by
       have hO2:Nr K1 { K1 with X:=fun _=>False,L:=fun _=>False } true:=⟨rfl,fun x hx=>⟨hx.1,fun e=>e,fun e=>e⟩,fun _ x hx=>⟨(H1.bs x hx).2,fun e=>e,fun e=>e⟩⟩
       exact Wf H1 depth hO2 hsnap2 (fun _=>rfl) hu
      exact ACp hf this
     | false=>
      have hO2:Nr K1 K' true:=by
       refine⟨rfl,fun x hx=>?_,fun _ x hx=>?_⟩
       · have hX:K1.X=K0.X:=S.X
         have:¬ (K.X x∨K.L x):=by
          have:=hx.2.2
          rw[hX] at this
          simpa[K0,hb] using this
         exact⟨hx.1,fun e=>this (.inr e),fun e=>this (.inl e)⟩
       · obtain⟨g1,g2⟩:=H1.bs x hx
         refine⟨g2,fun e=>?_,fun e=>?_⟩
         · have:=(H.bs x e).2; omega
         · have:=H.XL x e; have:=H.le; omega
      exact (Wf H1 depth hO2 hsnap2 (fun _=>rfl) hu).mono (ACw K')
   · exact⟨hr.call g vs h K.c v h' n' hc K base cargs H rfl hv N,hr.body g vs h K.c v h' n' hc⟩
theorem ABN {P:Program} {o:Oper} {f:Operand} {args:Array Operand} {ats:Array TypeId} (ho:o.op = .call { callee:=.value f,args:=args,argTypes:=ats }) {g:FuncId} {cv:Array Value} (hf:a.eval f = .func (.func g) #[] cv)
 {fn:Func} (hg:P.funcs[g]? = some fn) (hb:fn.body.isSome=true) (hn:(fn.name == "runtime.NumGoroutine")=false) (w:World) :
 (execOp a.eval o).run P w = .ok (.enter g (args.map a.eval ++ cv)) w:=by
 have hb':fn.body.isNone=false:=by cases h:fn.body <;> simp_all
 simp only[execOp,ho,resolve,hf,Deferred.ofValue,Sem.run_bind,Sem.run_pure,Result.andThen_ok,invoke,callFunc,run_program,hg,hn,hb',Bool.false_eq_true,if_false]
 simp
theorem yV {P:Program} {o:Oper} {f:Operand} {args:Array Operand} {ats:Array TypeId} (ho:o.op = .call { callee:=.value f,args:=args,argTypes:=ats }) {l:Nat} (hf:a.eval f = .func (.yield l) #[] #[]) (w:World) :
 (execOp a.eval o).run P w=(Instr.yield l (args.map a.eval)).run P w:=by
 simp only[execOp,ho,resolve,hf,Deferred.ofValue,Sem.run_bind,Sem.run_pure,Result.andThen_ok,invoke]
 simp
end
end Go.Vm
namespace Go.Vm
open Go
theorem fR {K:Cx}:∀ {ps:List Tmp} {t vs:List AV} {cs:List Value} {arr:Array Value},VRels K t arr.toList→VRels K vs cs→VRels K (Nf t ps vs) ((ps.zip cs).foldl (fun (tmps:Array Value) (p:Tmp × Value)=>tmps.setIfInBounds p.1 p.2) arr).toList
 | [],t,vs,cs,arr,h,hv=>by cases vs <;> simpa[Nf] using h
 | p :: ps,t,[],[],arr,h,hv=>by simpa[Nf] using h
 | p :: ps,t,v :: vs,c :: cs,arr,h,hv=>by
  simp only[VRels] at hv
  simp only[Nf,List.zip_cons_cons,List.foldl_cons]
  refine fR ?_ hv.2
  rw[Array.toList_setIfInBounds]
  exact h.set p hv.1
 | p :: ps,t,[],c :: cs,arr,h,hv=>by simp[VRels] at hv
 | p :: ps,t,v :: vs,[],arr,h,hv=>by simp[VRels] at hv
section
variable {E:Env} {r:Rec} {K:Cx} {base:Nat} {h:AW} {t:List AV} {a:Act}
theorem W3 {K:Cx} {base:Nat} {h:AW} (H:BW K base h) {l:Nat} {R:ACL} (hl:h l=some (.loop R)) {Rc:Loop} (hc:K.w.heap[(K.ι l).1]? = some (.loop Rc)) (st:LoopState) (pd:Option Code) :
 K.Step (K.setB (K.ι l).1 (.loop { Rc with state:=st,pending:=pd }))∧BW (K.setB (K.ι l).1 (.loop { Rc with state:=st,pending:=pd })) base (h.put l (some (.loop { R with state:=st,pending:=pd }))):=by
 obtain⟨R',g1,g2,g3,g4,g5,g6,g7,g8⟩:=H.obj l _ hl
 rw[hc] at g1
 injection g1 with g1
 injection g1 with g1
 subst g1
 have S:=Jx (K:=K) (b:=(K.ι l).1) (o:=.loop { Rc with state:=st,pending:=pd }) (H.L l _ hl) hc (fun _ _=>⟨_,rfl⟩)
 exact⟨S,Nz H hl hc (fun _ _=>⟨_,rfl⟩) _ ⟨_,EZ hc,rfl,rfl,g4,g5,g6,g7.mono S.le,g8⟩⟩
theorem wM (hr:aZ E r) (H:BW K base h) {l:Nat} {vs:List AV} {cargs:Array Value} (hv:VRels K vs cargs.toList) {v:AV} {h':AW} {n':Nat} (hc:HJ r l vs h K.c=some (v,h',n')) :
 ∃ Rc:Loop,K.w.heap[(K.ι l).1]? = some (.loop Rc)∧cargs.size=Rc.params.size∧∀ (rd:Option Nat) (N:Nat) (R':Ending→World→Prop),(∀ (K':Cx) (cv:Value),K.Step K'→BW K' base h'→K'.c=n'→As K' v cv→R' (.returned cv) K'.w) →
  RoundIn (FF rd) N E.P (K.ι l).1 Rc.fn ((Rc.params.zip cargs).foldl (fun tmps (t,a)=>tmps.setIfInBounds t a) Rc.tmps) Rc.assign Rc.body K.w R':=by
 unfold HJ at hc
 split at hc
 case h_2=>cases hc
 rename_i R hl
 split at hc
 case isFalse=>cases hc
 rename_i hcond
 split at hc
 case h_2=>cases hc
 rename_i s1 hassign
 split at hc
 case h_2=>cases hc
 rename_i R1 hl1
 split at hc
 case isFalse=>cases hc
 rename_i hready
 split at hc
 case h_2=>cases hc
 rename_i x s2 hbody
 split at hc
 case h_2=>cases hc
 rename_i R2 hl2
 obtain⟨Rc,g1,g2,g3,g4,g5,g6,g7,g8,g9⟩:=H.obj l _ hl
 have hlc:l < K.c:=H.lt l _ hl
 have hps:Rc.params.size=R.params.length:=by rw[← g4]; simp
 have hcs:cargs.size=vs.length:=by have:=hv.length; simpa using this.symm
 refine⟨Rc,g1,by rw[hcs,hps]; exact hcond.2,fun rd N R' hR=>roundIn_of_wpIn (tB rd _) ?_⟩
 rw[yJ]
 have htm:VRels K (Nf R.tmps R.params vs) ((Rc.params.zip cargs).foldl (fun tmps (t,a)=>tmps.setIfInBounds t a) Rc.tmps).toList:=by
  have:=fR (ps:=R.params) g7 hv
  rw[← g4] at this
  rw[← g4]
  rw[← Array.foldl_toList,Array.toList_zip]
  exact this
 rw[g5,g6]
 refine hr.code R.assign _ _ s1 g8 hassign K base (some (K.ι l).1) N _ _ H rfl htm (fun l' e=>by cases e; exact⟨Rc,g1⟩) ?_
 intro K1 a1 ms1 ⟨S1,H1,n1,t1,_⟩
 obtain⟨Rc1,k1,k2,k3,k4,k5,k6,k7,k8,k9⟩:=H1.obj l _ hl1
 have hι1:K1.ι l=K.ι l:=S1.ι l hlc
 obtain⟨S2,H2⟩:=W3 H1 hl1 k1 .busy Rc1.pending
 rw[hι1] at k1 S2 H2
 refine⟨_,run_beginRound k1 (by rw[k2]; exact hready),?_⟩
 have hbody':r.code R.body ⟨s1.t,s1.h.put l (some (.loop { R1 with state:=.busy,pending:=R1.pending })),s1.n⟩=some (x,s2):=hbody
 have hpend:Rc1.pending=R1.pending:=k3
 rw[hpend] at H2 S2
 have hw2:K1.w.putObj (K.ι l).1 (.loop { Rc1 with state:=.busy })=(K1.setB (K.ι l).1 (.loop { Rc1 with state:=.busy,pending:=R1.pending })).w:=by rw[← hpend]; rfl
 rw[hw2]
 refine hr.code R.body _ x s2 g9 hbody' (K1.setB (K.ι l).1 (.loop { Rc1 with state:=.busy,pending:=R1.pending })) base (some (K.ι l).1) N a1 _ H2 n1 (t1.mono S2.le) (fun l' e=>by cases e; exact⟨_,EZ k1⟩) ?_
 intro K3 a3 ms3 ⟨S3,H3,n3,t3,_⟩
 obtain⟨Rc2,q1,q2,q3,q4,q5,q6,q7,q8⟩:=H3.obj l _ hl2
 have hι3:K3.ι l=K.ι l:=(S3.ι l (Nat.lt_of_lt_of_le hlc (Nat.le_trans S1.c S2.c))).trans ((S2.ι l (Nat.lt_of_lt_of_le hlc S1.c)).trans hι1)
 have fin:∀ (st:LoopState) (pd:Option Code) (b:Bool),some (v,h',n')=some (AV.s (.bool b),s2.h.put l (some (.loop { R2 with state:=st,pending:=pd })),s2.n) →
  R' (.returned (.bool b)) (K3.w.putObj (K.ι l).1 (.loop { Rc2 with state:=st,pending:=pd })):=by
  intro st pd b e
  simp only[Option.some.injEq,Prod.mk.injEq] at e
  obtain⟨rfl,rfl,rfl⟩:=e
  obtain⟨S4,H4⟩:=W3 H3 hl2 q1 st pd
  rw[hι3] at S4 H4
  exact hR (K3.setB (K.ι l).1 (.loop { Rc2 with state:=st,pending:=pd })) (.bool b) (((S1.trans S2).trans S3).trans S4) H4 n3 (by simp[As])
 rw[hι3] at q1
 cases x with
 | normal=>
  simp only[Exit.then,AX.toExit,roundPost]
  exact⟨_,_,run_endRound none q1,fin .ready none true hc.symm⟩
 | ret=>
  simp only[AX.toExit,roundPost]
  exact⟨_,_,run_endRound (some .ret) q1,fin .done (some .ret) false hc.symm⟩
 | exit id=>
  simp only[AX.toExit,roundPost]
  exact⟨_,_,run_endRound (some (.exit id)) q1,fin .done (some (.exit id)) false hc.symm⟩
 | goto t=>
  simp only[AX.toExit,roundPost]
  exact⟨_,_,run_endRound (some (.goto t)) q1,fin .done (some (.goto t)) false hc.symm⟩
end
end Go.Vm

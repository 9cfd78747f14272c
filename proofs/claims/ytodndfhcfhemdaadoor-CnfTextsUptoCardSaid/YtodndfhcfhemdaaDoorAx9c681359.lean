/- An abstract evaluator of a loaded program's code: definitions, and that it is sound (first part). -/
import GoSem.Claim
import Derived.Lib.LaidTab
import Derived.Lib.ItoaNum
import Derived.RangeFuncNested
import Derived.RangeFuncBound
import Derived.RangeFuncCalls
import Derived.RangeFuncLeaves
import Derived.WalkKit
import Derived.OwnWalkIn
import Derived.Laws.BytesArg
import Derived.Laws.CopyRow
import Derived.KernelRfl
import Derived.Lib.FrozenHead
import Derived.Lib.SliceRun
import Derived.MapKept
set_option linter.unusedVariables false
set_option linter.unusedSimpArgs false
/- Tables of the library's that nothing writes: in which block, and what they hold; which types are maps; which types' elements are laid open for good. -/
namespace Go.Vm
open Go
def glb:List (Nat × (Array Value→Prop)):=[(0,fun cs=>cs=(Lib.pow10Tab.map fun z=>Value.int .u64 z).toArray),(1,fun cs=>∃ tp p,cs = #[Value.iface tp p]),(2,fun cs=>∃ tp p,cs = #[Value.iface tp p])]
def mapTys:List TypeId:=[]
def ownLits:List (TypeId × Nat × Nat):=[(23,1,73),(23,1,101),(22,1,40)]
def bldTy:Option TypeId:=some 83
def bldEl:TypeId:=5
def frzTys:List TypeId:=[22,37]
end Go.Vm
/- The abstract evaluator of a loaded program's code: definitions. -/
set_option linter.unusedVariables false
namespace Go.Vm
open Go
inductive AV where
  | s (v:Value)
  | agg (cs:List AV)
  | tup (cs:List AV)
  | ptr (id i sz off:Nat)
  | fptr (row:List AV) (off:Nat)
  | osl (id off len sz:Nat)
  | fsl (sz:Nat) (rows:List (List AV))
  | esl
  | fn (f:FuncId) (caps:List AV)
  | yld (l:Nat)
  | mp (id:Nat)
  | fmp (es:List (Value × Value))
  | any
  deriving Inhabited
structure ALoop where
  state:LoopState
  pending:Option Code
  tmps:List AV
  params:List Tmp
  assign:Code
  body:Code
  deriving Inhabited
inductive AObj where
  | rows (sz:Nat) (rows:List (List AV))
  | loop (r:ALoop)
  | map (es:List (Value × AV))
  | bld (l:List UInt8)
  deriving Inhabited
abbrev AHeap:=Nat→Option AObj
def AHeap.put (h:AHeap) (i:Nat) (o:Option AObj):AHeap:=fun j=>if j=i then o else h j
def AHeap.nil:AHeap:=fun _=>none
structure St where
  t:List AV
  h:AHeap
  n:Nat
inductive AX where
  | normal
  | exit (id:Nat)
  | goto (l:Nat)
  | ret
  deriving DecidableEq,Inhabited
def pureRun {α:Type} (P:Program):Sem α→Option α
  | .pure a=>some a
  | .program k=>pureRun P (k P)
  | .mark _ k=>pureRun P k
  | _=>none
def ofVal:Value→AV
  | .agg cs=>.agg (cs.toList.map .s)
  | .func (.func f) first caps=>if first.size=0∧caps.size=0 then .fn f [] else .s (.func (.func f) first caps)
  | v=>.s v
mutual
def toVal:AV→Option Value
  | .s v=>some v
  | .agg cs=>match toVals cs with
    | some vs=>some (.agg vs.toArray)
    | none=>none
  | .tup cs=>match toVals cs with
    | some vs=>some (.tuple vs.toArray)
    | none=>none
  | .fn f []=>some (.func (.func f) #[] #[])
  | _=>none
def toVals:List AV→Option (List Value)
  | []=>some []
  | c :: cs=>match toVal c,toVals cs with
    | some v,some vs=>some (v :: vs)
    | _,_=>none
end
def oneA:AV→Bool
  | .s v=>v.oneCell'
  | .agg _ | .tup _ | .any=>false
  | _=>true
def cellsOf:AV→Option (List AV)
  | .agg cs=>if cs.all oneA then some cs else none
  | .s (.agg cs)=>if cs.toList.all (·.oneCell') then some (cs.toList.map .s) else none
  | v=>if oneA v then some [v] else none
def isAggT (P:Program) (t:TypeId):Option Bool:=
  match P.underlying t with
  | some (.struct _) | some (.array _ _)=>some true
  | some _=>some false
  | none=>none
def sizeT (P:Program) (t:TypeId):Option Nat:=(P.info? t).map (·.size)
def bytesT (P:Program) (t:TypeId):Option Nat:=(P.info? t).map (·.bytes)
def zeroT (P:Program) (t:TypeId):Option (List AV):=
  match (P.info? t).bind (·.zero) with
  | some v=>if v.cells.toList.all (·.oneCell') then some (v.cells.toList.map .s) else none
  | none=>none
def elemT (P:Program) (t:TypeId):Option TypeId:=
  match P.underlying t with
  | some (.slice e)=>some e
  | _=>none
def partOf (P:Program) (t:TypeId) (row:List AV) (off:Nat):Option AV:=do
  let g ← isAggT P t
  let n ← sizeT P t
  if g then if off + n≤row.length then some (.agg ((row.drop off).take n)) else none
  else row[off]?
def layAt (row:List AV) (off:Nat) (cs:List AV):List AV:=row.take off ++ cs ++ row.drop (off + cs.length)
def rowAt (h:AHeap) (id i sz:Nat):Option (List AV):=
  match h id with
  | some (.rows sz' rows)=>if sz' = sz then rows[i]? else none
  | _=>none
def asInt? : AV→Option Int
  | .s (.int _ n)=>some n
  | _=>none
def asBool? : AV→Option Bool
  | .s (.bool b)=>some b
  | _=>none
def rowsOf (h:AHeap) (sz:Nat):AV→Option (List (List AV))
  | .s (.slice none 0 0)=>some []
  | .esl=>some []
  | .fsl sz' rows=>if sz' = sz∨rows=[] then some rows else none
  | .osl id off len sz'=>if sz' = sz then
      match h id with
      | some (.rows sz'' rows)=>if sz'' = sz∧off + len≤rows.length then some ((rows.drop off).take len) else none
      | _=>none
    else none
  | .s (.string b)=>if sz=1 then some (b.data.toList.map fun x=>[.s (.int .u8 x.toNat)]) else none
  | _=>none
def lenOf:AV→Option Nat
  | .fsl _ rows=>some rows.length
  | .osl _ _ len _=>some len
  | .esl=>some 0
  | .s (.slice none 0 0)=>some 0
  | .s (.string b)=>some b.size
  | _=>none
def binV (op:BinOp) (x y:Value):Option Value:=
  match op,x,y with
  | .add,.int k a,.int k' b=>if k=k' then some (.int k (k.wrap (a + b))) else none
  | .sub,.int k a,.int k' b=>if k=k' then some (.int k (k.wrap (a - b))) else none
  | .mul,.int k a,.int k' b=>if k=k' then some (.int k (k.wrap (a * b))) else none
  | .eql,.int k a,.int k' b=>if k=k' then some (.bool (a == b)) else none
  | .neq,.int k a,.int k' b=>if k=k' then some (.bool (a != b)) else none
  | .lss,.int k a,.int k' b=>if k=k' then some (.bool (decide (a < b))) else none
  | .leq,.int k a,.int k' b=>if k=k' then some (.bool (decide (a≤b))) else none
  | .gtr,.int k a,.int k' b=>if k=k' then some (.bool (decide (a > b))) else none
  | .geq,.int k a,.int k' b=>if k=k' then some (.bool (decide (a≥b))) else none
  | .add,.string a,.string b=>if a.size + b.size≤9223372036854775807 then some (.string (a ++ b)) else none
  | .eql,.string a,.string b=>some (.bool (a.toList == b.toList))
  | .neq,.string a,.string b=>some (.bool (!(a.toList == b.toList)))
  | .lss,.string a,.string b=>some (.bool (Op.bytesLess a.toList b.toList))
  | .leq,.string a,.string b=>some (.bool (Op.bytesLess a.toList b.toList || a.toList == b.toList))
  | .gtr,.string a,.string b=>some (.bool !(Op.bytesLess a.toList b.toList || a.toList == b.toList))
  | .geq,.string a,.string b=>some (.bool !(Op.bytesLess a.toList b.toList))
  | _,_,_=>none
def fillC (place:Nat→Option (Nat × Nat)) (cells:List AV):List (Nat × AV)→Option (List AV)
  | []=>some cells
  | (i,v) :: rest=>
    match place i,cellsOf v with
    | some (off,size),some cs=>if cs.length=size∧off + cs.length≤cells.length then fillC place (layAt cells off cs) rest else none
    | _,_=>none
def placesL (P:Program):List Field→Option (List (Nat × Nat))
  | []=>some []
  | f :: fs=>match sizeT P f.type,placesL P fs with
    | some n,some l=>some ((f.offset,n) :: l)
    | _,_=>none
def placesT (P:Program) (t:TypeId):Option (Nat→Option (Nat × Nat)):=
  match P.underlying t with
  | some (.struct fields)=>(placesL P fields.toList).map fun l=>fun i=>l[i]?
  | some (.array _ e)=>(sizeT P e).map fun n=>fun i=>some (i * n,n)
  | _=>none
def fillR (sz:Nat) (rows:List (List AV)):List (Nat × AV)→Option (List (List AV))
  | []=>some rows
  | (i,v) :: rest=>
    match cellsOf v with
    | some cs=>if cs.length=sz∧i < rows.length then fillR sz (rows.set i cs) rest else none
    | none=>none
def bytesOf:List (List AV)→Option (List UInt8)
  | []=>some []
  | [.s (.int .u8 n)] :: rest=>match bytesOf rest with
    | some bs=>some (UInt8.ofNat n.toNat :: bs)
    | none=>none
  | _=>none
def opnd (t:List AV):Operand→Option AV
  | .tmp i=>t[i]?
  | .const v=>some (ofVal v)
  | .global g=>some (.s (.pointer (some ⟨g,0,none⟩)))
  | .func f=>some (.fn f [])
def opnds (t:List AV):List Operand→Option (List AV)
  | []=>some []
  | o :: os=>match opnd t o,opnds t os with
    | some v,some vs=>some (v :: vs)
    | _,_=>none
def parts (t:List AV):List (Nat × Operand)→Option (List (Nat × AV))
  | []=>some []
  | (i,o) :: os=>match opnd t o,parts t os with
    | some v,some vs=>some ((i,v) :: vs)
    | _,_=>none
def optnd (t:List AV):Option Operand→Option (Option AV)
  | none=>some none
  | some o=>match opnd t o with
    | some v=>some (some v)
    | none=>none
abbrev Ups:=List (Nat × Option AObj)
def AHeap.upd (h:AHeap):Ups→AHeap
  | []=>h
  | (i,o) :: us=>(h.put i o).upd us
abbrev Res:=Option (AV × Ups)
def pureOp (P:Program) (ρ:Operand→Value) (o:Oper):Option AV:=
  match pureRun P (execOp ρ o) with
  | some (.value v)=>some (ofVal v)
  | _=>none
def plainNd (t:List AV) (o:Operand):Value:=((opnd t o).bind toVal).getD undef
def isPlain (t:List AV) (o:Operand):Bool:=((opnd t o).bind toVal).isSome
def sliceLo:Option AV→Option Int
  | none=>some 0
  | some v=>asInt? v
def sliceHi (n:Nat):Option AV→Option Int
  | none=>some n
  | some v=>asInt? v
def sliceCut (l h:Nat):AV→Option AV
  | .osl id off _ sz=>some (.osl id (off + l) (h - l) sz)
  | .fsl sz rows=>some (.fsl sz ((rows.drop l).take (h - l)))
  | .esl=>some .esl
  | .s (.slice none 0 0)=>some (.s (.slice none 0 0))
  | .s (.string b)=>some (.s (.string (b.extract l h)))
  | _=>none
def sliceShut:AV→Option AV
  | .osl ..=>some .esl
  | .fsl ..=>some .esl
  | .esl=>some .esl
  | _=>none
def sliceOf (x:AV) (lo hi mx:Option AV):Option AV:=
  match sliceLo lo,lenOf x with
  | some l,some n=>match sliceHi n hi with
    | some h=>match mx with
      | none=>if 0≤l∧l≤h∧h≤n then sliceCut l.toNat h.toNat x else none
      | some v=>match asInt? v with
        | some m=>if 0≤l∧l=h∧h=m∧m≤n∧hi.isSome then sliceShut x else none
        | none=>none
    | none=>none
  | _,_=>none
def indexAddrOf (P:Program) (xType:TypeId) (x:AV) (i:Int):Option AV:=
  match P.underlying xType,x with
  | some (.slice e),.osl id off len sz=>if 0≤i∧i < len∧sizeT P e=some sz then some (.ptr id (off + i.toNat) sz 0) else none
  | some (.slice e),.fsl sz rows=>if 0≤i∧sizeT P e=some sz then (rows[i.toNat]?).map fun r=>.fptr r 0 else none
  | some (.array n e),.ptr id j sz off=>match sizeT P e with
    | some z=>if 0≤i∧i < n then some (.ptr id j sz (off + i.toNat * z)) else none
    | none=>none
  | some (.array n e),.fptr r off=>match sizeT P e with
    | some z=>if 0≤i∧i < n then some (.fptr r (off + i.toNat * z)) else none
    | none=>none
  | _,_=>none
def fieldAddrOf (P:Program) (xType:TypeId) (x:AV) (f:Nat):Option AV:=
  match P.underlying xType with
  | some (.struct fields)=>match fields[f]? with
    | some fd=>match sizeT P fd.type with
      | some (_ + 1)=>match x with
        | .ptr id i sz off=>some (.ptr id i sz (off + fd.offset))
        | .fptr r off=>some (.fptr r (off + fd.offset))
        | _=>none
      | _=>none
    | none=>none
  | _=>none
def loadOf (P:Program) (h:AHeap) (t:TypeId):AV→Option AV
  | .ptr id i sz off=>match rowAt h id i sz with
    | some row=>partOf P t row off
    | none=>none
  | .fptr row off=>partOf P t row off
  | _=>none
def storeOf (P:Program) (h:AHeap) (t:TypeId) (a x:AV):Option Ups:=
  match a,cellsOf x with
  | .ptr id i sz off,some cs=>match h id with
    | some (.rows sz' rows)=>
      if sz' = sz∧sizeT P t=some cs.length then
        match rows[i]? with
        | some row=>if off + cs.length≤row.length then some [(id,some (.rows sz (rows.set i (layAt row off cs))))] else none
        | none=>none
      else none
    | _=>none
  | _,_=>none
def newRows (n sz:Nat) (rows:List (List AV)):Ups:=[(n,some (.rows sz rows))]
def appendOf (P:Program) (h:AHeap) (n:Nat) (e:TypeId) (x y:AV):Res:=do
  let sz ← sizeT P e
  let b ← bytesT P e
  let news ← rowsOf h sz y
  let z ← zeroT P e
  if sz=0∨z.length≠sz then none
  if news=[] then
    match x with
    | .s (.slice none 0 0)=>some (x,[])
    | .esl=>some (x,[])
    | .osl ..=>some (x,[])
    | _=>none
  else match x with
    | .s (.slice none 0 0) | .esl=>
      if news.length * b≤140737488355328∧news.length≤9223372036854775807 then some (.osl n 0 news.length sz,newRows n sz news) else none
    | .osl id off len sz'=>
      match h id with
      | some (.rows sz'' rows)=>
        if sz' = sz∧sz'' = sz∧off + len≤rows.length then
          if off + len + news.length≤rows.length then
            some (.osl id off (len + news.length) sz,[(id,some (.rows sz (rows.take (off + len) ++ news ++ rows.drop (off + len + news.length))))])
          else if (len + news.length) * b≤140737488355328∧len + news.length≤9223372036854775807 then
            some (.osl n 0 (len + news.length) sz,[(id,none),(n,some (.rows sz ((rows.drop off).take len ++ news)))])
          else none
        else none
      | _=>none
    | _=>none
def ownLit (ty:TypeId) (len:Nat):List (Nat × Operand)→Bool
  | (_,.tmp d) :: _=>ownLits.any fun e=>Nat.beq e.1 ty && Nat.beq e.2.1 len && Nat.beq e.2.2 d
  | _=>false
def frzTy:Option TypeId→Bool
  | some t=>frzTys.any (Nat.beq t)
  | none=>false
def noOwn:AV→Bool
  | .s _ | .fsl .. | .fptr .. | .esl=>true
  | _=>false
def frzC (h:AHeap) (c:AV):Option (AV × List Nat):=
  match c with
  | .osl id off len sz=>match rowsOf h sz (.osl id off len sz) with
    | some rows=>if rows.all (·.all noOwn) then some (.fsl sz rows,[id]) else none
    | none=>none
  | c=>if noOwn c then some (c,[]) else none
def frzL (h:AHeap):List AV→Option (List AV × List Nat)
  | []=>some ([],[])
  | c :: cs=>match frzC h c,frzL h cs with
    | some (v,a),some (vs,b)=>some (v :: vs,a ++ b)
    | _,_=>none
def frzR (h:AHeap):List (List AV)→Option (List (List AV) × List Nat)
  | []=>some ([],[])
  | r :: rs=>match frzL h r,frzR h rs with
    | some (v,a),some (vs,b)=>some (v :: vs,a ++ b)
    | _,_=>none
def drops (l:List Nat):Ups:=l.map fun i=>(i,none)
def appendF (P:Program) (h:AHeap) (n:Nat) (e:TypeId) (u v:AV):Res:=
  match v with
  | .osl id off len sz=>match rowsOf h sz (.osl id off len sz) with
    | some rows=>if rows.all (·.all noOwn) then appendOf P h n e u v else
      match frzR h rows with
      | some (rows',ids)=>(appendOf P (h.upd (drops (id :: ids))) n e u (.fsl sz rows')).map fun r=>(r.1,drops (id :: ids) ++ r.2)
      | none=>none
    | none=>none
  | _=>appendOf P h n e u v
def appendZ (P:Program) (h:AHeap) (n:Nat) (tx e:TypeId) (u v:AV):Res:=if frzTy (some tx) then appendF P h n e u v else appendOf P h n e u v
def growOf (P:Program) (n:Nat) (e:TypeId) (m:Int):Res:=
  match sizeT P e,bytesT P e,zeroT P e with
  | some sz,some b,some z=>
    if sz=0∨z.length≠sz∨¬ (1≤m∧m≤9223372036854775807∧m.toNat * b≤140737488355328) then none
    else some (.osl n 0 m.toNat sz,newRows n sz (List.replicate m.toNat z))
  | _,_,_=>none
def clearOf (P:Program) (h:AHeap) (e:TypeId) (u:AV):Res:=
  match sizeT P e,zeroT P e with
  | some sz,some z=>
    if sz=0∨z.length≠sz then none else
    match u with
    | .s (.slice none 0 0)=>some (.s (.tuple #[]),[])
    | .esl=>some (.s (.tuple #[]),[])
    | .osl id off len sz'=>match h id with
      | some (.rows sz'' rows)=>if sz' = sz∧sz'' = sz∧off + len≤rows.length then some (.s (.tuple #[]),[(id,some (.rows sz (rows.take off ++ List.replicate len z ++ rows.drop (off + len))))]) else none
      | _=>none
    | _=>none
  | _,_=>none
def nilL (P:Program) (op:BinOp) (xt:TypeId) (y:Operand):Option Bool:=
  match op,y,P.underlying xt with
  | .eql,.const (.slice none 0 0),some (.slice _)=>some false
  | .neq,.const (.slice none 0 0),some (.slice _)=>some true
  | _,_,_=>none
def nilT (P:Program) (op:BinOp) (xt:TypeId) (y:Operand):Option AV→Option Bool
  | some (.osl ..)=>nilL P op xt y
  | some (.fsl ..)=>nilL P op xt y
  | some .esl=>nilL P op xt y
  | _=>none
def mapTy:Option TypeId→Bool
  | some t=>mapTys.any (Nat.beq t)
  | none=>false
def keyOk (P:Program) (kt:TypeId) (k:Value):Bool:=
  match P.underlying kt,k with
  | some (.int q),.int q' _=>decide (q' = q)
  | some .string,.string _=>true
  | _,_=>false
def findA (kd:TypeDesc) (k:Value):List (Value × AV)→Nat→Option (Option (Nat × AV))
  | [],_=>some none
  | e :: es,i=>match Instr.sameNow kd k e.1 with
    | some true=>some (some (i,e.2))
    | some false=>findA kd k es (i + 1)
    | none=>none
def zero1 (P:Program) (e:TypeId):Option AV:=
  match (P.info? e).bind (·.zero) with
  | some z=>if z.oneCell' then some (.s z) else none
  | none=>none
def mapOf (h:AHeap):AV→Option (List (Value × AV))
  | .mp id=>match h id with
    | some (.map es)=>some es
    | _=>none
  | .fmp es=>some (es.map fun e=>(e.1,ofVal e.2))
  | .s (.map none)=>some []
  | _=>none
def seekA (P:Program) (kt:TypeId) (k:Value) (es:List (Value × AV)):Option (Option (Nat × AV)):=
  if keyOk P kt k then (P.underlying kt).bind fun kd=>findA kd k es 0 else none
def lookA (P:Program) (et:TypeId) (ok:Bool):Option (Option (Nat × AV))→Option AV
  | some (some (_,a))=>some (if ok then .tup [a,.s (.bool true)] else a)
  | some none=>(zero1 P et).map fun z=>if ok then .tup [z,.s (.bool false)] else z
  | none=>none
def putA (P:Program) (kt:TypeId) (k:Value) (a:AV) (es:List (Value × AV)):Option (List (Value × AV)):=
  match seekA P kt k es with
  | some (some (i,_))=>some (es.set i (k,a))
  | some none=>some (es ++ [(k,a)])
  | none=>none
def entA (P:Program) (kt et:TypeId) (k:Value) (es:List (Value × AV)):Option (AV × List (Value × AV)):=
  match seekA P kt k es with
  | some (some (i,a))=>some (.tup [a,.s (.int .i64 i)],es)
  | some none=>(zero1 P et).map fun z=>(.tup [z,.s (.int .i64 es.length)],es ++ [(k,z)])
  | none=>none
def stampA (j:Int) (a:AV) (es:List (Value × AV)):Option (List (Value × AV)):=
  if 0≤j then match es[j.toNat]? with
    | some e=>some (es.set j.toNat (e.1,a))
    | none=>none
  else none
def isBldZ:List AV→Bool
  | [.s (.pointer none),.s (.slice none 0 0)]=>true
  | _=>false
def allocA (e:TypeId) (cs:List AV):AObj:=if bldTy == some e && isBldZ cs then .bld [] else .rows cs.length [cs]
def mapOp (P:Program) (o:Oper) (t:List AV) (h:AHeap) (n:Nat):Res:=
  match o.op with
  | .makeMap ty none=>some (.mp n,[(n,some (.map []))])
  | .lookup xt x k ok=>match P.underlying xt,(opnd t x).bind (mapOf h),(opnd t k).bind toVal with
    | some (.map kt et),some es,some kv=>(lookA P et ok (seekA P kt kv es)).map (·,[])
    | _,_,_=>none
  | .mapUpdate mt m k v=>match P.underlying mt,opnd t m,(opnd t k).bind toVal,opnd t v with
    | some (.map kt et),some (.mp id),some kv,some a=>match h id with
      | some (.map es)=>(putA P kt kv a es).map fun es'=>(.s undef,[(id,some (.map es'))])
      | _=>none
    | _,_,_,_=>none
  | .mapEntry mt m k=>match P.underlying mt,opnd t m,(opnd t k).bind toVal with
    | some (.map kt et),some (.mp id),some kv=>match h id with
      | some (.map es)=>(entA P kt et kv es).map fun r=>(r.1,[(id,some (.map r.2))])
      | _=>none
    | _,_,_=>none
  | .entryStore _ m st v=>match opnd t m,(opnd t st).bind asInt?,opnd t v with
    | some (.mp id),some j,some a=>match h id with
      | some (.map es)=>(stampA j a es).map fun es'=>(.s undef,[(id,some (.map es'))])
      | _=>none
    | _,_,_=>none
  | .insert mt m k v=>match P.underlying mt,opnd t m,(opnd t k).bind toVal,opnd t v with
    | some (.map kt et),some (.mp id),some kv,some a=>match h id with
      | some (.map es)=>(putA P kt kv a es).map fun es'=>(.s undef,[(id,some (.map es'))])
      | _=>none
    | _,_,_,_=>none
  | _=>none
def aop (P:Program) (o:Oper) (t:List AV) (h:AHeap) (n:Nat):Res:=
  match o.op with
  | .move x | .assign x=>(opnd t x).map (·,[])
  | .pick c a b=>match (opnd t c).bind asBool? with
    | some true=>(opnd t a).map (·,[])
    | some false=>(opnd t b).map (·,[])
    | none=>none
  | .alloc e=>match zeroT P e with
    | some cs=>some (.ptr n 0 cs.length 0,[(n,some (allocA e cs))])
    | none=>none
  | .box _ x=>match (opnd t x).bind cellsOf with
    | some cs=>some (.ptr n 0 cs.length 0,newRows n cs.length [cs])
    | none=>none
  | .build ty ps=>match zeroT P ty,placesT P ty,parts t ps.toList with
    | some z,some pl,some vs=>(fillC pl z vs).map fun cs=>(.agg cs,[])
    | _,_,_=>none
  | .buildSlice ty len ps=>match elemT P ty with
    | some e=>match sizeT P e,zeroT P e,parts t ps.toList with
      | some sz,some z,some vs=>
        if len * sz≤16777216∧0 < sz∧z.length=sz then (fillR sz (List.replicate len z) vs).map fun rows=>(.osl n 0 len sz,newRows n sz rows) else none
      | _,_,_=>none
    | none=>none
  | .load ty a=>match opnd t a with
    | some p=>(loadOf P h ty p).map (·,[])
    | none=>none
  | .store ty a x=>match opnd t a,opnd t x with
    | some p,some v=>(storeOf P h ty p v).map fun us=>(.s undef,us)
    | _,_=>none
  | .nilCheck x=>match opnd t x with
    | some (.ptr id i sz off)=>some (.ptr id i sz off,[])
    | some (.fptr r off)=>some (.fptr r off,[])
    | _=>none
  | .binOp op xt x y _=>
    if isPlain t x && isPlain t y then
      match binV op (plainNd t x) (plainNd t y) with
      | some v=>some (.s v,[])
      | none=>(pureOp P (plainNd t) o).map (·,[])
    else (nilT P op xt y (opnd t x)).map fun b=>(.s (.bool b),[])
  | .unOp _ _ x=>if isPlain t x then (pureOp P (plainNd t) o).map (·,[]) else none
  | .convert src dst x=>
    match opnd t x,P.underlying src,P.underlying dst with
    | some (.s (.string b)),some _,some (.slice e)=>
      match P.underlying e,P.info? e with
      | some (.int .u8),some i=>if i.size=1∧b.size≤9223372036854775807 then some (.osl n 0 b.size 1,newRows n 1 (b.data.toList.map fun x=>[.s (.int .u8 x.toNat)])) else none
      | _,_=>none
    | some (.s (.string _)),_,some .string=>if isPlain t x then (pureOp P (plainNd t) o).map (·,[]) else none
    | some v,some (.slice e),some .string=>
      match P.underlying e,(rowsOf h 1 v).bind bytesOf with
      | some (.int .u8),some bs=>some (.s (.string ⟨bs.toArray⟩),[])
      | _,_=>none
    | some v,some _,some _=>if (toVal v).isSome then (pureOp P (plainNd t) o).map (·,[]) else none
    | _,_,_=>none
  | .makeFunc (.func f) first caps=>if first.size=0 then (opnds t caps.toList).map fun vs=>(.fn f vs,[]) else none
  | .makeSlice ty l c=>match elemT P ty with
    | some e=>match sizeT P e,bytesT P e,zeroT P e,(opnd t l).bind asInt?,(opnd t c).bind asInt? with
      | some sz,some b,some z,some ln,some cp=>
        if 0≤ln∧ln≤cp∧cp≤9223372036854775807∧b * cp≤281474976710656∧0 < sz∧z.length=sz then some (.osl n 0 ln.toNat sz,newRows n sz (List.replicate ln.toNat z)) else none
      | _,_,_,_,_=>none
    | none=>none
  | .slice xt x lo hi mx=>match opnd t x,optnd t lo,optnd t hi,optnd t mx,P.underlying xt with
    | some v,some l,some u,some m,some (.slice e)=>match sizeT P e with
      | some z=>match v with
        | .osl _ _ _ sz=>if sz=z then (sliceOf v l u m).map (·,[]) else none
        | .fsl sz _=>if sz=z then (sliceOf v l u m).map (·,[]) else none
        | .esl=>(sliceOf v l u m).map (·,[])
        | .s (.slice none 0 0)=>(sliceOf v l u m).map (·,[])
        | _=>none
      | none=>none
    | some v,some l,some u,some none,some .string=>match v with
      | .s (.string _)=>(sliceOf v l u none).map (·,[])
      | _=>none
    | _,_,_,_,_=>none
  | .fieldAddr xt x f=>match opnd t x with
    | some v=>(fieldAddrOf P xt v f).map (·,[])
    | none=>none
  | .field xt x f=>match opnd t x,P.underlying xt with
    | some (.agg cs),some (.struct fields)=>match fields[f]? with
      | some fd=>(partOf P fd.type cs fd.offset).map (·,[])
      | none=>none
    | _,_=>none
  | .indexAddr xt x i=>match opnd t x,(opnd t i).bind asInt? with
    | some v,some j=>(indexAddrOf P xt v j).map (·,[])
    | _,_=>none
  | .index xt x i=>match opnd t x,(opnd t i).bind asInt?,P.underlying xt with
    | some (.s (.string b)),some j,some .string=>if hj:0≤j∧j.toNat < b.size then some (.s (.int .u8 (b[j.toNat]'hj.2).toNat),[]) else none
    | some (.agg cs),some j,some (.array len e)=>match sizeT P e with
      | some z=>if 0≤j∧j < len then (partOf P e cs (j.toNat * z)).map (·,[]) else none
      | none=>none
    | _,_,_=>none
  | .extract x i=>match opnd t x with
    | some (.tup vs)=>(vs[i]?).map (·,[])
    | _=>none
  | .call { callee:=.builtin .len,args,argTypes }=>match args.toList with
    | [x]=>match opnd t x with
      | some v=>match (argTypes[0]?).bind P.underlying,v with
        | some (.slice _),.osl .. | some (.slice _),.fsl .. | some (.slice _),.esl | some (.slice _),.s (.slice none 0 0) | some .string,.s (.string _)=>(lenOf v).map fun k=>(.s (.int .i64 k),[])
        | some (.array k _),_=>some (.s (.int .i64 k),[])
        | some (.map _ _),.mp id=>if mapTy argTypes[0]? then match h id with
          | some (.map es)=>some (.s (.int .i64 es.length),[])
          | _=>none
          else none
        | some (.map _ _),.fmp es=>some (.s (.int .i64 es.length),[])
        | _,_=>none
      | none=>none
    | _=>none
  | .call { callee:=.builtin .append,args,argTypes }=>match args.toList,argTypes.toList with
    | [x,y],[tx,ty]=>match opnd t x,opnd t y,elemT P tx,P.underlying ty with
      | some u,some v,some e,some (.slice _)=>appendZ P h n tx e u v
      | some u,some v,some e,some .string=>appendOf P h n e u v
      | some (.s (.slice none 0 0)),some (.s (.int _ m)),some e,some (.int _)=>growOf P n e m
      | _,_,_,_=>none
    | _,_=>none
  | .call { callee:=.builtin .clear,args,argTypes }=>match args.toList,argTypes.toList with
    | [x],[tx]=>match opnd t x,elemT P tx with
      | some u,some e=>clearOf P h e u
      | _,_=>none
    | _,_=>none
  | .call { callee:=.builtin b,args,argTypes }=>match b with
    | .min | .max | .cap=>if args.all (isPlain t) then (pureOp P (plainNd t) o).map (·,[]) else none
    | _=>none
  | _=>mapOp P o t h n
end Go.Vm
/- The abstract evaluator of a loaded program's code: code, calls, rounds. -/
namespace Go.Vm
open Go
structure Env where
  P:Program
  prim:FuncId→Option (List AV→Option AV)
  pf:FuncId→Bool
  primM:FuncId→Option (List AV→AHeap→Nat→Option (AV × AHeap × Nat))
  fbox:TypeId→Operand→Option Tmp→Bool
structure Rec where
  call:FuncId→List AV→AHeap→Nat→Option (AV × AHeap × Nat)
  code:Code→St→Option (AX × St)
def snapL (f:AV→Option (AV × Bool)):List AV→Option (List AV × Bool)
  | []=>some ([],false)
  | c :: cs=>match f c,snapL f cs with
    | some (v,a),some (vs,b)=>some (v :: vs,a || b)
    | _,_=>none
def snapR (f:AV→Option (AV × Bool)):List (List AV)→Option (List (List AV))
  | []=>some []
  | r :: rs=>match snapL f r,snapR f rs with
    | some (v,_),some vs=>some (v :: vs)
    | _,_=>none
def plainEs:List (Value × AV)→Option (List (Value × Value))
  | []=>some []
  | (k,.s v) :: es=>(plainEs es).map fun l=>(k,v) :: l
  | (k,.fn f []) :: es=>(plainEs es).map fun l=>(k,.func (.func f) #[] #[]) :: l
  | _=>none
def snap (h:AHeap):Nat→AV→Option (AV × Bool)
  | _,.s v=>some (.s v,false)
  | _,.any=>some (.any,false)
  | _,.esl=>some (.esl,false)
  | _,.fsl sz rows=>some (.fsl sz rows,false)
  | _,.fptr row off=>some (.fptr row off,false)
  | _,.fmp es=>some (.fmp es,false)
  | 0,_=>none
  | k + 1,.agg cs=>(snapL (snap h k) cs).map fun (vs,b)=>(.agg vs,b)
  | k + 1,.tup cs=>(snapL (snap h k) cs).map fun (vs,b)=>(.tup vs,b)
  | k + 1,.fn f cs=>(snapL (snap h k) cs).map fun (vs,b)=>(.fn f vs,b)
  | k + 1,.ptr id i sz off=>match rowAt h id i sz with
    | some row=>(snapL (snap h k) row).map fun (vs,_)=>(.fptr vs off,true)
    | none=>none
  | k + 1,.osl id off len sz=>match rowsOf h sz (.osl id off len sz) with
    | some rows=>(snapR (snap h k) rows).map fun vs=>(.fsl sz vs,true)
    | none=>none
  | k + 1,.mp id=>match h id with
    | some (.map es)=>(plainEs es).map fun vs=>(.fmp vs,true)
    | _=>none
  | _,.yld _=>none
def flat:AV→Bool
  | .s _=>true
  | .agg cs=>cs.all fun | .s _=>true | _=>false
  | .tup cs=>cs.all fun | .s _=>true | .agg ds=>ds.all (fun | .s _=>true | _=>false) | _=>false
  | _=>false
def putT (t:List AV) (dst:Option Tmp) (v:AV):List AV:=
  match dst with
  | some d=>t.set d v
  | none=>t
def depth:Nat:=12
def callFn (E:Env) (r:Rec) (g:FuncId) (vs:List AV) (h:AHeap) (n:Nat):Option (AV × AHeap × Nat):=
  match E.prim g with
  | some p=>(p vs).map fun v=>(v,h,n)
  | none=>
    if E.pf g then
      match snapL (snap h depth) vs with
      | some (vs',b)=>match r.call g vs' AHeap.nil 0 with
        | some (v,h',_)=>match snap h' depth v with
          | some (v',_)=>if b && !flat v' then none else some (v',h,n)
          | none=>none
        | none=>none
      | none=>none
    else r.call g vs h n
def setAll (t:List AV):List Tmp→List AV→List AV
  | p :: ps,v :: vs=>setAll (t.set p v) ps vs
  | _,_=>t
def roundOf (r:Rec) (l:Nat) (vs:List AV) (h:AHeap) (n:Nat):Option (AV × AHeap × Nat):=
  match h l with
  | some (.loop R)=>
    if R.state = .ready∧vs.length=R.params.length then
      match r.code R.assign ⟨setAll R.tmps R.params vs,h,n⟩ with
      | some (.normal,s1)=>match s1.h l with
        | some (.loop R1)=>
          if R1.state = .ready then
          match r.code R.body ⟨s1.t,s1.h.put l (some (.loop { R1 with state:=.busy })),s1.n⟩ with
          | some (x,s2)=>match s2.h l with
            | some (.loop R2)=>match x with
              | .normal=>some (.s (.bool true),s2.h.put l (some (.loop { R2 with state:=.ready,pending:=none })),s2.n)
              | .ret=>some (.s (.bool false),s2.h.put l (some (.loop { R2 with state:=.done,pending:=some .ret })),s2.n)
              | .exit id=>some (.s (.bool false),s2.h.put l (some (.loop { R2 with state:=.done,pending:=some (.exit id) })),s2.n)
              | .goto t=>some (.s (.bool false),s2.h.put l (some (.loop { R2 with state:=.done,pending:=some (.goto t) })),s2.n)
            | _=>none
          | none=>none
          else none
        | _=>none
      | _=>none
    else none
  | _=>none
def callOf (E:Env) (r:Rec) (t:List AV) (h:AHeap) (n:Nat) (f:Operand) (args:List Operand):Option (AV × AHeap × Nat):=
  match opnd t f,opnds t args with
  | some (.fn g caps),some vs=>callFn E r g (vs ++ caps) h n
  | some (.yld l),some vs=>roundOf r l vs h n
  | _,_=>none
def wantedA (ops:Array Oper) (t:List AV) (o:Oper):Option Bool:=
  match o.guard with
  | none=>some true
  | some (j,want)=>
    match (ops[j]?).bind (·.dst) with
    | none=>some false
    | some d=>match t[d]? with
      | some (.s (.bool b))=>some (b == want)
      | some (.s (.tuple _))=>some false
      | _=>none
def usesN:Op→Bool
  | .alloc _ | .box .. | .buildSlice .. | .makeSlice .. | .convert ..=>true
  | .makeMap ..=>true
  | .call { callee:=.builtin .append,.. }=>true
  | _=>false
def litOf (P:Program) (t:List AV) (ty:TypeId) (len:Nat) (ps:List (Nat × Operand)):Option AV:=
  match elemT P ty with
  | some e=>match sizeT P e,zeroT P e,parts t ps with
    | some sz,some z,some vs=>
      if len * sz≤16777216∧0 < sz∧z.length=sz then
        match fillR sz (List.replicate len z) vs with
        | some rows=>if rows.all (·.all noOwn) then some (.fsl sz rows) else none
        | none=>none
      else none
    | _,_,_=>none
  | none=>none
def boxLit (t:List AV) (x:Operand):Option AV:=
  match (opnd t x).bind cellsOf with
  | some [.s v]=>some (.fptr [.s v] 0)
  | _=>none
def stepOp (E:Env) (r:Rec) (dr:Bool) (ops:Array Oper) (o:Oper) (s:St):Option St:=
  match wantedA ops s.t o with
  | none=>none
  | some false=>some { s with t:=putT s.t o.dst (.s undef) }
  | some true=>
    match o.op with
    | .call { callee:=.value f,args,.. }=>
      match callOf E r s.t s.h s.n f args.toList with
      | some (v,h',n')=>some ⟨putT s.t o.dst v,h',n'⟩
      | none=>none
    | .buildSlice ty len ps=>
      if dr && !(ownLit ty len ps.toList) then match litOf E.P s.t ty len ps.toList with
        | some v=>some ⟨putT s.t o.dst v,s.h,s.n⟩
        | none=>none
      else match aop E.P o s.t s.h s.n with
        | some (v,us)=>some ⟨putT s.t o.dst v,s.h.upd us,s.n + 1⟩
        | none=>none
    | .box e x=>
      if E.fbox e x o.dst then match boxLit s.t x with
        | some v=>some ⟨putT s.t o.dst v,s.h,s.n⟩
        | none=>none
      else match aop E.P o s.t s.h s.n with
        | some (v,us)=>some ⟨putT s.t o.dst v,s.h.upd us,s.n + 1⟩
        | none=>none
    | _=>
      match aop E.P o s.t s.h s.n with
      | some (v,us)=>some ⟨putT s.t o.dst v,s.h.upd us,if usesN o.op then s.n + 1 else s.n⟩
      | none=>none
def evalOps (E:Env) (r:Rec) (ro:Bool) (ops:Array Oper):List Nat→St→Option St
  | [],s=>some s
  | i :: is,s=>
    match ops[i]? with
    | none=>evalOps E r ro ops is s
    | some o=>match stepOp E r ro ops o s with
      | some s'=>evalOps E r ro ops is s'
      | none=>none
def isTmp (d:Nat):Operand→Bool
  | .tmp t=>Nat.beq t d
  | _=>false
def litArg (E:Env) (ops:Array Oper) (d:Nat):Bool:=
  (ops.toList.any fun o=>match o.op with
    | .call { callee:=.value (.func g),args,.. }=>args.toList.any (isTmp d) && E.pf g
    | _=>false) &&
  ops.toList.all fun o=>match o.op with
    | .call { callee:=.value (.func g),args,.. }=>E.pf g || !(args.toList.any (isTmp d))
    | op=>!(op.operands.toList.any (isTmp d))
def argLit (E:Env) (ops:Array Oper):Bool:=(ops.toList.any fun o=>match o.op with | .buildSlice ..=>true | _=>false) && ops.toList.all fun o=>match o.op with
  | .buildSlice ..=>match o.dst with
    | some d=>litArg E ops d
    | none=>false
  | _=>true
structure Fp where
  all:Bool
  R:List Nat
  W:List Nat
  mem:Option (AHeap × AHeap)
def fp0:Fp:=⟨false,[],[],none⟩
def idOf:AV→List Nat
  | .ptr id ..=>[id]
  | .osl id ..=>[id]
  | .mp id=>[id]
  | _=>[]
def plainArg:AV→Bool
  | .s _ | .fsl .. | .fptr .. | .esl=>true
  | .agg cs=>cs.all noOwn
  | _=>false
def fpOf (E:Env) (o:Op) (t:List AV) (n:Nat):Option Fp:=
  match o with
  | .move _ | .assign _ | .pick .. | .build .. | .nilCheck _ | .binOp .. | .unOp .. | .slice .. | .fieldAddr .. | .field .. | .indexAddr .. | .index .. | .extract ..=>some fp0
  | .buildSlice ty len ps=>some (if ownLit ty len ps.toList then ⟨false,[],[n],none⟩ else fp0)
  | .makeFunc (.func _) ..=>some fp0
  | .load _ a=>(opnd t a).map fun v=>⟨false,idOf v,[],none⟩
  | .lookup _ x _ _=>(opnd t x).map fun v=>⟨false,idOf v,[],none⟩
  | .store _ a _=>(opnd t a).map fun v=>⟨false,idOf v,idOf v,none⟩
  | .alloc _ | .box .. | .makeSlice ..=>some ⟨false,[],[n],none⟩
  | .call { callee:=.value (.func g),args,.. }=>
    if (E.prim g).isSome then some fp0 else
    if E.pf g then (opnds t args.toList).map fun vs=>if vs.all plainArg then fp0 else ⟨true,[],[],none⟩ else none
  | .call { callee:=.builtin b,args,argTypes }=>match b with
    | .len=>if mapTy argTypes[0]? then none else some fp0
    | .min | .max | .cap=>some fp0
    | .append=>if frzTy argTypes[0]? then none else match opnds t args.toList with
      | some [x,y]=>some ⟨false,idOf x ++ idOf y,n :: idOf x,none⟩
      | _=>none
    | _=>none
  | _=>none
def fpM (E:Env) (r:Rec) (o:Op) (t:List AV) (h:AHeap) (n:Nat):Option Fp:=
  match o with
  | .call { callee:=.value f,args,.. }=>match callOf E r t h n f args.toList with
    | some (_,h',_)=>some ⟨true,[],[],some (h,h')⟩
    | none=>none
  | _=>none
def fpH (E:Env) (r:Rec) (o:Op) (t:List AV) (h:AHeap) (n:Nat):Option Fp:=
  match fpOf E o t n with
  | some F=>some F
  | none=>fpM E r o t h n
open Classical in
noncomputable def Fp.apart (a b:Fp):Bool:=
  match a.mem,b.mem with
  | none,none=>a.W.all (fun i=>!b.R.contains i && !b.W.contains i) && b.W.all (fun i=>!a.R.contains i) && (a.W.isEmpty || !b.all) && (b.W.isEmpty || !a.all)
  | none,some (x,y)=>a.W.isEmpty && !a.all && decide (∀ i∈a.R,y i=x i)
  | some (x,y),none=>b.W.isEmpty && !b.all && decide (∀ i∈b.R,y i=x i)
  | some _,some _=>false
def tmpsOf (o:Oper):List Tmp:=o.op.operands.toList.filterMap fun | .tmp t=>some t | _=>none
def readsOf (ops:Array Oper) (o:Oper):List Tmp:=
  tmpsOf o ++ (match o.guard with
    | some (j,_)=>match (ops[j]?).bind (·.dst) with
      | some d=>[d]
      | none=>[]
    | none=>[])
def freeOf (ops:Array Oper) (a b:Oper):Bool:=
  (match a.dst with | some d=>!(readsOf ops b).contains d | none=>true) && (match b.dst with | some d=>!(readsOf ops a).contains d | none=>true) &&
  (match a.dst,b.dst with | some d,some e=>d != e | _,_=>true)
def ancBits (acc:List Nat):List Edge→Nat
  | []=>0
  | e :: es=>if Region.binds .any e then 2 ^ e.on ||| (acc.getD e.on 0) ||| ancBits acc es else ancBits acc es
def ancsFrom (acc:List Nat):List Oper→List Nat
  | []=>acc
  | o :: os=>ancsFrom (acc ++ [ancBits acc o.after.toList]) os
def ancs (ops:Array Oper):List Nat:=ancsFrom [] ops.toList
def waits (an:List Nat) (j i:Nat):Bool:=(an.getD j 0).testBit i
def loud:Op→Bool
  | .move _ | .assign _ | .pick .. | .build .. | .nilCheck _ | .binOp .. | .unOp .. | .slice .. | .fieldAddr .. | .field .. | .indexAddr .. | .index .. | .extract ..=>false
  | .buildSlice ty len ps=>ownLit ty len ps.toList
  | .makeFunc ..=>false
  | .call { callee:=.builtin b,argTypes,.. }=>match b with
    | .len=>mapTy argTypes[0]?
    | .min | .max | .cap=>false
    | _=>true
  | _=>true
def usesD:Op→Bool
  | .buildSlice ty len ps=>ownLit ty len ps.toList
  | o=>usesN o
def passOps (m:Region.Mode) (done:Nat):List (Nat × Oper)→Nat
  | []=>done
  | (i,o) :: os=>passOps m (if o.after.toList.all (fun e=>!Region.binds m e || done.testBit e.on) then done ||| 2 ^ i else done) os
def passes (m:Region.Mode) (ops:List (Nat × Oper)):Nat→Nat→Nat
  | 0,done=>done
  | k + 1,done=>let d:=passOps m done ops; if d=done then done else passes m ops k d
def indexed:Nat→List Oper→List (Nat × Oper)
  | _,[]=>[]
  | i,o :: os=>(i,o) :: indexed (i + 1) os
def modeOk (ops:Array Oper) (m:Region.Mode):Bool:=passes m (indexed 0 ops.toList) ops.size 0 == 2 ^ ops.size - 1
def regOk (ops:Array Oper):Bool:=
  modeOk ops .any && modeOk ops .text && modeOk ops .gc &&
  let an:=ancs ops
  (List.range ops.size).all fun j=>(List.range j).all fun i=>waits an j i ||
    match ops[i]?,ops[j]? with
    | some a,some b=>freeOf ops a b && !(usesD a.op && usesD b.op)
    | _,_=>true
noncomputable section
def traceOps (E:Env) (r:Rec) (ops:Array Oper):List Nat→St→Option (List (Option Fp) × St)
  | [],s=>some ([],s)
  | i :: is,s=>match ops[i]? with
    | none=>none
    | some o=>match stepOp E r true ops o s with
      | some s'=>match traceOps E r ops is s' with
        | some (l,s'')=>some ((match wantedA ops s.t o with | some true=>fpH E r o.op s.t s.h s.n | _=>some fp0) :: l,s'')
        | none=>none
      | none=>none
def mayApart:Option (Option Fp)→Option (Option Fp)→Bool
  | some (some a),some (some b)=>a.apart b
  | _,_=>false
def loudIx (ops:Array Oper):List Nat:=(List.range ops.size).filter fun i=>match ops[i]? with | some o=>loud o.op | none=>false
def pairsOk (an:List Nat) (fps:List (Option Fp)):List Nat→Bool
  | []=>true
  | i :: is=>is.all (fun j=>waits an j i || mayApart fps[i]? fps[j]?) && pairsOk an fps is
def allOrdered (an:List Nat):List Nat→Bool
  | []=>true
  | i :: is=>is.all (fun j=>waits an j i) && allOrdered an is
def evalDraw (E:Env) (r:Rec) (ops:Array Oper) (s:St):Option St:=
  let an:=ancs ops
  let l:=loudIx ops
  if allOrdered an l then evalOps E r true ops (List.range ops.size) s else
  match traceOps E r ops (List.range ops.size) s with
  | some (fps,s')=>if pairsOk an fps l then some s' else none
  | none=>none
def codeOk:Code→Bool
  | .region _ ops draw=>!draw || regOk ops
  | .seq a b | .cond _ a b | .rangeFunc _ _ a b=>codeOk a && codeOk b
  | .block _ a | .loop a | .scope a=>codeOk a
  | _=>true
def iter:Nat→(St→Option (AX × St))→St→Option (AX × St)
  | 0,_,_=>none
  | k + 1,f,s=>match f s with
    | some (.normal,s')=>iter k f s'
    | x=>x
def evalC (E:Env) (r:Rec) (k:Nat):Code→St→Option (AX × St)
  | .skip,s=>some (.normal,s)
  | .region _ ops draw,s=>
    match (if draw then evalDraw E r ops s else evalOps E r (argLit E ops) ops (List.range ops.size) s) with
    | some s'=>some (.normal,s')
    | none=>none
  | .seq a b,s=>match evalC E r k a s with
    | some (.normal,s')=>evalC E r k b s'
    | x=>x
  | .cond c x y,s=>match (opnd s.t c).bind asBool? with
    | some true=>evalC E r k x s
    | some false=>evalC E r k y s
    | none=>none
  | .block id b,s=>match evalC E r k b s with
    | some (.exit i,s')=>if i=id then some (.normal,s') else some (.exit i,s')
    | x=>x
  | .loop b,s=>iter k (evalC E r k b) s
  | .rangeFunc f ps asg body,s=>match opnd s.t f with
    | some (.fn g caps)=>
      match r.call g (.yld s.n :: caps) (s.h.put s.n (some (.loop { state:=.ready,pending:=none,tmps:=s.t,params:=ps.toList,assign:=asg,body:=body }))) (s.n + 1) with
      | some (_,h2,n2)=>match h2 s.n with
        | some (.loop R)=>
          if R.state = .busy then none else
          match R.pending with
          | none=>some (.normal,⟨s.t,h2.put s.n none,n2⟩)
          | some .ret=>some (.ret,⟨s.t,h2.put s.n none,n2⟩)
          | some (.exit id)=>some (.exit id,⟨s.t,h2.put s.n none,n2⟩)
          | some (.goto l)=>some (.goto l,⟨s.t,h2.put s.n none,n2⟩)
          | _=>none
        | _=>none
      | none=>none
    | _=>none
  | .exit id,s=>some (.exit id,s)
  | .ret,s=>some (.ret,s)
  | .label _,s=>some (.normal,s)
  | .goto l,s=>some (.goto l,s)
  | .scope b,s=>match evalC E r k b s with
    | some (.goto _,_)=>none
    | x=>x
  | .refuse _,_=>none
def resultOf (P:Program) (t:List AV) (h:AHeap):ResultVar→Option AV
  | .tmp i=>t[i]?
  | .cell a ty=>match t[a]? with
    | some p=>loadOf P h ty p
    | none=>none
def resultList (P:Program) (t:List AV) (h:AHeap):List ResultVar→Option (List AV)
  | []=>some []
  | x :: xs=>match resultOf P t h x,resultList P t h xs with
    | some v,some vs=>some (v :: vs)
    | _,_=>none
def resultsOf (P:Program) (rs:List ResultVar) (t:List AV) (h:AHeap):Option AV:=
  match resultList P t h rs with
  | some [v]=>some v
  | some vs=>some (.tup vs)
  | none=>none
def callAt (E:Env) (code:Code→St→Option (AX × St)) (f:FuncId) (args:List AV) (h:AHeap) (n:Nat):Option (AV × AHeap × Nat):=
  match E.primM f with
  | some p=>p args h n
  | none=>
  match E.P.funcs[f]? with
  | some fn=>match fn.body with
    | some c=>match code c ⟨args ++ List.replicate (fn.ntmps - args.length) (.s undef),h,n⟩ with
      | some (.normal,s)=>match resultsOf E.P fn.results.toList s.t s.h with
        | some v=>some (v,s.h,s.n)
        | none=>none
      | some (.ret,s)=>match resultsOf E.P fn.results.toList s.t s.h with
        | some v=>some (v,s.h,s.n)
        | none=>none
      | _=>none
    | none=>none
  | none=>none
def mk (E:Env):Nat→Rec
  | 0=>⟨fun _ _ _ _=>none,fun _ _=>none⟩
  | k + 1=>⟨fun f args h n=>callAt E (evalC E (mk E k) k) f args h n,fun c s=>evalC E (mk E k) k c s⟩
def pcall (E:Env) (k:Nat) (f:FuncId) (args:List AV):Option AV:=
  match (mk E k).call f args AHeap.nil 0 with
  | some (v,h,_)=>match snap h depth v with
    | some (v',_)=>some v'
    | none=>none
  | none=>none
end
end Go.Vm
/- The abstract evaluator: what its values say of a world. -/
set_option linter.unusedSimpArgs false
namespace Go.Vm
open Go
structure Cx where
  w:World
  ι:Nat→Nat × Nat × Nat
  L:Nat→Prop
  X:Nat→Prop
  c:Nat
def Cx.free (K:Cx) (b:Nat):Prop:=b < K.w.heap.size∧¬ K.L b∧¬ K.X b
def Cx.frz (K:Cx):Cx:={ K with c:=0 }
@[simp] theorem Cx.frz_w (K:Cx):K.frz.w=K.w:=rfl
@[simp] theorem Cx.frz_free (K:Cx):K.frz.free=K.free:=rfl
@[simp] theorem Cx.frz_frz (K:Cx):K.frz.frz=K.frz:=rfl
@[simp] theorem Cx.frz_c (K:Cx):K.frz.c=0:=rfl
mutual
def VRel (K:Cx):AV→Value→Prop
  | .s v,x=>x=v
  | .agg cs,x=>∃ vs,x = .agg vs∧VRels K cs vs.toList
  | .tup cs,x=>∃ vs,x = .tuple vs∧VRels K cs vs.toList
  | .ptr id i sz off,x=>id < K.c∧x = .pointer (some ⟨(K.ι id).1,((K.ι id).2.1 + i) * sz + off,none⟩)
  | .fptr row off,x=>∃ b o,x = .pointer (some ⟨b,o + off,none⟩)∧CRel K.frz b o row
  | .osl id off len sz,x=>id < K.c∧∃ a cap,x = .slice (some a) len cap∧off + cap=(K.ι id).2.2∧len≤cap∧(cap=0∨a=⟨(K.ι id).1,((K.ι id).2.1 + off) * sz,none⟩)
  | .fsl sz rows,x=>∃ A cap,x = .slice A rows.length cap∧A≠none∧rows.length≤cap∧(rows=[]∨∃ b o,A=some ⟨b,o,none⟩∧RRel K.frz b o sz rows)
  | .esl,x=>∃ A,x = .slice A 0 0∧A≠none
  | .fn f caps,x=>∃ cv,x = .func (.func f) #[] cv∧VRels K caps cv.toList
  | .yld l,x=>l < K.c∧x = .func (.yield (K.ι l).1) #[] #[]
  | .mp l,x=>l < K.c∧x = .map (some (K.ι l).1)
  | .fmp es,x=>∃ b ms,x = .map (some b)∧K.free b∧K.w.heap[b]? = some (.map ms es.length)∧ms.size=es.length∧∀ (i:Nat) (e:Value × Value),es[i]? = some e→ms[i]? = some ⟨e.1,e.2,i⟩
  | .any,_=>True
def VRels (K:Cx):List AV→List Value→Prop
  | [],[]=>True
  | c :: cs,v :: vs=>VRel K c v∧VRels K cs vs
  | _,_=>False
def CRel (K:Cx) (b o:Nat):List AV→Prop
  | []=>True
  | c :: cs=>(∃ v,K.free b∧K.w.cell? ⟨b,o,none⟩=some v∧v.oneCell' = true∧VRel K c v)∧CRel K b (o + 1) cs
def RRel (K:Cx) (b o sz:Nat):List (List AV)→Prop
  | []=>True
  | r :: rs=>r.length=sz∧CRel K b o r∧RRel K b (o + sz) sz rs
end
structure Cx.Le (K K':Cx):Prop where
  c:K.c≤K'.c
  ι:∀ id,id < K.c→K'.ι id=K.ι id
  fr:∀ b v o,K.free b→K.w.cell? ⟨b,o,none⟩=some v→K'.free b∧K'.w.cell? ⟨b,o,none⟩=some v
  fm:∀ b ms c,K.free b→K.w.heap[b]? = some (.map ms c)→K'.free b∧K'.w.heap[b]? = some (.map ms c)
theorem Cx.Le.frz {K K':Cx} (h:K.Le K'):K.frz.Le K'.frz:=⟨Nat.le_refl 0,fun _ hi=>absurd hi (Nat.not_lt_zero _),h.fr,h.fm⟩
theorem Cx.Le.refl (K:Cx):K.Le K:=⟨Nat.le_refl _,fun _ _=>rfl,fun _ _ _ h k=>⟨h,k⟩,fun _ _ _ h k=>⟨h,k⟩⟩
theorem Cx.Le.trans {A B C:Cx} (h:A.Le B) (k:B.Le C):A.Le C:=
  ⟨Nat.le_trans h.c k.c,fun id hi=>(k.ι id (Nat.lt_of_lt_of_le hi h.c)).trans (h.ι id hi),fun b v o hf hc=>let ⟨f',c'⟩:=h.fr b v o hf hc; k.fr b v o f' c',fun b ms o hf hc=>let ⟨f',c'⟩:=h.fm b ms o hf hc; k.fm b ms o f' c'⟩
mutual
theorem VRel.mono {K K':Cx} (h:K.Le K'):∀ {a:AV} {x:Value},VRel K a x→VRel K' a x
  | .s _,_,hr=>by simpa[VRel] using hr
  | .agg _,_,hr=>by
    obtain⟨vs,e,hs⟩:=by simpa[VRel] using hr
    simp only[VRel]
    exact⟨vs,e,VRels.mono h hs⟩
  | .tup _,_,hr=>by
    obtain⟨vs,e,hs⟩:=by simpa[VRel] using hr
    simp only[VRel]
    exact⟨vs,e,VRels.mono h hs⟩
  | .ptr id _ _ _,_,hr=>by
    simp only[VRel] at hr ⊢
    rw[h.ι id hr.1]
    exact⟨Nat.lt_of_lt_of_le hr.1 h.c,hr.2⟩
  | .fptr _ _,_,hr=>by
    simp only[VRel] at hr ⊢
    obtain⟨b,o,e,hc⟩:=hr
    exact⟨b,o,e,CRel.mono h.frz hc⟩
  | .osl id _ _ _,_,hr=>by
    simp only[VRel] at hr ⊢
    rw[h.ι id hr.1]
    exact⟨Nat.lt_of_lt_of_le hr.1 h.c,hr.2⟩
  | .fsl _ _,_,hr=>by
    simp only[VRel] at hr ⊢
    obtain⟨A,cap,e,hA,hle,hc⟩:=hr
    refine⟨A,cap,e,hA,hle,hc.imp id ?_⟩
    rintro⟨b,o,e2,hc⟩
    exact⟨b,o,e2,RRel.mono h.frz hc⟩
  | .esl,_,hr=>by simpa[VRel] using hr
  | .fn _ _,_,hr=>by
    simp only[VRel] at hr ⊢
    obtain⟨vs,e,hs⟩:=hr
    exact⟨vs,e,VRels.mono h hs⟩
  | .yld l,_,hr=>by
    simp only[VRel] at hr ⊢
    rw[h.ι l hr.1]
    exact⟨Nat.lt_of_lt_of_le hr.1 h.c,hr.2⟩
  | .mp l,_,hr=>by
    simp only[VRel] at hr ⊢
    rw[h.ι l hr.1]
    exact⟨Nat.lt_of_lt_of_le hr.1 h.c,hr.2⟩
  | .fmp _,_,hr=>by
    simp only[VRel] at hr ⊢
    obtain⟨b,ms,e,hf,hm,k⟩:=hr
    obtain⟨f',c'⟩:=h.fm b ms _ hf hm
    exact⟨b,ms,e,f',c',k⟩
  | .any,_,_=>by simp[VRel]
theorem VRels.mono {K K':Cx} (h:K.Le K'):∀ {a:List AV} {x:List Value},VRels K a x→VRels K' a x
  | [],[],_=>by simp[VRels]
  | c :: cs,v :: vs,hr=>by
    simp only[VRels] at hr ⊢
    exact⟨VRel.mono h hr.1,VRels.mono h hr.2⟩
  | [],_ :: _,hr=>by simp[VRels] at hr
  | _ :: _,[],hr=>by simp[VRels] at hr
theorem CRel.mono {K K':Cx} (h:K.Le K'):∀ {b o:Nat} {a:List AV},CRel K b o a→CRel K' b o a
  | _,_,[],_=>by simp[CRel]
  | b,o,c :: cs,hr=>by
    simp only[CRel] at hr ⊢
    obtain⟨⟨v,hf,hc,h1,hv⟩,hs⟩:=hr
    obtain⟨f',c'⟩:=h.fr b v o hf hc
    exact⟨⟨v,f',c',h1,VRel.mono h hv⟩,CRel.mono h hs⟩
theorem RRel.mono {K K':Cx} (h:K.Le K'):∀ {b o sz:Nat} {a:List (List AV)},RRel K b o sz a→RRel K' b o sz a
  | _,_,_,[],_=>by simp[RRel]
  | b,o,sz,c :: cs,hr=>by
    simp only[RRel] at hr ⊢
    exact⟨hr.1,CRel.mono h hr.2.1,RRel.mono h hr.2.2⟩
end
theorem VRels.length {K:Cx}:∀ {a:List AV} {x:List Value},VRels K a x→a.length=x.length
  | [],[],_=>rfl
  | _ :: _,_ :: _,hr=>by simp only[VRels] at hr; simp[VRels.length hr.2]
  | [],_ :: _,hr=>by simp[VRels] at hr
  | _ :: _,[],hr=>by simp[VRels] at hr
theorem VRels.get {K:Cx}:∀ {a:List AV} {x:List Value},VRels K a x→∀ {i:Nat} {c:AV},a[i]? = some c→∃ v,x[i]? = some v∧VRel K c v
  | [],[],_,i,c,hi=>by simp at hi
  | c :: cs,v :: vs,hr,0,d,hi=>by
    simp only[VRels] at hr
    simp at hi
    subst hi
    exact⟨v,rfl,hr.1⟩
  | c :: cs,v :: vs,hr,i + 1,d,hi=>by
    simp only[VRels] at hr
    simp at hi
    obtain⟨u,h1,h2⟩:=VRels.get hr.2 hi
    exact⟨u,by simpa using h1,h2⟩
  | [],_ :: _,hr,_,_,_=>by simp[VRels] at hr
  | _ :: _,[],hr,_,_,_=>by simp[VRels] at hr
theorem VRels.of {K:Cx}:∀ {a:List AV} {x:List Value},a.length=x.length→(∀ (i:Nat) (c:AV) (v:Value),a[i]? = some c→x[i]? = some v→VRel K c v)→VRels K a x
  | [],[],_,_=>by simp[VRels]
  | c :: cs,v :: vs,hl,h=>by
    simp only[VRels]
    exact⟨h 0 c v rfl rfl,VRels.of (by simpa using hl) fun i d u h1 h2=>h (i + 1) d u (by simpa using h1) (by simpa using h2)⟩
  | [],_ :: _,hl,_=>by simp at hl
  | _ :: _,[],hl,_=>by simp at hl
theorem VRels.set {K:Cx} {a:List AV} {x:List Value} (h:VRels K a x) (i:Nat) {c:AV} {v:Value} (hv:VRel K c v):VRels K (a.set i c) (x.set i v):=by
  refine VRels.of (by simpa using h.length) fun j d u hj hu=>?_
  by_cases e:i=j
  · subst e
    rw[List.getElem?_set_self'] at hj hu
    cases h1:a[i]? with
    | none=>rw[h1] at hj; cases hj
    | some a0=>
      cases h2:x[i]? with
      | none=>rw[h2] at hu; cases hu
      | some x0=>
        rw[h1] at hj; rw[h2] at hu
        simp at hj hu
        subst hj; subst hu
        exact hv
  · rw[List.getElem?_set_ne e] at hj hu
    obtain⟨u',h1,h2⟩:=h.get hj
    rw[hu] at h1
    cases h1
    exact h2
theorem VRels.append {K:Cx}:∀ {a b:List AV} {x y:List Value},VRels K a x→VRels K b y→VRels K (a ++ b) (x ++ y)
  | [],b,[],y,_,h=>h
  | c :: cs,b,v :: vs,y,h1,h2=>by
    simp only[VRels] at h1
    simp only[List.cons_append,VRels]
    exact⟨h1.1,VRels.append h1.2 h2⟩
  | [],_,_ :: _,_,h,_=>by simp[VRels] at h
  | _ :: _,_,[],_,h,_=>by simp[VRels] at h
theorem VRels.take {K:Cx} {a:List AV} {x:List Value} (h:VRels K a x) (n:Nat):VRels K (a.take n) (x.take n):=by
  refine VRels.of (by simp[h.length]) fun i c v h1 h2=>?_
  by_cases hi:i < n
  · rw[List.getElem?_take_of_lt hi] at h1 h2
    obtain⟨u,e,hv⟩:=h.get h1
    rw[h2] at e
    injection e with e
    rw[e]
    exact hv
  · rw[List.getElem?_take,if_neg hi] at h1
    cases h1
theorem VRels.drop {K:Cx} {a:List AV} {x:List Value} (h:VRels K a x) (n:Nat):VRels K (a.drop n) (x.drop n):=by
  refine VRels.of (by simp[h.length]) fun i c v h1 h2=>?_
  rw[List.getElem?_drop] at h1 h2
  obtain⟨u,e,hv⟩:=h.get h1
  rw[h2] at e
  injection e with e
  rw[e]
  exact hv
theorem VRels.map_s {K:Cx}:∀ (vs:List Value),VRels K (vs.map .s) vs
  | []=>by simp[VRels]
  | v :: vs=>by
    simp only[List.map_cons,VRels,VRel]
    exact⟨trivial,VRels.map_s vs⟩
theorem ofVal_rel (K:Cx) (v:Value):VRel K (ofVal v) v:=by
  unfold ofVal
  split
  · rename_i cs
    simp only[VRel]
    exact⟨cs,rfl,VRels.map_s _⟩
  · rename_i f first caps
    split
    · rename_i h
      simp only[VRel]
      have h1:first = #[]:=by apply Array.eq_empty_of_size_eq_zero; exact h.1
      have h2:caps = #[]:=by apply Array.eq_empty_of_size_eq_zero; exact h.2
      subst h1; subst h2
      exact⟨#[],rfl,by simp[VRels]⟩
    · simp[VRel]
  · simp[VRel]
mutual
theorem toVal_rel {K:Cx}:∀ {a:AV} {v x:Value},toVal a=some v→VRel K a x→x=v
  | .s _,v,x,h,hr=>by
    simp only[toVal,Option.some.injEq] at h
    simp only[VRel] at hr
    rw[hr,h]
  | .agg cs,v,x,h,hr=>by
    simp only[toVal] at h
    simp only[VRel] at hr
    obtain⟨xs,rfl,hs⟩:=hr
    cases e:toVals cs with
    | none=>rw[e] at h; cases h
    | some vs=>
      rw[e] at h
      cases h
      rw[toVals_rel e hs]
  | .tup cs,v,x,h,hr=>by
    simp only[toVal] at h
    simp only[VRel] at hr
    obtain⟨xs,rfl,hs⟩:=hr
    cases e:toVals cs with
    | none=>rw[e] at h; cases h
    | some vs=>
      rw[e] at h
      cases h
      rw[toVals_rel e hs]
  | .fn f [],v,x,h,hr=>by
    simp only[toVal,Option.some.injEq] at h
    simp only[VRel] at hr
    obtain⟨cv,rfl,hs⟩:=hr
    have:cv = #[]:=by
      have:=hs.length
      apply Array.eq_empty_of_size_eq_zero
      simpa using this.symm
    subst this
    exact h
  | .fn f (_ :: _),v,x,h,_=>by simp[toVal] at h
  | .ptr ..,v,x,h,_=>by simp[toVal] at h
  | .fptr ..,v,x,h,_=>by simp[toVal] at h
  | .osl ..,v,x,h,_=>by simp[toVal] at h
  | .fsl ..,v,x,h,_=>by simp[toVal] at h
  | .esl,v,x,h,_=>by simp[toVal] at h
  | .yld _,v,x,h,_=>by simp[toVal] at h
  | .mp _,v,x,h,_=>by simp[toVal] at h
  | .fmp _,v,x,h,_=>by simp[toVal] at h
  | .any,v,x,h,_=>by simp[toVal] at h
theorem toVals_rel {K:Cx}:∀ {a:List AV} {vs xs:List Value},toVals a=some vs→VRels K a xs→vs=xs
  | [],vs,[],h,_=>by simp only[toVals,Option.some.injEq] at h; exact h.symm
  | c :: cs,vs,x :: xs,h,hr=>by
    simp only[toVals] at h
    simp only[VRels] at hr
    cases e1:toVal c with
    | none=>rw[e1] at h; cases h
    | some v=>
      cases e2:toVals cs with
      | none=>rw[e1,e2] at h; cases h
      | some us=>
        rw[e1,e2] at h
        cases h
        rw[toVal_rel e1 hr.1,toVals_rel e2 hr.2]
  | [],_,_ :: _,_,hr=>by simp[VRels] at hr
  | _ :: _,_,[],_,hr=>by simp[VRels] at hr
end
theorem pureRun_run {α:Type} {P:Program}:∀ {x:Sem α} {a:α},pureRun P x=some a→∀ w,x.run P w = .ok a w
  | .pure _,a,h,w=>by simp only[pureRun,Option.some.injEq] at h; subst h; rfl
  | .program k,a,h,w=>by simp only[pureRun] at h; simp only[Sem.run]; exact pureRun_run h w
  | .mark _ k,a,h,w=>by simp only[pureRun] at h; simp only[Sem.run]; exact pureRun_run h w
  | .load ..,a,h,w=>by simp[pureRun] at h
  | .store ..,a,h,w=>by simp[pureRun] at h
  | .new ..,a,h,w=>by simp[pureRun] at h
  | .shape ..,a,h,w=>by simp[pureRun] at h
  | .freeze ..,a,h,w=>by simp[pureRun] at h
  | .frozen ..,a,h,w=>by simp[pureRun] at h
  | .getObj ..,a,h,w=>by simp[pureRun] at h
  | .setObj ..,a,h,w=>by simp[pureRun] at h
  | .choose ..,a,h,w=>by simp[pureRun] at h
  | .sys ..,a,h,w=>by simp[pureRun] at h
  | .halt _,a,h,w=>by simp[pureRun] at h
theorem oneA_rel {K:Cx} {a:AV} {x:Value} (h:oneA a=true) (hr:VRel K a x):x.oneCell' = true:=by
  cases a <;> simp only[VRel] at hr <;> simp only[oneA] at h
  case s v=>rw[hr]; exact h
  case ptr=>rw[hr.2]; rfl
  case fptr=>obtain⟨_,_,e,_⟩:=hr; rw[e]; rfl
  case osl=>obtain⟨_,_,_,e,_⟩:=hr; rw[e]; rfl
  case fsl=>obtain⟨_,_,e,_⟩:=hr; rw[e]; rfl
  case esl=>obtain⟨_,e,_⟩:=hr; rw[e]; rfl
  case fn=>obtain⟨_,e,_⟩:=hr; rw[e]; rfl
  case yld=>rw[hr.2]; rfl
  case mp=>rw[hr.2]; rfl
  case fmp=>obtain⟨_,_,e,_⟩:=hr; rw[e]; rfl
  all_goals cases h
theorem oneA_all {K:Cx}:∀ {cs:List AV} {vs:List Value},cs.all oneA=true→VRels K cs vs→∀ v∈vs,v.oneCell' = true
  | [],[],_,_,v,hv=>by simp at hv
  | c :: cs,x :: vs,h,hr,v,hv=>by
    simp only[VRels] at hr
    simp only[List.all_cons,Bool.and_eq_true] at h
    rcases List.mem_cons.1 hv with rfl | hv
    · exact oneA_rel h.1 hr.1
    · exact oneA_all h.2 hr.2 v hv
  | [],_ :: _,_,hr,_,_=>by simp[VRels] at hr
  | _ :: _,[],_,hr,_,_=>by simp[VRels] at hr
theorem cells_one {x:Value} (h:x.oneCell' = true):x.cells = #[x]:=by cases x <;> first | rfl | cases h
theorem cellsOf_rel {K:Cx} {a:AV} {x:Value} {cs:List AV} (h:cellsOf a=some cs) (hr:VRel K a x):VRels K cs x.cells.toList∧∀ v∈x.cells.toList,v.oneCell' = true:=by
  unfold cellsOf at h
  split at h
  · split at h
    · cases h
      simp only[VRel] at hr
      obtain⟨vs,rfl,hs⟩:=hr
      rename_i ho
      exact⟨hs,oneA_all ho hs⟩
    · cases h
  · split at h
    · cases h
      simp only[VRel] at hr
      subst hr
      rename_i ho
      exact⟨VRels.map_s _,fun v hv=>List.all_eq_true.1 ho v hv⟩
    · cases h
  · split at h
    · cases h
      rename_i ho
      have h1:=oneA_rel ho hr
      rw[cells_one h1]
      simp only[VRels]
      exact⟨⟨hr,trivial⟩,fun v hv=>by simp at hv; rw[hv]; exact h1⟩
    · cases h
end Go.Vm
/- The abstract evaluator: own memory in a world; how it turns. -/
namespace Go.Vm
open Go
def isLoop (w:World) (l:Nat):Prop:=∃ R:Loop,w.heap[l]? = some (.loop R)
structure Cx.Step (K K':Cx):Prop where
  c:K.c≤K'.c
  ι:∀ id,id < K.c→K'.ι id=K.ι id
  os:K'.w.os=K.w.os
  tape:K'.w.tape=K.w.tape
  output:K'.w.output=K.w.output
  size:K.w.heap.size≤K'.w.heap.size
  keep:∀ b,b < K.w.heap.size→¬ K.L b→K'.w.heap[b]? = K.w.heap[b]?∧¬ K'.L b
  X:K'.X=K.X
  loops:∀ l,isLoop K.w l→isLoop K'.w l
theorem cell_block {w w':World} {b o:Nat} {v:Value} (h:w.cell? ⟨b,o,none⟩=some v) (hb:w'.heap[b]? = w.heap[b]?):w'.cell? ⟨b,o,none⟩=some v:=by
  simp only[World.cell?] at h ⊢
  rw[hb]; exact h
theorem Cx.Step.le {K K':Cx} (h:K.Step K'):K.Le K':=
  ⟨h.c,h.ι,fun b v o hf hc=>by
    obtain⟨h1,h2,h3⟩:=hf
    obtain⟨k1,k2⟩:=h.keep b h1 h2
    exact⟨⟨Nat.lt_of_lt_of_le h1 h.size,k2,by rw[h.X]; exact h3⟩,cell_block hc k1⟩,fun b ms c hf hc=>by
    obtain⟨h1,h2,h3⟩:=hf
    obtain⟨k1,k2⟩:=h.keep b h1 h2
    exact⟨⟨Nat.lt_of_lt_of_le h1 h.size,k2,by rw[h.X]; exact h3⟩,k1.trans hc⟩⟩
theorem Cx.Step.refl (K:Cx):K.Step K:=⟨Nat.le_refl _,fun _ _=>rfl,rfl,rfl,rfl,Nat.le_refl _,fun _ _ h=>⟨rfl,h⟩,rfl,fun _ h=>h⟩
theorem Cx.Step.trans {A B C:Cx} (h:A.Step B) (k:B.Step C):A.Step C:=
  ⟨Nat.le_trans h.c k.c,fun id hi=>(k.ι id (Nat.lt_of_lt_of_le hi h.c)).trans (h.ι id hi),k.os.trans h.os,k.tape.trans h.tape,k.output.trans h.output,Nat.le_trans h.size k.size,
   fun b hb hl=>by
    obtain⟨h1,h2⟩:=h.keep b hb hl
    obtain⟨k1,k2⟩:=k.keep b (Nat.lt_of_lt_of_le hb h.size) h2
    exact⟨k1.trans h1,k2⟩,k.X.trans h.X,fun l hl=>k.loops l (h.loops l hl)⟩
def CellsRel (K:Cx) (arr:Array Value) (p:Nat) (cs:List AV):Prop:=∀ (j:Nat) (c:AV),cs[j]? = some c→∃ v,arr[p + j]? = some v∧v.oneCell' = true∧VRel K c v
def ORel (K:Cx) (p:Nat × Nat × Nat):AObj→Prop
  | .rows sz rows=>∃ (arr:Array Value) (T:TypeId) (fz:Nat × Nat),K.w.heap[p.1]? = some (.cells arr T fz)∧arr.size=(p.2.1 + p.2.2) * sz∧(∀ i,i < arr.size→¬ (fz.1≤i∧i < fz.2)) ∧
      rows.length≤p.2.2∧∀ (i:Nat) (r:List AV),rows[i]? = some r→r.length=sz∧CellsRel K arr ((p.2.1 + i) * sz) r
  | .loop r=>∃ R:Loop,K.w.heap[p.1]? = some (.loop R)∧R.state=r.state∧R.pending=r.pending∧R.params.toList=r.params∧R.assign=r.assign∧R.body=r.body∧VRels K r.tmps R.tmps.toList∧codeOk r.assign=true∧codeOk r.body=true
  | .map es=>∃ (ms:Array MapEntry),K.w.heap[p.1]? = some (.map ms es.length)∧ms.size=es.length∧∀ (i:Nat) (e:Value × AV),es[i]? = some e→∃ v,ms[i]? = some ⟨e.1,v,i⟩∧VRel K e.2 v
  | .bld l=>p.2.1=0∧∃ (T:TypeId) (q v:Value),bldTy=some T∧K.w.heap[p.1]? = some (.cells #[q,v] T (0,0))∧(q = .pointer none∨q = .pointer (some ⟨p.1,0,none⟩)) ∧
      K.w.ownsRowF 0 bldEl 1 v l.length (Lib.byteCells l)∧v.ownBlock≠some p.1
def Hid (w:World) (b g:Nat):AObj→Prop
  | .bld _=>∃ (q v:Value) (T:TypeId) (fz:Nat × Nat),w.heap[b]? = some (.cells #[q,v] T fz)∧v.ownBlock=some g
  | _=>False
theorem Hid.turn {w w':World} {b g:Nat} {o:AObj} (hb:w'.heap[b]? = w.heap[b]?) (h:Hid w' b g o):Hid w b g o:=by
  cases o with
  | bld l=>
    obtain⟨q,v,T,fz,h1,h2⟩:=h
    exact⟨q,v,T,fz,hb ▸ h1,h2⟩
  | _=>exact h.elim
theorem ownsRowF_turn {w w':World} {base:Nat} {e:TypeId} {size n:Nat} {v:Value} {xs:List Value} (h:w.ownsRowF base e size v n xs) (hb:∀ g,v.ownBlock=some g→w'.heap[g]? = w.heap[g]?):w'.ownsRowF base e size v n xs:=by
  refine⟨h.1,?_⟩
  rcases h.2 with hn | ⟨g,cap,cur,fz,rfl,h1,h2,h3⟩
  · exact .inl hn
  · exact .inr ⟨g,cap,cur,fz,rfl,h1,(hb g rfl).trans h2,h3⟩
theorem CellsRel.mono {K K':Cx} (h:K.Le K') {arr:Array Value} {p:Nat} {cs:List AV} (hc:CellsRel K arr p cs):CellsRel K' arr p cs:=fun j c hj=>by
  obtain⟨v,h1,h2,h3⟩:=hc j c hj
  exact⟨v,h1,h2,h3.mono h⟩
theorem ORel.mono {K K':Cx} (h:K.Le K') {p:Nat × Nat × Nat} {o:AObj} (hb:K'.w.heap[p.1]? = K.w.heap[p.1]?) (hh:∀ g,Hid K.w p.1 g o→K'.w.heap[g]? = K.w.heap[g]?) (ho:ORel K p o):ORel K' p o:=by
  cases o with
  | rows sz rows=>
    obtain⟨arr,T,fz,h1,h2,h3,h4,h5⟩:=ho
    exact⟨arr,T,fz,hb.trans h1,h2,h3,h4,fun i r hr=>⟨(h5 i r hr).1,(h5 i r hr).2.mono h⟩⟩
  | loop r=>
    obtain⟨R,h1,h2,h3,h4,h5,h6,h7,h8⟩:=ho
    exact⟨R,hb.trans h1,h2,h3,h4,h5,h6,h7.mono h,h8⟩
  | map es=>
    obtain⟨ms,h1,h2,h3⟩:=ho
    refine⟨ms,hb.trans h1,h2,fun i e hi=>?_⟩
    obtain⟨v,k1,k2⟩:=h3 i e hi
    exact⟨v,k1,k2.mono h⟩
  | bld l=>
    obtain⟨h0,T,q,v,h1,h2,h3,h4,h5⟩:=ho
    exact⟨h0,T,q,v,h1,hb.trans h2,h3,ownsRowF_turn h4 (fun g hg=>hh g ⟨q,v,T,_,h2,hg⟩),h5⟩
structure HRel (K:Cx) (base:Nat) (h:AHeap):Prop where
  lt:∀ id o,h id=some o→id < K.c
  L:∀ id o,h id=some o→K.L (K.ι id).1
  bs:∀ b,K.L b→base≤b∧b < K.w.heap.size
  XL:∀ b,K.X b→b < base
  le:base≤K.w.heap.size
  inj:∀ i j o p,h i=some o→h j=some p→i≠j→(K.ι i).1≠(K.ι j).1
  obj:∀ id o,h id=some o→ORel K (K.ι id) o
  gl:∀ q,q∈glb→q.1 < base∧∃ cs T fz,K.w.heap[q.1]? = some (.cells cs T fz)∧q.2 cs
  hd:∀ i o g,h i=some o→Hid K.w (K.ι i).1 g o→K.L g∧∀ j p,h j=some p→(K.ι j).1≠g∧(j≠i→¬ Hid K.w (K.ι j).1 g p)
theorem HRel.gl_step {K K':Cx} {base:Nat} {h:AHeap} (H:HRel K base h) (S:K.Step K'):∀ q,q∈glb→q.1 < base∧∃ cs T fz,K'.w.heap[q.1]? = some (.cells cs T fz)∧q.2 cs:=fun q hq=>by
  obtain⟨h1,cs,T,fz,h2,h3⟩:=H.gl q hq
  exact⟨h1,cs,T,fz,(S.keep q.1 (Nat.lt_of_lt_of_le h1 H.le) (fun e=>absurd (H.bs _ e).1 (by omega))).1.trans h2,h3⟩
theorem AHeap.put_same (h:AHeap) (i:Nat) (o:Option AObj):(h.put i o) i=o:=by simp[AHeap.put]
theorem AHeap.put_other (h:AHeap) {i j:Nat} (e:j≠i) (o:Option AObj):(h.put i o) j=h j:=by simp[AHeap.put,e]
theorem HRel.put {K K':Cx} {base:Nat} {h:AHeap} (H:HRel K base h) (S:K.Step K') (id:Nat) (o:Option AObj)
    (hother:∀ b,K.L b→(∀ p,o=some p→b≠(K'.ι id).1)→(∀ p,h id=some p→¬ Hid K.w (K.ι id).1 b p)→K'.w.heap[b]? = K.w.heap[b]?∧K'.L b)
    (hL:∀ b,K'.L b→base≤b∧b < K'.w.heap.size)
    (hnew:∀ p,o=some p→id < K'.c∧K'.L (K'.ι id).1∧ORel K' (K'.ι id) p∧(∀ j q,j≠id→h j=some q→(K.ι j).1≠(K'.ι id).1∧¬ Hid K.w (K.ι j).1 (K'.ι id).1 q) ∧
      ∀ g,Hid K'.w (K'.ι id).1 g p→K'.L g∧(K'.ι id).1≠g∧∀ j q,j≠id→h j=some q→(K.ι j).1≠g∧¬ Hid K.w (K.ι j).1 g q) :
    HRel K' base (h.put id o):=by
  have hι:∀ j p,h j=some p→K'.ι j=K.ι j:=fun j p hj=>S.ι j (H.lt j p hj)
  have hoth:∀ j p,j≠id→h j=some p→K'.w.heap[(K.ι j).1]? = K.w.heap[(K.ι j).1]?∧K'.L (K.ι j).1:=fun j p e hj=>
    hother _ (H.L j p hj) (fun q hq=>((hnew q hq).2.2.2.1 j p e hj).1) (fun q hq hh=>((H.hd id q _ hq hh).2 j p hj).1 rfl)
  have hhid:∀ j p g,j≠id→h j=some p→Hid K.w (K.ι j).1 g p→K'.w.heap[g]? = K.w.heap[g]?∧K'.L g:=fun j p g e hj hh=>
    hother _ (H.hd j p g hj hh).1 (fun q hq e2=>((hnew q hq).2.2.2.1 j p e hj).2 (e2 ▸ hh)) (fun q hq hh2=>((H.hd id q g hq hh2).2 j p hj).2 e hh)
  refine⟨?_,?_,hL,fun b hb=>H.XL b (by rw[← S.X]; exact hb),Nat.le_trans H.le S.size,?_,?_,H.gl_step S,?_⟩
  · intro j p hj
    by_cases e:j=id
    · subst e; rw[AHeap.put_same] at hj; exact (hnew p hj).1
    · rw[AHeap.put_other h e] at hj; exact Nat.lt_of_lt_of_le (H.lt j p hj) S.c
  · intro j p hj
    by_cases e:j=id
    · subst e; rw[AHeap.put_same] at hj; exact (hnew p hj).2.1
    · rw[AHeap.put_other h e] at hj; rw[hι j p hj]; exact (hoth j p e hj).2
  · intro i j p q hi hj hij
    by_cases ei:i=id
    · subst ei
      rw[AHeap.put_same] at hi
      rw[AHeap.put_other h (Ne.symm hij)] at hj
      rw[hι j q hj]
      exact Ne.symm ((hnew p hi).2.2.2.1 j q (Ne.symm hij) hj).1
    · rw[AHeap.put_other h ei] at hi
      rw[hι i p hi]
      by_cases ej:j=id
      · subst ej
        rw[AHeap.put_same] at hj
        exact ((hnew q hj).2.2.2.1 i p ei hi).1
      · rw[AHeap.put_other h ej] at hj
        rw[hι j q hj]
        exact H.inj i j p q hi hj hij
  · intro j p hj
    by_cases e:j=id
    · subst e; rw[AHeap.put_same] at hj; exact (hnew p hj).2.2.1
    · rw[AHeap.put_other h e] at hj
      rw[hι j p hj]
      exact (H.obj j p hj).mono S.le (hoth j p e hj).1 (fun g hg=>(hhid j p g e hj hg).1)
  · intro i p g hi hg
    by_cases e:i=id
    · subst e
      rw[AHeap.put_same] at hi
      obtain⟨g1,g2,g3⟩:=(hnew p hi).2.2.2.2 g hg
      refine⟨g1,fun j q hj=>?_⟩
      by_cases ej:j=i
      · subst ej; exact⟨g2,fun x=>absurd rfl x⟩
      · rw[AHeap.put_other h ej] at hj
        rw[hι j q hj]
        exact⟨(g3 j q ej hj).1,fun _ hh=>(g3 j q ej hj).2 (hh.turn (hoth j q ej hj).1)⟩
    · rw[AHeap.put_other h e] at hi
      rw[hι i p hi] at hg
      have hg':=hg.turn (hoth i p e hi).1
      refine⟨(hhid i p g e hi hg').2,fun j q hj=>?_⟩
      by_cases ej:j=id
      · subst ej
        rw[AHeap.put_same] at hj
        refine⟨fun e2=>((hnew q hj).2.2.2.1 i p e hi).2 (e2 ▸ hg'),fun _ hh=>((hnew q hj).2.2.2.2 g hh).2.2 i p e hi |>.2 hg'⟩
      · rw[AHeap.put_other h ej] at hj
        rw[hι j q hj]
        obtain⟨k1,k2⟩:=(H.hd i p g hi hg').2 j q hj
        exact⟨k1,fun hne hh=>k2 hne (hh.turn (hoth j q ej hj).1)⟩
theorem HRel.putN {K K':Cx} {base:Nat} {h:AHeap} (H:HRel K base h) (S:K.Step K') (id:Nat) (o:Option AObj)
    (hother:∀ b,K.L b→(∀ p,o=some p→b≠(K'.ι id).1)→K'.w.heap[b]? = K.w.heap[b]?∧K'.L b)
    (hL:∀ b,K'.L b→base≤b∧b < K'.w.heap.size) (hno:∀ p,o=some p→∀ w b g,¬ Hid w b g p)
    (hnew:∀ p,o=some p→id < K'.c∧K'.L (K'.ι id).1∧ORel K' (K'.ι id) p∧(∀ j q,j≠id→h j=some q→(K.ι j).1≠(K'.ι id).1∧¬ Hid K.w (K.ι j).1 (K'.ι id).1 q)) :
    HRel K' base (h.put id o):=
  H.put S id o (fun b hb h1 _=>hother b hb h1) hL (fun p hp=>⟨(hnew p hp).1,(hnew p hp).2.1,(hnew p hp).2.2.1,(hnew p hp).2.2.2,fun g hg=>absurd hg (hno p hp _ _ _)⟩)
theorem HRel.apart {K:Cx} {base:Nat} {h:AHeap} (H:HRel K base h) {id:Nat} {q:AObj} (hid:h id=some q):∀ j r,j≠id→h j=some r→(K.ι j).1≠(K.ι id).1∧¬ Hid K.w (K.ι j).1 (K.ι id).1 r:=
  fun j r hj hr=>⟨H.inj j id r q hr hid hj,fun hh=>((H.hd j r _ hr hh).2 id q hid).1 rfl⟩
theorem hid_rows {sz:Nat} {rows:List (List AV)}:∀ w b g,¬ Hid w b g (.rows sz rows):=fun _ _ _ h=>h
theorem hid_map {es:List (Value × AV)}:∀ w b g,¬ Hid w b g (.map es):=fun _ _ _ h=>h
theorem HRel.step {K K':Cx} {base:Nat} {h:AHeap} (H:HRel K base h) (S:K.Step K') (hb:∀ b,K.L b→K'.w.heap[b]? = K.w.heap[b]?) (hL:K'.L=K.L):HRel K' base h:=by
  have hι:∀ j p,h j=some p→K'.ι j=K.ι j:=fun j p hj=>S.ι j (H.lt j p hj)
  refine⟨fun j p hj=>Nat.lt_of_lt_of_le (H.lt j p hj) S.c,fun j p hj=>by rw[hι j p hj,hL]; exact H.L j p hj,fun b hb'=>?_,fun b hb'=>H.XL b (by rw[← S.X]; exact hb'),Nat.le_trans H.le S.size,fun i j p q hi hj hij=>by rw[hι i p hi,hι j q hj]; exact H.inj i j p q hi hj hij,fun j p hj=>by rw[hι j p hj]; exact (H.obj j p hj).mono S.le (hb _ (H.L j p hj)) (fun g hg=>hb _ (H.hd j p g hj hg).1),H.gl_step S,fun i p g hi hg=>?_⟩
  case refine_2=>
    rw[hι i p hi] at hg
    obtain⟨k1,k2⟩:=H.hd i p g hi (hg.turn (hb _ (H.L i p hi)))
    rw[hL]
    refine⟨k1,fun j q hj=>?_⟩
    rw[hι j q hj]
    exact⟨(k2 j q hj).1,fun hne hh=>(k2 j q hj).2 hne (hh.turn (hb _ (H.L j q hj)))⟩
  rw[hL] at hb'
  exact⟨(H.bs b hb').1,Nat.lt_of_lt_of_le (H.bs b hb').2 S.size⟩
theorem step_same (K:Cx) (w':World) (c':Nat) (hc:K.c≤c') (h:w'.heap=K.w.heap) (ho:w'.os=K.w.os) (ht:w'.tape=K.w.tape) (hu:w'.output=K.w.output):K.Step { K with w:=w',c:=c' }:=
  ⟨hc,fun _ _=>rfl,ho,ht,hu,by simp[h],fun b _ hl=>⟨by simp[h],hl⟩,rfl,fun l hl=>by simpa[isLoop,h] using hl⟩
theorem hrel_same {K:Cx} {base:Nat} {h:AHeap} (H:HRel K base h) (w':World) (c':Nat) (hc:K.c≤c') (hw:w'.heap=K.w.heap) (ho:w'.os=K.w.os) (ht:w'.tape=K.w.tape) (hu:w'.output=K.w.output):HRel { K with w:=w',c:=c' } base h:=
  H.step (step_same K w' c' hc hw ho ht hu) (fun b _=>by simp[hw]) rfl
theorem heap_alloc_lt (w:World) (o:Obj) {b:Nat} (h:b < w.heap.size):(w.alloc o).heap[b]? = w.heap[b]?:=by
  show (w.heap.push o)[b]? = _
  rw[Array.getElem?_push,if_neg (by omega)]
theorem heap_lt_of {w:World} {b:Nat} {o:Obj} (h:w.heap[b]? = some o):b < w.heap.size:=(Array.getElem?_eq_some_iff.1 h).1
def Cx.allocFree (K:Cx) (o:Obj):Cx:={ K with w:=K.w.alloc o }
theorem step_allocFree {K:Cx} {base:Nat} {h:AHeap} (H:HRel K base h) (o:Obj):K.Step (K.allocFree o):=
  ⟨Nat.le_refl _,fun _ _=>rfl,rfl,rfl,rfl,by simp[Cx.allocFree],fun b hb hl=>⟨heap_alloc_lt _ _ hb,hl⟩,rfl,fun l ⟨R,hl⟩=>⟨R,(heap_alloc_lt _ _ (heap_lt_of hl)).trans hl⟩⟩
theorem hrel_allocFree {K:Cx} {base:Nat} {h:AHeap} (H:HRel K base h) (o:Obj):HRel (K.allocFree o) base h:=
  H.step (step_allocFree H o) (fun b hb=>heap_alloc_lt _ _ (H.bs b hb).2) rfl
def Cx.allocOwn (K:Cx) (o:Obj) (κ:Nat):Cx:=
  { w:=K.w.alloc o,ι:=fun i=>if i=K.c then (K.w.heap.size,0,κ) else K.ι i,L:=fun b=>K.L b∨b=K.w.heap.size,X:=K.X,c:=K.c + 1 }
theorem step_allocOwn (K:Cx) (o:Obj) (κ:Nat):K.Step (K.allocOwn o κ):=
  ⟨Nat.le_succ _,fun i hi=>by simp[Cx.allocOwn,Nat.ne_of_lt hi],rfl,rfl,rfl,by simp[Cx.allocOwn],fun b hb hl=>⟨heap_alloc_lt _ _ hb,fun hx=>hx.elim hl (fun e=>by omega)⟩,rfl,
   fun l ⟨R,hl⟩=>⟨R,(heap_alloc_lt _ _ (heap_lt_of hl)).trans hl⟩⟩
@[simp] theorem allocOwn_ι (K:Cx) (o:Obj) (κ:Nat):(K.allocOwn o κ).ι K.c=(K.w.heap.size,0,κ):=by simp[Cx.allocOwn]
@[simp] theorem allocOwn_w (K:Cx) (o:Obj) (κ:Nat):(K.allocOwn o κ).w=K.w.alloc o:=rfl
@[simp] theorem allocOwn_c (K:Cx) (o:Obj) (κ:Nat):(K.allocOwn o κ).c=K.c + 1:=rfl
theorem hrel_allocOwn {K:Cx} {base:Nat} {h:AHeap} (H:HRel K base h) (o:Obj) (κ:Nat) (p:AObj) (hp:ORel (K.allocOwn o κ) (K.w.heap.size,0,κ) p) (hno:∀ g,¬ Hid (K.w.alloc o) K.w.heap.size g p:=by first | exact hid_rows _ _ | exact hid_map _ _ | exact fun _ h=>h) :
    HRel (K.allocOwn o κ) base (h.put K.c (some p)):=by
  refine H.put (step_allocOwn K o κ) K.c (some p) (fun b hb _ _=>⟨heap_alloc_lt _ _ (H.bs _ hb).2,.inl hb⟩) (fun b hb=>?_) (fun q hq=>?_)
  · rcases hb with hb | rfl
    · have:=H.bs b hb
      simp; omega
    · have:=H.le
      simp; exact this
  · cases hq
    refine⟨by simp,.inr (by simp),by rw[allocOwn_ι]; exact hp,fun j q hj hq=>?_,fun g hg=>?_⟩
    · rw[allocOwn_ι]
      have:=(H.bs _ (H.L j q hq)).2
      exact⟨by simp; omega,fun hh=>by have:=(H.bs _ (H.hd j q _ hq hh).1).2; simp at this⟩
    · rw[allocOwn_ι] at hg
      exact absurd hg (hno g)
def setBlk (w:World) (b:Nat) (o:Obj):World:={ w with heap:=w.heap.setIfInBounds b o }
theorem setBlk_same {w:World} {b:Nat} {o p:Obj} (h:w.heap[b]? = some p):(setBlk w b o).heap[b]? = some o:=by
  have:=heap_lt_of h
  simp[setBlk,this]
theorem setBlk_other {w:World} {b k:Nat} {o:Obj} (h:k≠b):(setBlk w b o).heap[k]? = w.heap[k]?:=by
  simp[setBlk,Array.getElem?_setIfInBounds_ne (Ne.symm h)]
@[simp] theorem setBlk_size {w:World} {b:Nat} {o:Obj}:(setBlk w b o).heap.size=w.heap.size:=by simp[setBlk]
def Cx.setB (K:Cx) (b:Nat) (o:Obj):Cx:={ K with w:=setBlk K.w b o }
theorem step_setB {K:Cx} {b:Nat} {o p:Obj} (hL:K.L b) (hb:K.w.heap[b]? = some p) (hl:∀ R,p = .loop R→∃ R',o = .loop R'):K.Step (K.setB b o):=
  ⟨Nat.le_refl _,fun _ _=>rfl,rfl,rfl,rfl,by simp[Cx.setB],fun k _ hk=>⟨setBlk_other (fun e=>hk (e ▸ hL)),hk⟩,rfl,fun l ⟨R,h⟩=>by
    by_cases e:l=b
    · subst e
      rw[hb] at h
      obtain⟨R',e'⟩:=hl R (by injection h)
      exact⟨R',by rw[← e']; exact setBlk_same hb⟩
    · exact⟨R,(setBlk_other e).trans h⟩⟩
theorem hrel_setB {K:Cx} {base:Nat} {h:AHeap} (H:HRel K base h) {id:Nat} {q:AObj} (hid:h id=some q) {o p:Obj} (hb:K.w.heap[(K.ι id).1]? = some p) (hl:∀ R,p = .loop R→∃ R',o = .loop R')
    (q':AObj) (hq:ORel (K.setB (K.ι id).1 o) (K.ι id) q') (hno:∀ w b g,¬ Hid w b g q':=by first | exact hid_rows | exact hid_map | exact fun _ _ _ h=>h):HRel (K.setB (K.ι id).1 o) base (h.put id (some q')):=by
  refine H.putN (step_setB (H.L id q hid) hb hl) id (some q') (fun b hb2 hne=>⟨setBlk_other (hne q' rfl),hb2⟩) (fun b hb'=>?_) (fun r hr=>by cases hr; exact hno) (fun r hr=>?_)
  · have:=H.bs b hb'
    simpa[Cx.setB] using this
  · cases hr
    exact⟨H.lt id q hid,H.L id q hid,hq,H.apart hid⟩
theorem HRel.drop {K:Cx} {base:Nat} {h:AHeap} (H:HRel K base h) (id:Nat):HRel K base (h.put id none):=
  H.put (Cx.Step.refl K) id none (fun b hb _ _=>⟨rfl,hb⟩) H.bs (fun _ e=>by cases e)
theorem frz_le (K:Cx):K.frz.Le K:=⟨Nat.zero_le _,fun _ h=>absurd h (Nat.not_lt_zero _),fun _ _ _ h k=>⟨h,k⟩,fun _ _ _ h k=>⟨h,k⟩⟩
def Lies (K:Cx) (b o:Nat) (row:List AV):Prop:=∀ (j:Nat) (c:AV),row[j]? = some c→∃ v,K.w.cell? ⟨b,o + j,none⟩=some v∧v.oneCell' = true∧VRel K c v
theorem CRel.lies {K:Cx}:∀ {row:List AV} {b o:Nat},CRel K.frz b o row→Lies K b o row
  | [],_,_,_=>fun j c hj=>by simp at hj
  | c :: cs,b,o,h=>by
    simp only[CRel] at h
    obtain⟨⟨v,_,hc,h1,hv⟩,hs⟩:=h
    intro j d hj
    cases j with
    | zero=>
      simp at hj
      subst hj
      exact⟨v,hc,h1,hv.mono (frz_le K)⟩
    | succ j=>
      simp at hj
      obtain⟨u,h2,h3,h4⟩:=CRel.lies hs j d hj
      exact⟨u,by rw[show o + (j + 1)=o + 1 + j by omega]; exact h2,h3,h4⟩
theorem RRel.row {K:Cx}:∀ {rows:List (List AV)} {b o sz:Nat},RRel K b o sz rows→∀ {i:Nat} {r:List AV},rows[i]? = some r→r.length=sz∧CRel K b (o + i * sz) r
  | [],_,_,_,_,i,r,hi=>by simp at hi
  | q :: qs,b,o,sz,h,i,r,hi=>by
    simp only[RRel] at h
    cases i with
    | zero=>
      simp at hi
      subst hi
      exact⟨h.1,by simpa using h.2.1⟩
    | succ i=>
      simp at hi
      obtain⟨h1,h2⟩:=RRel.row h.2.2 hi
      refine⟨h1,?_⟩
      rw[show o + (i + 1) * sz=o + sz + i * sz by rw[Nat.succ_mul]; omega]
      exact h2
theorem rowAt_lies {K:Cx} {base:Nat} {h:AHeap} (H:HRel K base h) {id i sz:Nat} {row:List AV} (hr:rowAt h id i sz=some row) :
    Lies K (K.ι id).1 (((K.ι id).2.1 + i) * sz) row:=by
  unfold rowAt at hr
  split at hr
  · rename_i sz' rows ho
    split at hr
    · rename_i e
      subst e
      obtain⟨arr,T,fz,h1,h2,h3,h4,h5⟩:=H.obj id _ ho
      intro j c hj
      obtain⟨v,hv,ho,hrel⟩:=(h5 i row hr).2 j c hj
      refine⟨v,?_,ho,hrel⟩
      simp only[World.cell?,h1]
      simpa using hv
    · cases hr
  · cases hr
theorem Lies.drop {K:Cx} {b o:Nat} {row:List AV} (h:Lies K b o row) (n:Nat):Lies K b (o + n) (row.drop n):=fun j c hj=>by
  rw[List.getElem?_drop] at hj
  obtain⟨v,h1,h2⟩:=h (n + j) c hj
  exact⟨v,by rw[Nat.add_assoc]; exact h1,h2⟩
theorem Lies.take {K:Cx} {b o:Nat} {row:List AV} (h:Lies K b o row) (n:Nat):Lies K b o (row.take n):=fun j c hj=>by
  by_cases hjn:j < n
  · rw[List.getElem?_take_of_lt hjn] at hj
    exact h j c hj
  · rw[List.getElem?_take,if_neg hjn] at hj
    cases hj
theorem Lies.vals {K:Cx} {b:Nat}:∀ {row:List AV} {o:Nat},Lies K b o row→∃ vs:List Value,VRels K row vs∧(∀ j v,vs[j]? = some v→K.w.cell? ⟨b,o + j,none⟩=some v)∧∀ v∈vs,v.oneCell' = true
  | [],_,_=>⟨[],by simp[VRels],fun j v hj=>by simp at hj,fun v hv=>by simp at hv⟩
  | c :: cs,o,h=>by
    obtain⟨v,h1,h2,h3⟩:=h 0 c rfl
    have ht:Lies K b (o + 1) cs:=fun j d hj=>by
      obtain⟨u,g1,g2⟩:=h (j + 1) d (by simpa using hj)
      exact⟨u,by rw[show o + 1 + j=o + (j + 1) by omega]; exact g1,g2⟩
    obtain⟨vs,k1,k2,k3⟩:=Lies.vals ht
    refine⟨v :: vs,by simp only[VRels]; exact⟨h3,k1⟩,fun j u hj=>?_,fun u hu=>?_⟩
    · cases j with
      | zero=>simp at hj; subst hj; exact h1
      | succ j=>simp at hj; rw[show o + (j + 1)=o + 1 + j by omega]; exact k2 j u hj
    · rcases List.mem_cons.1 hu with rfl | hu
      · exact h2
      · exact k3 u hu
end Go.Vm
/- The abstract evaluator: operations, one by one: reading and reckoning. -/
namespace Go.Vm
open Go
theorem opnd_rel {K:Cx} {t:List AV} {a:Act} (ht:VRels K t a.tmps.toList) {x:Operand} {v:AV} (h:opnd t x=some v):VRel K v (a.eval x):=by
  cases x with
  | tmp i=>
    simp only[opnd] at h
    obtain⟨u,hu,hv⟩:=ht.get h
    simp only[Act.eval]
    have:a.tmps[i]? = some u:=by simpa using hu
    rw[Array.getD_eq_getD_getElem?,this]
    exact hv
  | const c=>
    simp only[opnd,Option.some.injEq] at h
    subst h
    exact ofVal_rel K c
  | global g=>
    simp only[opnd,Option.some.injEq] at h
    subst h
    simp[VRel,Act.eval]
  | func f=>
    simp only[opnd,Option.some.injEq] at h
    subst h
    simp only[VRel,Act.eval]
    exact⟨#[],rfl,by simp[VRels]⟩
theorem opnds_rel {K:Cx} {t:List AV} {a:Act} (ht:VRels K t a.tmps.toList):∀ {xs:List Operand} {vs:List AV},opnds t xs=some vs→VRels K vs (xs.map a.eval)
  | [],vs,h=>by
    simp only[opnds,Option.some.injEq] at h
    subst h
    simp[VRels]
  | x :: xs,vs,h=>by
    simp only[opnds] at h
    split at h
    · rename_i v us h1 h2
      cases h
      simp only[List.map_cons,VRels]
      exact⟨opnd_rel ht h1,opnds_rel ht h2⟩
    · cases h
theorem plain_eq {K:Cx} {t:List AV} {a:Act} (ht:VRels K t a.tmps.toList) {x:Operand} (h:isPlain t x=true):plainNd t x=a.eval x:=by
  unfold isPlain at h
  unfold plainNd
  cases e:opnd t x with
  | none=>rw[e] at h; cases h
  | some v=>
    rw[e] at h
    simp only[Option.bind_some] at h ⊢
    cases e2:toVal v with
    | none=>rw[e2] at h; cases h
    | some u=>
      rw[Option.getD_some]
      exact (toVal_rel e2 (opnd_rel ht e)).symm
def Good (K:Cx) (base:Nat) (h':AHeap) (c':Nat) (v:AV) (res:Result Next):Prop:=
  ∃ (K':Cx) (x:Value),(res = .ok (.value x) K'.w∨(res = .ok .skip K'.w∧x=undef))∧K.Step K'∧HRel K' base h'∧K'.c=c'∧VRel K' v x
theorem good_pure {K:Cx} {base:Nat} {h:AHeap} (H:HRel K base h) {v:AV} {x:Value} {res:Result Next} (hr:res = .ok (.value x) K.w) (hv:VRel K v x):Good K base h K.c v res:=
  ⟨K,x,.inl hr,Cx.Step.refl K,H,rfl,hv⟩
theorem good_succ {K:Cx} {base:Nat} {h:AHeap} (H:HRel K base h) {v:AV} {x:Value} {res:Result Next} (hr:res = .ok (.value x) K.w) (hv:VRel K v x):Good K base h (K.c + 1) v res:=
  have S:=step_same K K.w (K.c + 1) (Nat.le_succ _) rfl rfl rfl rfl
  ⟨{ K with c:=K.c + 1 },x,.inl hr,S,hrel_same H K.w (K.c + 1) (Nat.le_succ _) rfl rfl rfl rfl,rfl,hv.mono S.le⟩
theorem run_v {P:Program} {w w':World} {s:Sem Value} {x:Value} (h:s.run P w = .ok x w'):(do pure (Next.value (← s)):Sem Next).run P w = .ok (.value x) w':=by
  rw[Sem.run_bind,h]; rfl
theorem run_asInt {P:Program} {w:World} {K:Cx} {v:AV} {x:Value} {n:Int} (h:asInt? v=some n) (hr:VRel K v x):∃ k,x = .int k n:=by
  unfold asInt? at h
  split at h
  · rename_i k m
    cases h
    simp only[VRel] at hr
    exact⟨k,hr⟩
  · cases h
theorem asBool_rel {K:Cx} {v:AV} {x:Value} {b:Bool} (h:asBool? v=some b) (hr:VRel K v x):x = .bool b:=by
  unfold asBool? at h
  split at h
  · cases h
    simpa only [VRel] using hr
  · cases h
section
variable {P:Program} {K:Cx} {base:Nat} {h:AHeap} {t:List AV} {a:Act}
theorem good_move (H:HRel K base h) (ht:VRels K t a.tmps.toList) {o:Oper} {x:Operand} (ho:o.op = .move x∨o.op = .assign x) {v:AV} (hx:opnd t x=some v) :
    Good K base h K.c v ((execOp a.eval o).run P K.w):=
  good_pure H (by rcases ho with e | e <;> simp[execOp,e]) (opnd_rel ht hx)
theorem good_pick (H:HRel K base h) (ht:VRels K t a.tmps.toList) {o:Oper} {c x y:Operand} (ho:o.op = .pick c x y) {b:Bool} (hc:(opnd t c).bind asBool? = some b) {v:AV} (hx:opnd t (if b then x else y)=some v) :
    Good K base h K.c v ((execOp a.eval o).run P K.w):=by
  obtain⟨u,h1,h2⟩:=Option.bind_eq_some_iff.1 hc
  have hb:=asBool_rel h2 (opnd_rel ht h1)
  refine good_pure H (x:=a.eval (if b then x else y)) ?_ (opnd_rel ht hx)
  simp only[execOp,ho,hb,asBool,Sem.run_bind,Sem.run_pure,Result.andThen_ok]
  cases b <;> rfl
theorem run_isAgg {g:Bool} {t:TypeId} (hg:isAggT P t=some g) (w:World):(isAgg t).run P w = .ok g w:=by
  unfold isAggT at hg
  unfold isAgg
  cases e:P.underlying t with
  | none=>rw[e] at hg; cases hg
  | some d=>
    rw[e] at hg
    rw[Sem.run_bind,run_underlying e]
    cases d <;> (simp only[Option.some.injEq] at hg; subst hg; rfl)
theorem run_sizeT {n:Nat} {t:TypeId} (hn:sizeT P t=some n) (w:World):(sizeOf t).run P w = .ok n w:=by
  unfold sizeT at hn
  obtain⟨i,hi,rfl⟩:=Option.map_eq_some_iff.1 hn
  simp[sizeOf,typeInfo,hi]
theorem lies_loadVar {b o off:Nat} {row:List AV} (hl:Lies K b o row) {ty:TypeId} {v:AV} (hp:partOf P ty row off=some v) :
    ∃ x,(loadVar ty ⟨b,o + off,none⟩).run P K.w = .ok x K.w∧VRel K v x:=by
  unfold partOf at hp
  simp only[Option.bind_eq_bind,Option.bind_eq_some_iff] at hp
  obtain⟨g,hg,n,hn,hp⟩:=hp
  unfold loadVar
  rw[Sem.run_bind,run_isAgg hg,Result.andThen_ok]
  cases g with
  | true=>
    simp only[if_true] at hp ⊢
    split at hp
    · cases hp
      obtain⟨vs,h1,h2,h3⟩:=((hl.drop off).take n).vals
      have:=run_loadCells_list (P:=P) (w:=K.w) (a:=⟨b,o + off,none⟩) vs (fun j u hj=>by
        rw[Addr.add_lit]
        exact h2 j u hj)
      have hlen:vs.length=n:=by
        rename_i hle
        rw[← h1.length,List.length_take,List.length_drop]; omega
      rw[hlen] at this
      refine⟨.agg vs.toArray,?_,?_⟩
      · rw[Sem.run_bind,run_sizeT hn,Result.andThen_ok,Sem.run_bind,this]
        rfl
      · simp only[VRel]
        exact⟨_,rfl,by simpa using h1⟩
    · cases hp
  | false=>
    simp only[if_false,Bool.false_eq_true] at hp ⊢
    obtain⟨x,h1,h2,h3⟩:=hl off v hp
    exact⟨x,by rw[run_load,h1],h3⟩
theorem loadOf_rel (H:HRel K base h) {ty:TypeId} {p v:AV} {x:Value} (hl:loadOf P h ty p=some v) (hp:VRel K p x) :
    ∃ y,(Instr.loadAt ty x).run P K.w = .ok y K.w∧VRel K v y:=by
  unfold loadOf at hl
  split at hl
  · split at hl
    · rename_i id i sz off row hrow
      simp only[VRel] at hp
      obtain⟨hlt,rfl⟩:=hp
      obtain⟨y,h1,h2⟩:=lies_loadVar (rowAt_lies H hrow) hl
      exact⟨y,by simp only[Instr.loadAt,Instr.sureAddr,Sem.run_bind,Sem.run_pure,Result.andThen_ok]; exact h1,h2⟩
    · cases hl
  · rename_i row off
    simp only[VRel] at hp
    obtain⟨b,o,rfl,hc⟩:=hp
    obtain⟨y,h1,h2⟩:=lies_loadVar hc.lies hl
    exact⟨y,by simp only[Instr.loadAt,Instr.sureAddr,Sem.run_bind,Sem.run_pure,Result.andThen_ok]; exact h1,h2⟩
  · cases hl
theorem good_load (H:HRel K base h) (ht:VRels K t a.tmps.toList) {o:Oper} {ty:TypeId} {x:Operand} (ho:o.op = .load ty x) {p v:AV} (hx:opnd t x=some p) (hl:loadOf P h ty p=some v) :
    Good K base h K.c v ((execOp a.eval o).run P K.w):=by
  obtain⟨y,h1,h2⟩:=loadOf_rel H hl (opnd_rel ht hx)
  exact good_pure H (by simp only[execOp,ho]; exact run_v h1) h2
theorem good_nilCheck (H:HRel K base h) (ht:VRels K t a.tmps.toList) {o:Oper} {x:Operand} (ho:o.op = .nilCheck x) {v:AV} (hx:opnd t x=some v) (hv:(∃ id i sz off,v = .ptr id i sz off)∨∃ r off,v = .fptr r off) :
    Good K base h K.c v ((execOp a.eval o).run P K.w):=by
  have hr:=opnd_rel ht hx
  refine good_pure H (x:=a.eval x) ?_ hr
  rcases hv with ⟨id,i,sz,off,rfl⟩ | ⟨r,off,rfl⟩
  · simp only[VRel] at hr
    simp only[execOp,ho,hr.2,Sem.run_pure]
  · simp only[VRel] at hr
    obtain⟨b,p,e,_⟩:=hr
    simp only[execOp,ho,e,Sem.run_pure]
theorem good_plain (H:HRel K base h) {o:Oper} {v:AV} {ρ:Operand→Value} (he:execOp ρ o=execOp a.eval o) (hp:pureOp P ρ o=some v) :
    Good K base h K.c v ((execOp a.eval o).run P K.w):=by
  unfold pureOp at hp
  split at hp
  · rename_i x hx
    cases hp
    rw[← he]
    exact good_pure H (pureRun_run hx K.w) (ofVal_rel K x)
  · cases hp
theorem binV_run {op:BinOp} {x y v:Value} (hv:binV op x y=some v) (xt:TypeId) (p q:Operand) (w:World) :
    (do eqGuard op xt p q x y; binOp op xt x y:Sem Value).run P w = .ok v w:=by
  unfold binV at hv
  split at hv
  case h_10 a b=>
    split at hv
    · cases hv
      simp only[Sem.run_bind,eqGuard_add,Sem.run_pure,Result.andThen_ok,binOp]
      exact run_string_add_sum w a b (by assumption)
    · cases hv
  all_goals first
    | (split at hv
       · rename_i e
         subst e
         cases hv
         simp[eqGuard_at_int,binOp,Op.intArith,Op.intCmp]
       · cases hv)
    | (cases hv; simp[eqGuard_at_string,binOp,Op.stringOp]; done)
    | cases hv
theorem good_bin (H:HRel K base h) (ht:VRels K t a.tmps.toList) {o:Oper} {op:BinOp} {xt yt:TypeId} {x y:Operand} (ho:o.op = .binOp op xt x y yt) (hx:isPlain t x=true) (hy:isPlain t y=true) {v:AV}
    (hv:(match binV op (plainNd t x) (plainNd t y) with | some v=>some (.s v,([]:Ups)) | none=>(pureOp P (plainNd t) o).map (·,[]))=some (v,[])) :
    Good K base h K.c v ((execOp a.eval o).run P K.w):=by
  have ex:=plain_eq ht hx
  have ey:=plain_eq ht hy
  split at hv
  · rename_i u hu
    cases hv
    refine good_pure H (x:=u) ?_ (by simp[VRel])
    simp only[execOp,ho]
    rw[← ex,← ey]
    exact run_v (binV_run hu xt x y K.w)
  · obtain⟨u,hu,e⟩:=Option.map_eq_some_iff.1 hv
    cases e
    exact good_plain H (by simp only[execOp,ho,ex,ey]) hu
theorem good_nil (H:HRel K base h) (ht:VRels K t a.tmps.toList) {o:Oper} {op:BinOp} {xt yt:TypeId} {x y:Operand} (ho:o.op = .binOp op xt x y yt) {b:Bool} (hn:nilT P op xt y (opnd t x)=some b) :
    Good K base h K.c (.s (.bool b)) ((execOp a.eval o).run P K.w):=by
  have hsome:∀ v,opnd t x=some v→(∃ id off len sz,v = .osl id off len sz)∨(∃ sz rows,v = .fsl sz rows)∨v = .esl→∃ q n c,a.eval x = .slice (some q) n c:=fun v hv hc=>by
    have hr:=opnd_rel ht hv
    rcases hc with ⟨id,off,len,sz,rfl⟩ | ⟨sz,rows,rfl⟩ | rfl
    · simp only[VRel] at hr
      obtain⟨_,q,c,e,_⟩:=hr
      exact⟨q,_,c,e⟩
    · simp only[VRel] at hr
      obtain⟨A,c,e,hA,_⟩:=hr
      cases A with
      | none=>exact absurd rfl hA
      | some q=>exact⟨q,_,c,e⟩
    · simp only[VRel] at hr
      obtain⟨A,e,hA⟩:=hr
      cases A with
      | none=>exact absurd rfl hA
      | some q=>exact⟨q,_,_,e⟩
  have fin:∀ v,opnd t x=some v→(∃ id off len sz,v = .osl id off len sz)∨(∃ sz rows,v = .fsl sz rows)∨v = .esl→Good K base h K.c (.s (.bool b)) ((execOp a.eval o).run P K.w):=fun v hv hc=>by
    obtain⟨q,n,c,e⟩:=hsome v hv hc
    have hb:nilL P op xt y=some b:=by
      unfold nilT at hn
      rw[hv] at hn
      rcases hc with ⟨id,off,len,sz,rfl⟩ | ⟨sz,rows,rfl⟩ | rfl <;> exact hn
    unfold nilL at hb
    refine good_pure H (x:=.bool b) ?_ (by simp[VRel])
    simp only[execOp,ho,e]
    split at hb
    · rename_i el hu
      cases hb
      exact run_v (by simp[Act.eval,eqGuard,Lib.run_eql_slice_nil _ _ _ _ _ _ _ _ hu])
    · rename_i el hu
      cases hb
      exact run_v (by simp[Act.eval,eqGuard,Go.binOp,Op.equal,Op.maxDepth,Lib.run_equalIn_slice_nil _ 9999 _ _ _ _ _ _ _ hu])
    · cases hb
  unfold nilT at hn
  split at hn
  · rename_i hv; exact fin _ hv (.inl ⟨_,_,_,_,rfl⟩)
  · rename_i hv; exact fin _ hv (.inr (.inl ⟨_,_,rfl⟩))
  · rename_i hv; exact fin _ hv (.inr (.inr rfl))
  · cases hn
theorem good_un (H:HRel K base h) (ht:VRels K t a.tmps.toList) {o:Oper} {op:UnOp} {xt:TypeId} {x:Operand} (ho:o.op = .unOp op xt x) (hx:isPlain t x=true) {v:AV} (hv:pureOp P (plainNd t) o=some v) :
    Good K base h K.c v ((execOp a.eval o).run P K.w):=
  good_plain H (by simp only[execOp,ho,plain_eq ht hx]) hv
theorem good_convPlain (H:HRel K base h) (ht:VRels K t a.tmps.toList) {o:Oper} {src dst:TypeId} {x:Operand} (ho:o.op = .convert src dst x) (hx:isPlain t x=true) {v:AV} (hv:pureOp P (plainNd t) o=some v) :
    Good K base h (K.c + 1) v ((execOp a.eval o).run P K.w):=by
  have he:execOp (plainNd t) o=execOp a.eval o:=by simp only[execOp,ho,plain_eq ht hx]
  unfold pureOp at hv
  split at hv
  · rename_i y hy
    cases hv
    rw[← he]
    exact good_succ H (pureRun_run hy K.w) (ofVal_rel K y)
  · cases hv
theorem map_plain (ht:VRels K t a.tmps.toList):∀ (xs:List Operand),xs.all (isPlain t)=true→xs.map (plainNd t)=xs.map a.eval
  | [],_=>rfl
  | x :: xs,h=>by
    simp only[List.all_cons,Bool.and_eq_true] at h
    simp only[List.map_cons,plain_eq ht h.1,map_plain ht xs h.2]
theorem good_callPlain (H:HRel K base h) (ht:VRels K t a.tmps.toList) {o:Oper} {b:Builtin} {args:Array Operand} {ats:Array TypeId} (ho:o.op = .call { callee:=.builtin b,args:=args,argTypes:=ats })
    (hx:args.all (isPlain t)=true) {v:AV} (hv:pureOp P (plainNd t) o=some v) :
    Good K base h K.c v ((execOp a.eval o).run P K.w):=by
  have he:args.map (plainNd t)=args.map a.eval:=by
    apply Array.ext'
    rw[Array.toList_map,Array.toList_map]
    exact map_plain ht args.toList (by rw[← hx]; simp)
  exact good_plain H (by simp only[execOp,ho,resolve,he]) hv
end
end Go.Vm
/- The abstract evaluator: operations, one by one: addresses, slices, parts. -/
namespace Go.Vm
open Go
section
variable {P:Program} {K:Cx} {base:Nat} {h:AHeap} {t:List AV} {a:Act}
theorem elemT_eq {ty e:TypeId} (h:elemT P ty=some e):P.underlying ty=some (.slice e):=by
  unfold elemT at h
  split at h
  · cases h; assumption
  · cases h
theorem addr_add (b o n:Nat):(⟨b,o,none⟩:Addr).add n=⟨b,o + n,none⟩:=Addr.add_lit b o n
theorem fieldAddrOf_rel {xt:TypeId} {x:AV} {f:Nat} {v:AV} (hv:fieldAddrOf P xt x f=some v) {y:Value} (hx:VRel K x y) :
    ∃ z,(Instr.fieldAt xt y f).run P K.w = .ok z K.w∧VRel K v z:=by
  unfold fieldAddrOf at hv
  split at hv
  · rename_i fields hu
    split at hv
    · rename_i fd hf
      split at hv
      · rename_i n hn
        have hplace:∀ b o,(fieldPlace ⟨b,o,none⟩ fd).run P K.w = .ok ⟨b,o + fd.offset,none⟩ K.w:=fun b o=>by
          simp only[fieldPlace,Sem.run_bind,run_sizeT hn,Result.andThen_ok,Nat.add_one_ne_zero,if_false,Sem.run_pure,addr_add]
        split at hv
        · cases hv
          simp only[VRel] at hx ⊢
          obtain⟨hlt,rfl⟩:=hx
          refine⟨_,?_,hlt,rfl⟩
          simp only[Instr.fieldAt,Sem.run_bind,run_underlying hu,Result.andThen_ok,hf,Instr.sureAddr,Sem.run_pure,hplace]
          rw[Nat.add_assoc]
        · cases hv
          simp only[VRel] at hx ⊢
          obtain⟨b,o,rfl,hc⟩:=hx
          refine⟨_,?_,b,o,rfl,hc⟩
          simp only[Instr.fieldAt,Sem.run_bind,run_underlying hu,Result.andThen_ok,hf,Instr.sureAddr,Sem.run_pure,hplace]
          rw[Nat.add_assoc]
        · cases hv
      · cases hv
    · cases hv
  · cases hv
theorem good_fieldAddr (H:HRel K base h) (ht:VRels K t a.tmps.toList) {o:Oper} {xt:TypeId} {x:Operand} {f:Nat} (ho:o.op = .fieldAddr xt x f) {u v:AV} (hx:opnd t x=some u) (hv:fieldAddrOf P xt u f=some v) :
    Good K base h K.c v ((execOp a.eval o).run P K.w):=by
  obtain⟨z,h1,h2⟩:=fieldAddrOf_rel hv (opnd_rel ht hx)
  exact good_pure H (by simp only[execOp,ho]; exact run_v h1) h2
theorem partOf_rel {ty:TypeId} {cs:List AV} {off:Nat} {v:AV} (hp:partOf P ty cs off=some v) {vs:Array Value} (hc:VRels K cs vs.toList) :
    ∃ z,(part ty vs off).run P K.w = .ok z K.w∧VRel K v z:=by
  unfold partOf at hp
  simp only[Option.bind_eq_bind,Option.bind_eq_some_iff] at hp
  obtain⟨g,hg,n,hn,hp⟩:=hp
  unfold part
  rw[Sem.run_bind,run_isAgg hg,Result.andThen_ok]
  cases g with
  | true=>
    simp only[if_true] at hp ⊢
    split at hp
    · cases hp
      refine⟨.agg (vs.extract off (off + n)),?_,?_⟩
      · rw[Sem.run_bind,run_sizeT hn]; rfl
      · simp only[VRel]
        refine⟨_,rfl,?_⟩
        rw[Array.toList_extract,List.extract_eq_take_drop]
        rw[show off + n - off=n by omega]
        exact (hc.drop off).take n
    · cases hp
  | false=>
    simp only[if_false,Bool.false_eq_true] at hp ⊢
    obtain⟨u,h1,h2⟩:=hc.get hp
    have:vs[off]? = some u:=by simpa using h1
    exact⟨u,by rw[this]; rfl,h2⟩
theorem good_field (H:HRel K base h) (ht:VRels K t a.tmps.toList) {o:Oper} {xt:TypeId} {x:Operand} {f:Nat} (ho:o.op = .field xt x f) {cs:List AV} (hx:opnd t x=some (.agg cs)) {fields:Array Field} (hu:P.underlying xt=some (.struct fields))
    {fd:Field} (hf:fields[f]? = some fd) {v:AV} (hv:partOf P fd.type cs fd.offset=some v) :
    Good K base h K.c v ((execOp a.eval o).run P K.w):=by
  have hr:=opnd_rel ht hx
  simp only[VRel] at hr
  obtain⟨vs,e,hs⟩:=hr
  obtain⟨z,h1,h2⟩:=partOf_rel hv hs
  refine good_pure H (x:=z) ?_ h2
  simp only[execOp,ho]
  apply run_v
  simp only[Instr.field,Sem.run_bind,run_underlying hu,Result.andThen_ok,hf,e,asAgg,Sem.run_pure,h1]
theorem good_extract (H:HRel K base h) (ht:VRels K t a.tmps.toList) {o:Oper} {x:Operand} {i:Nat} (ho:o.op = .extract x i) {cs:List AV} (hx:opnd t x=some (.tup cs)) {v:AV} (hv:cs[i]? = some v) :
    Good K base h K.c v ((execOp a.eval o).run P K.w):=by
  have hr:=opnd_rel ht hx
  simp only[VRel] at hr
  obtain⟨vs,e,hs⟩:=hr
  obtain⟨u,h1,h2⟩:=hs.get hv
  have h3:vs[i]? = some u:=by simpa using h1
  refine good_pure H (x:=u) ?_ h2
  simp only[execOp,ho]
  apply run_v
  simp only[Instr.extract,e,h3,Sem.run_pure]
theorem good_indexAddr (H:HRel K base h) (ht:VRels K t a.tmps.toList) {o:Oper} {xt:TypeId} {x y:Operand} (ho:o.op = .indexAddr xt x y) {u v:AV} {i:Int} (hx:opnd t x=some u) (hy:(opnd t y).bind asInt? = some i)
    (hv:indexAddrOf P xt u i=some v):Good K base h K.c v ((execOp a.eval o).run P K.w):=by
  obtain⟨q,q1,q2⟩:=Option.bind_eq_some_iff.1 hy
  obtain⟨k,hk⟩:=run_asInt (P:=P) (w:=K.w) q2 (opnd_rel ht q1)
  have hr:=opnd_rel ht hx
  have key:∃ z,(Instr.indexAt xt (a.eval x) (a.eval y)).run P K.w = .ok z K.w∧VRel K v z:=by
    rw[hk]
    unfold indexAddrOf at hv
    split at hv
    · rename_i e id off len sz hu
      split at hv
      · rename_i hc
        cases hv
        simp only[VRel] at hr ⊢
        obtain⟨hlt,A,cap,e1,h2,h3,h4⟩:=hr
        rw[e1]
        have h5:A=⟨(K.ι id).1,((K.ι id).2.1 + off) * sz,none⟩:=by
          rcases h4 with h4 | h4
          · omega
          · exact h4
        refine⟨.pointer (some ⟨(K.ι id).1,((K.ι id).2.1 + (off + i.toNat)) * sz + 0,none⟩),?_,hlt,rfl⟩
        have h1:(0≤i∧i < (len:Int)):=⟨hc.1,hc.2.1⟩
        simp only[Instr.indexAt,asIntOf,Sem.run_bind,Sem.run_pure,Result.andThen_ok,run_underlying hu,Bool.and_false,h1,and_self,if_true,run_sizeT hc.2.2,h5,addr_add]
        rw[Nat.add_zero,← Nat.add_mul,Nat.add_assoc]
      · cases hv
    · rename_i e sz rows hu
      split at hv
      · rename_i hc
        obtain⟨r,hr',rfl⟩:=Option.map_eq_some_iff.1 hv
        simp only[VRel] at hr ⊢
        obtain⟨A,cap,e1,_,_,h2⟩:=hr
        rw[e1]
        have hlen:i.toNat < rows.length:=(List.getElem?_eq_some_iff.1 hr').1
        rcases h2 with rfl | ⟨b,p,rfl,h2⟩
        · simp at hlen
        · obtain⟨h3,h4⟩:=h2.row hr'
          refine⟨.pointer (some ⟨b,p + i.toNat * sz + 0,none⟩),?_,b,p + i.toNat * sz,rfl,h4⟩
          have h1:(0≤i∧i < (rows.length:Int)):=⟨hc.1,by omega⟩
          simp only[Instr.indexAt,asIntOf,Sem.run_bind,Sem.run_pure,Result.andThen_ok,run_underlying hu,Bool.and_false,h1,and_self,if_true,run_sizeT hc.2,addr_add]
          rfl
      · cases hv
    · rename_i n e id j sz off hu
      split at hv
      · rename_i z hz
        split at hv
        · rename_i hc
          cases hv
          simp only[VRel] at hr ⊢
          obtain⟨hlt,e1⟩:=hr
          rw[e1]
          refine⟨.pointer (some ⟨(K.ι id).1,((K.ι id).2.1 + j) * sz + (off + i.toNat * z),none⟩),?_,hlt,rfl⟩
          simp only[Instr.indexAt,asIntOf,Instr.sureAddr,Sem.run_bind,Sem.run_pure,Result.andThen_ok,run_underlying hu,hc,and_self,if_true,run_sizeT hz,addr_add]
          rw[Nat.add_assoc]
        · cases hv
      · cases hv
    · rename_i n e r off hu
      split at hv
      · rename_i z hz
        split at hv
        · rename_i hc
          cases hv
          simp only[VRel] at hr ⊢
          obtain⟨b,p,e1,h2⟩:=hr
          rw[e1]
          refine⟨.pointer (some ⟨b,p + (off + i.toNat * z),none⟩),?_,b,p,rfl,h2⟩
          simp only[Instr.indexAt,asIntOf,Instr.sureAddr,Sem.run_bind,Sem.run_pure,Result.andThen_ok,run_underlying hu,hc,and_self,if_true,run_sizeT hz,addr_add]
          rw[Nat.add_assoc]
        · cases hv
      · cases hv
    · cases hv
  obtain⟨z,h1,h2⟩:=key
  exact good_pure H (by simp only[execOp,ho]; exact run_v h1) h2
theorem good_index_str (H:HRel K base h) (ht:VRels K t a.tmps.toList) {o:Oper} {xt:TypeId} {x y:Operand} (ho:o.op = .index xt x y) {b:ByteArray} {j:Int} (hx:opnd t x=some (.s (.string b))) (hy:(opnd t y).bind asInt? = some j)
    (hu:P.underlying xt=some .string) (hj:0≤j∧j.toNat < b.size):Good K base h K.c (.s (.int .u8 (b[j.toNat]'hj.2).toNat)) ((execOp a.eval o).run P K.w):=by
  obtain⟨q,q1,q2⟩:=Option.bind_eq_some_iff.1 hy
  obtain⟨k,hk⟩:=run_asInt (P:=P) (w:=K.w) q2 (opnd_rel ht q1)
  have hr:=opnd_rel ht hx
  simp only[VRel] at hr
  refine good_pure H (x:=.int .u8 (b[j.toNat]'hj.2).toNat) ?_ (by simp[VRel])
  simp only[execOp,ho]
  apply run_v
  have hb:b[j.toNat]? = some (b[j.toNat]'hj.2):=by simp[hj.2]
  simp only[Instr.index,hk,hr,asIntOf,Sem.run_bind,Sem.run_pure,Result.andThen_ok,run_underlying hu,hj.1,if_true,hb]
theorem good_index_arr (H:HRel K base h) (ht:VRels K t a.tmps.toList) {o:Oper} {xt:TypeId} {x y:Operand} (ho:o.op = .index xt x y) {cs:List AV} {j:Int} (hx:opnd t x=some (.agg cs)) (hy:(opnd t y).bind asInt? = some j)
    {len:Nat} {e:TypeId} (hu:P.underlying xt=some (.array len e)) {z:Nat} (hz:sizeT P e=some z) (hj:0≤j∧j < len) {v:AV} (hv:partOf P e cs (j.toNat * z)=some v):Good K base h K.c v ((execOp a.eval o).run P K.w):=by
  obtain⟨q,q1,q2⟩:=Option.bind_eq_some_iff.1 hy
  obtain⟨k,hk⟩:=run_asInt (P:=P) (w:=K.w) q2 (opnd_rel ht q1)
  have hr:=opnd_rel ht hx
  simp only[VRel] at hr
  obtain⟨vs,e1,hs⟩:=hr
  obtain⟨y',h1,h2⟩:=partOf_rel hv hs
  refine good_pure H (x:=y') ?_ h2
  simp only[execOp,ho]
  apply run_v
  simp only[Instr.index,hk,e1,asIntOf,Sem.run_bind,Sem.run_pure,Result.andThen_ok,run_underlying hu,hj,and_self,if_true,run_sizeT hz,h1]
theorem good_makeFunc (H:HRel K base h) (ht:VRels K t a.tmps.toList) {o:Oper} {f:FuncId} {first caps:Array Operand} (ho:o.op = .makeFunc (.func f) first caps) (h0:first.size=0) {vs:List AV} (hv:opnds t caps.toList=some vs) :
    Good K base h K.c (.fn f vs) ((execOp a.eval o).run P K.w):=by
  have hr:=opnds_rel ht hv
  have hf:first = #[]:=Array.eq_empty_of_size_eq_zero h0
  refine good_pure H (x:=.func (.func f) #[] (caps.map a.eval)) ?_ ?_
  · simp only[execOp,ho,hf]
    exact run_v (by simp[Instr.makeFunc])
  · simp only[VRel]
    exact⟨_,rfl,by simpa using hr⟩
theorem good_len (H:HRel K base h) (ht:VRels K t a.tmps.toList) {o:Oper} {x:Operand} {args:Array Operand} {ats:Array TypeId} (ho:o.op = .call { callee:=.builtin .len,args:=args,argTypes:=ats }) (ha:args.toList=[x])
    {u:AV} (hx:opnd t x=some u) {ty:TypeId} {d:TypeDesc} (h0:ats[0]? = some ty) (hu:P.underlying ty=some d) {k:Nat}
    (hk:((∃ e,d = .slice e)∧(∃ id off len sz,u = .osl id off len sz∧k=len))∨((∃ e,d = .slice e)∧(∃ sz rows,u = .fsl sz rows∧k=rows.length))∨((∃ e,d = .slice e)∧u = .esl∧k=0) ∨
      ((∃ e,d = .slice e)∧u = .s (.slice none 0 0)∧k=0)∨(d = .string∧∃ b,u = .s (.string b)∧k=b.size)∨(∃ e,d = .array k e)) :
    Good K base h K.c (.s (.int .i64 k)) ((execOp a.eval o).run P K.w):=by
  have hr:=opnd_rel ht hx
  have ha':args = #[x]:=by apply Array.ext'; rw[ha]
  refine good_pure H (x:=.int .i64 k) ?_ (by simp[VRel])
  subst ha'
  have hrun:(Builtin.len_ ats o.type #[a.eval x]).run P K.w = .ok (.int .i64 k) K.w:=by
    simp only[Builtin.len_,h0,Sem.run_bind,run_underlying hu,Result.andThen_ok]
    rcases hk with ⟨⟨e,rfl⟩,id,off,len,sz,rfl,rfl⟩ | ⟨⟨e,rfl⟩,sz,rows,rfl,rfl⟩ | ⟨⟨e,rfl⟩,rfl,rfl⟩ | ⟨⟨e,rfl⟩,rfl,rfl⟩ | ⟨rfl,b,rfl,rfl⟩ | ⟨e,rfl⟩
    · simp only[VRel] at hr
      obtain⟨_,A,cap,e1,_⟩:=hr
      simp[e1,goInt,run_underlying hu]
    · simp only[VRel] at hr
      obtain⟨A,cap,e1,_⟩:=hr
      simp[e1,goInt,run_underlying hu]
    · simp only[VRel] at hr
      obtain⟨A,e1,_⟩:=hr
      simp[e1,goInt,run_underlying hu]
    · simp only[VRel] at hr
      simp[hr,goInt,run_underlying hu]
    · simp only[VRel] at hr
      simp[hr,goInt,run_underlying hu]
    · simp[goInt,run_underlying hu]
  simp only[execOp,ho,resolve,List.map_toArray,List.map_cons,List.map_nil,Sem.run_bind,Sem.run_pure,Result.andThen_ok,invoke,builtin,hrun]
def OptRel (K:Cx):Option AV→Option Value→Prop
  | none,none=>True
  | some u,some y=>VRel K u y
  | _,_=>False
theorem optnd_rel (ht:VRels K t a.tmps.toList) {x:Option Operand} {v:Option AV} (h:optnd t x=some v):OptRel K v (x.map a.eval):=by
  cases x with
  | none=>simp only[optnd,Option.some.injEq] at h; subst h; trivial
  | some x=>
    simp only[optnd] at h
    split at h
    · rename_i u hu
      cases h
      exact opnd_rel ht hu
    · cases h
theorem run_sliceBound {k:IntKind} {i:Int} {y:Nat} (code:BoundsCode) (h0:0≤i) (h1:i≤y) (w:World):(Instr.sliceBound (.int k i) y code).run P w = .ok i.toNat w:=by
  simp[Instr.sliceBound,asIntOf,h0,h1]
theorem run_bounds2 {isS:Bool} {len cap:Nat} {lo hi:Option Value} {l u:Int} (hl:lo=none∧l=0∨∃ k,lo=some (.int k l)) (hu:hi=none∧u=len∨∃ k,hi=some (.int k u)) (h0:0≤l) (h1:l≤u) (h2:u≤len) (h3:len≤cap) (w:World) :
    (Instr.sliceBounds isS len cap lo hi none).run P w = .ok (l.toNat,u.toNat,cap) w:=by
  rcases hl with ⟨rfl,rfl⟩ | ⟨k,rfl⟩ <;> rcases hu with ⟨rfl,rfl⟩ | ⟨k',rfl⟩
  · simp[Instr.sliceBounds]
  · simp only[Instr.sliceBounds,Sem.run_bind,Sem.run_pure,Result.andThen_ok,run_sliceBound _ h1 (show u≤(cap:Int) by omega)]
    rfl
  · simp only[Instr.sliceBounds,Sem.run_bind,Sem.run_pure,Result.andThen_ok,run_sliceBound _ h0 h1]
    rfl
  · simp only[Instr.sliceBounds,Sem.run_bind,Sem.run_pure,Result.andThen_ok,run_sliceBound _ (show 0≤u by omega) (show u≤(cap:Int) by omega),run_sliceBound _ h0 (show l≤(u.toNat:Nat) by omega)]
theorem run_bounds3 {isS:Bool} {len cap:Nat} {lo hi mx:Option Value} {m:Int} (hl:lo=none∧m=0∨∃ k,lo=some (.int k m)) (hu:∃ k,hi=some (.int k m)) (hm:∃ k,mx=some (.int k m)) (h0:0≤m) (h2:m≤cap) (w:World) :
    (Instr.sliceBounds isS len cap lo hi mx).run P w = .ok (m.toNat,m.toNat,m.toNat) w:=by
  obtain⟨k1,rfl⟩:=hu
  obtain⟨k2,rfl⟩:=hm
  rcases hl with ⟨rfl,rfl⟩ | ⟨k,rfl⟩
  · simp only[Instr.sliceBounds,Sem.run_bind,Sem.run_pure,Result.andThen_ok,run_sliceBound _ (Int.le_refl 0) h2,run_sliceBound _ (Int.le_refl 0) (show (0:Int)≤((0:Int).toNat:Nat) by omega)]
    rfl
  · simp only[Instr.sliceBounds,Sem.run_bind,Sem.run_pure,Result.andThen_ok,run_sliceBound _ h0 h2,run_sliceBound _ h0 (show m≤(m.toNat:Nat) by omega)]
end
end Go.Vm
/- The abstract evaluator: operations, one by one: slice expressions; memory that is laid and written. -/
namespace Go.Vm
open Go
section
variable {P:Program} {K:Cx} {base:Nat} {h:AHeap} {t:List AV} {a:Act}
theorem RRel.drop {K:Cx} {b sz:Nat}:∀ (n:Nat) {rows:List (List AV)} {o:Nat},RRel K b o sz rows→RRel K b (o + n * sz) sz (rows.drop n)
  | 0,rows,o,h=>by simpa using h
  | n + 1,[],o,h=>by simp[RRel]
  | n + 1,r :: rs,o,h=>by
    simp only[RRel] at h
    have:=RRel.drop n h.2.2
    rw[List.drop_succ_cons,show o + (n + 1) * sz=o + sz + n * sz by rw[Nat.succ_mul]; omega]
    exact this
theorem RRel.take {K:Cx} {b sz:Nat}:∀ (n:Nat) {rows:List (List AV)} {o:Nat},RRel K b o sz rows→RRel K b o sz (rows.take n)
  | 0,rows,o,h=>by simp[RRel]
  | n + 1,[],o,h=>by simp[RRel]
  | n + 1,r :: rs,o,h=>by
    simp only[RRel] at h
    rw[List.take_succ_cons]
    simp only[RRel]
    exact⟨h.1,h.2.1,RRel.take n h.2.2⟩
theorem slice_run {xt e:TypeId} (hu:P.underlying xt=some (.slice e)) {z:Nat} (hz:sizeT P e=some z) {A:Option Addr} {len cap:Nat} {lo hi mx:Option Value} {l u m:Nat} {w:World}
    (hb:(Instr.sliceBounds true len cap lo hi mx).run P w = .ok (l,u,m) w) :
    (Instr.sliceAt xt (.slice A len cap) lo hi mx).run P w = .ok (.slice (if m=l then A else A.map (·.add (l * z))) (u - l) (m - l)) w:=by
  simp only[Instr.sliceAt,Instr.slice,Sem.run_bind,run_underlying hu,Result.andThen_ok,hb,run_sizeT hz,Sem.run_pure]
theorem sliceOf_rel {xt e:TypeId} (hu:P.underlying xt=some (.slice e)) {z:Nat} (hz:sizeT P e=some z) {v r:AV} {l u m:Option AV} (hv:sliceOf v l u m=some r)
    (hsz:(∃ id off len,v = .osl id off len z)∨(∃ rows,v = .fsl z rows)∨v = .esl∨v = .s (.slice none 0 0)) {y:Value} (hy:VRel K v y) {lo hi mx:Option Value}
    (hl:OptRel K l lo) (hh:OptRel K u hi)
    (hm:OptRel K m mx) :
    ∃ x,(Instr.sliceAt xt y lo hi mx).run P K.w = .ok x K.w∧VRel K r x:=by
  unfold sliceOf at hv
  split at hv
  case h_2=>cases hv
  rename_i li n hli hn
  split at hv
  case h_2=>cases hv
  rename_i ui hui
  have cl:lo=none∧li=0∨∃ k,lo=some (.int k li):=by
    cases l with
    | none=>cases lo with
      | none=>simp[sliceLo] at hli; exact .inl ⟨rfl,hli.symm⟩
      | some _=>exact hl.elim
    | some v=>cases lo with
      | none=>exact hl.elim
      | some y=>obtain⟨k,rfl⟩:=run_asInt (P:=P) (w:=K.w) hli hl; exact .inr ⟨k,rfl⟩
  have cu:hi=none∧ui=n∨∃ k,hi=some (.int k ui):=by
    cases u with
    | none=>cases hi with
      | none=>simp[sliceHi] at hui; exact .inl ⟨rfl,hui.symm⟩
      | some _=>exact hh.elim
    | some v=>cases hi with
      | none=>exact hh.elim
      | some y=>obtain⟨k,rfl⟩:=run_asInt (P:=P) (w:=K.w) hui hh; exact .inr ⟨k,rfl⟩
  split at hv
  · cases mx with
    | some _=>exact hm.elim
    | none=>
      split at hv
      case isFalse=>cases hv
      rename_i hc
      rcases hsz with ⟨id,off,len,rfl⟩ | ⟨rows,rfl⟩ | rfl | rfl
      · simp only[sliceCut,Option.some.injEq] at hv
        subst hv
        simp only[lenOf,Option.some.injEq] at hn
        subst hn
        simp only[VRel] at hy
        obtain⟨hlt,A,cap,rfl,h2,h3,h4⟩:=hy
        refine⟨_,slice_run hu hz (run_bounds2 (isS:=true) (cap:=cap) cl cu hc.1 hc.2.1 hc.2.2 h3 K.w),?_⟩
        simp only[VRel]
        have hle:li.toNat≤cap:=by omega
        by_cases he:cap=li.toNat
        · rw[if_pos he]
          exact⟨hlt,A,cap - li.toNat,rfl,by omega,by omega,.inl (by omega)⟩
        · rw[if_neg he]
          refine⟨hlt,A.add (li.toNat * z),cap - li.toNat,rfl,by omega,by omega,.inr ?_⟩
          rcases h4 with h4 | h4
          · omega
          · rw[h4,addr_add,← Nat.add_mul,Nat.add_assoc]
      · simp only[sliceCut,Option.some.injEq] at hv
        subst hv
        simp only[lenOf,Option.some.injEq] at hn
        subst hn
        simp only[VRel] at hy
        obtain⟨A,cap,rfl,hA,hcap,h2⟩:=hy
        refine⟨_,slice_run hu hz (run_bounds2 (isS:=true) (cap:=cap) cl cu hc.1 hc.2.1 hc.2.2 hcap K.w),?_⟩
        simp only[VRel]
        have hlen:((rows.drop li.toNat).take (ui.toNat - li.toNat)).length=ui.toNat - li.toNat:=by
          rw[List.length_take,List.length_drop]; omega
        refine⟨_,cap - li.toNat,by rw[hlen],?_,by rw[hlen]; omega,?_⟩
        · split
          · exact hA
          · cases A with
            | none=>exact absurd rfl hA
            | some a=>simp
        by_cases he:ui.toNat - li.toNat=0
        · left; rw[he]; rfl
        · right
          rcases h2 with rfl | ⟨b,p,rfl,h2⟩
          · simp at hc; omega
          · refine⟨b,p + li.toNat * z,?_,(h2.drop li.toNat).take _⟩
            rw[if_neg (by omega)]
            simp only[Option.map_some,addr_add]
      · simp only[sliceCut,Option.some.injEq] at hv
        subst hv
        simp only[lenOf,Option.some.injEq] at hn
        subst hn
        simp only[VRel] at hy
        obtain⟨A,rfl,hA⟩:=hy
        have e1:li=0:=by omega
        have e2:ui=0:=by omega
        subst e1; subst e2
        refine⟨_,slice_run hu hz (run_bounds2 (isS:=true) (cap:=0) cl cu (by omega) (by omega) (by omega) (Nat.le_refl _) K.w),?_⟩
        cases A with
        | none=>exact absurd rfl hA
        | some a=>simp[VRel]
      · simp only[sliceCut,Option.some.injEq] at hv
        subst hv
        simp only[lenOf,Option.some.injEq] at hn
        subst hn
        simp only[VRel] at hy
        subst hy
        have e1:li=0:=by omega
        have e2:ui=0:=by omega
        subst e1; subst e2
        exact⟨_,slice_run hu hz (run_bounds2 (isS:=true) (cap:=0) cl cu (by omega) (by omega) (by omega) (Nat.le_refl _) K.w),by simp[VRel]⟩
  · rename_i mv
    cases mx with
    | none=>exact hm.elim
    | some ym=>
      split at hv
      case h_2=>cases hv
      rename_i mi hmi
      obtain⟨km,rfl⟩:=run_asInt (P:=P) (w:=K.w) hmi hm
      split at hv
      case isFalse=>cases hv
      rename_i hc
      obtain⟨c0,c1,c2,c3,c4⟩:=hc
      subst c1; subst c2
      have cu':∃ k,hi=some (.int k li):=by
        rcases cu with ⟨rfl,rfl⟩ | hk
        · cases u with
          | none=>cases c4
          | some _=>exact hh.elim
        · exact hk
      rcases hsz with ⟨id,off,len,rfl⟩ | ⟨rows,rfl⟩ | rfl | rfl
      · cases hv
        simp only[lenOf,Option.some.injEq] at hn
        subst hn
        simp only[VRel] at hy
        obtain⟨hlt,A,cap,rfl,h2,h3,h4⟩:=hy
        exact⟨_,slice_run hu hz (run_bounds3 (isS:=true) (cap:=cap) cl cu' ⟨km,rfl⟩ c0 (by omega) K.w),by simp[VRel]⟩
      · cases hv
        simp only[lenOf,Option.some.injEq] at hn
        subst hn
        simp only[VRel] at hy
        obtain⟨A,cap,rfl,hA,hcap,h2⟩:=hy
        refine⟨_,slice_run hu hz (run_bounds3 (isS:=true) (cap:=cap) cl cu' ⟨km,rfl⟩ c0 (by omega) K.w),?_⟩
        cases A with
        | none=>exact absurd rfl hA
        | some a=>simp[VRel]
      · cases hv
        simp only[lenOf,Option.some.injEq] at hn
        subst hn
        simp only[VRel] at hy
        obtain⟨A,rfl,hA⟩:=hy
        refine⟨_,slice_run hu hz (run_bounds3 (isS:=true) (cap:=0) cl cu' ⟨km,rfl⟩ c0 (by omega) K.w),?_⟩
        cases A with
        | none=>exact absurd rfl hA
        | some a=>simp[VRel]
      · cases hv
theorem good_slice (H:HRel K base h) (ht:VRels K t a.tmps.toList) {o:Oper} {xt e:TypeId} {x:Operand} {lo hi mx:Option Operand} (ho:o.op = .slice xt x lo hi mx) {v r:AV} {l u m:Option AV} (hx:opnd t x=some v)
    (hl:optnd t lo=some l) (hh:optnd t hi=some u) (hm:optnd t mx=some m) (hu:P.underlying xt=some (.slice e)) {z:Nat} (hz:sizeT P e=some z)
    (hsz:(∃ id off len,v = .osl id off len z)∨(∃ rows,v = .fsl z rows)∨v = .esl∨v = .s (.slice none 0 0)) (hv:sliceOf v l u m=some r):Good K base h K.c r ((execOp a.eval o).run P K.w):=by
  obtain⟨y,h1,h2⟩:=sliceOf_rel hu hz hv hsz (opnd_rel ht hx) (optnd_rel ht hl) (optnd_rel ht hh) (optnd_rel ht hm)
  exact good_pure H (by simp only[execOp,ho]; exact run_v h1) h2
theorem good_sliceStr (H:HRel K base h) (ht:VRels K t a.tmps.toList) {o:Oper} {xt:TypeId} {x:Operand} {lo hi:Option Operand} (ho:o.op = .slice xt x lo hi none) {b:ByteArray} {r:AV} {l u:Option AV} (hx:opnd t x=some (.s (.string b)))
    (hl:optnd t lo=some l) (hh:optnd t hi=some u) (hu:P.underlying xt=some .string) (hv:sliceOf (.s (.string b)) l u none=some r):Good K base h K.c r ((execOp a.eval o).run P K.w):=by
  have hy:=opnd_rel ht hx
  simp only[VRel] at hy
  have hl':=optnd_rel (K:=K) (a:=a) ht hl
  have hh':=optnd_rel (K:=K) (a:=a) ht hh
  unfold sliceOf at hv
  split at hv
  case h_2=>cases hv
  rename_i li n hli hn
  split at hv
  case h_2=>cases hv
  rename_i ui hui
  simp only[lenOf,Option.some.injEq] at hn
  subst hn
  have cl:lo.map a.eval=none∧li=0∨∃ k,lo.map a.eval=some (.int k li):=by
    revert hl'
    cases l with
    | none=>cases lo.map a.eval with
      | none=>intro _; simp[sliceLo] at hli; exact .inl ⟨rfl,hli.symm⟩
      | some _=>intro hx; exact hx.elim
    | some v=>cases lo.map a.eval with
      | none=>intro hx; exact hx.elim
      | some y=>intro hx; obtain⟨k,rfl⟩:=run_asInt (P:=P) (w:=K.w) hli hx; exact .inr ⟨k,rfl⟩
  have cu:hi.map a.eval=none∧ui=b.size∨∃ k,hi.map a.eval=some (.int k ui):=by
    revert hh'
    cases u with
    | none=>cases hi.map a.eval with
      | none=>intro _; simp[sliceHi] at hui; exact .inl ⟨rfl,hui.symm⟩
      | some _=>intro hx; exact hx.elim
    | some v=>cases hi.map a.eval with
      | none=>intro hx; exact hx.elim
      | some y=>intro hx; obtain⟨k,rfl⟩:=run_asInt (P:=P) (w:=K.w) hui hx; exact .inr ⟨k,rfl⟩
  simp only at hv
  split at hv
  case isFalse=>cases hv
  rename_i hc
  simp only[sliceCut,Option.some.injEq] at hv
  subst hv
  refine good_pure H (x:=.string (b.extract li.toNat ui.toNat)) ?_ (by simp[VRel])
  simp only[execOp,ho,Option.map_none]
  apply run_v
  simp only[Instr.sliceAt,Instr.slice,Sem.run_bind,run_underlying hu,Result.andThen_ok,hy,Option.isSome_none,Bool.false_eq_true,if_false,Sem.run_pure,
    run_bounds2 (isS:=false) (cap:=b.size) cl cu hc.1 hc.2.1 hc.2.2 (Nat.le_refl _) K.w]
end
end Go.Vm
/- The abstract evaluator: operations, one by one: memory that is laid and written. -/
namespace Go.Vm
open Go
section
variable {P:Program} {K:Cx} {base:Nat} {h:AHeap} {t:List AV} {a:Act}
theorem good_res {K:Cx} {base:Nat} {h':AHeap} {c':Nat} {v:AV} {K':Cx} {x:Value} {res:Result Next} (hr:res = .ok (.value x) K'.w) (S:K.Step K') (H:HRel K' base h') (hc:K'.c=c') (hv:VRel K' v x):Good K base h' c' v res:=
  ⟨K',x,.inl hr,S,H,hc,hv⟩
theorem orel_new {K:Cx} {T:TypeId} {cs:List AV} {vs:Array Value} (hr:VRels K cs vs.toList) (h1:∀ v∈vs.toList,v.oneCell' = true) :
    ORel (K.allocOwn (.cells vs T) 1) (K.w.heap.size,0,1) (.rows cs.length [cs]):=by
  have hl:cs.length=vs.size:=by simpa using hr.length
  refine⟨vs,T,(0,0),World.alloc_heap_new _ _,by simp[hl],fun i _=>by omega,by simp,fun i r hi=>?_⟩
  cases i with
  | succ i=>simp at hi
  | zero=>
    simp at hi
    subst hi
    refine⟨rfl,fun j c hj=>?_⟩
    obtain⟨v,h2,h3⟩:=hr.get hj
    have h4:vs[j]? = some v:=by simpa using h2
    refine⟨v,by simpa using h4,h1 v (List.mem_of_getElem? h2),h3.mono (step_allocOwn K _ 1).le⟩
theorem ptr_new {K:Cx} {o:Obj} {κ n:Nat}:VRel (K.allocOwn o κ) (.ptr K.c 0 n 0) (.pointer (some ⟨K.w.heap.size,0,none⟩)):=by
  simp only[VRel,allocOwn_ι,allocOwn_c]
  exact⟨Nat.lt_succ_self _,by simp⟩
theorem zeroT_run {e:TypeId} {cs:List AV} (hz:zeroT P e=some cs):∃ z,(∀ w,(zeroValue e).run P w = .ok z w)∧cs=z.cells.toList.map .s∧∀ v∈z.cells.toList,v.oneCell' = true:=by
  unfold zeroT at hz
  cases hi:P.info? e with
  | none=>rw[hi] at hz; cases hz
  | some i=>
    rw[hi] at hz
    simp only[Option.bind_some] at hz
    cases hzz:i.zero with
    | none=>rw[hzz] at hz; cases hz
    | some z=>
      rw[hzz] at hz
      simp only at hz
      split at hz
      · cases hz
        rename_i ho
        exact⟨z,fun w=>by simp[zeroValue,typeInfo,hi,hzz],rfl,fun v hv=>List.all_eq_true.1 ho v hv⟩
      · cases hz
theorem isBldZ_iff {cs:List AV} (h:isBldZ cs=true):cs=[.s (.pointer none),.s (.slice none 0 0)]:=by
  unfold isBldZ at h
  split at h
  · rfl
  · cases h
theorem good_alloc (H:HRel K base h) {o:Oper} {e:TypeId} (ho:o.op = .alloc e) {cs:List AV} (hz:zeroT P e=some cs) :
    Good K base (h.upd [(K.c,some (allocA e cs))]) (K.c + 1) (.ptr K.c 0 cs.length 0) ((execOp a.eval o).run P K.w):=by
  obtain⟨z,hrun,rfl,h1⟩:=zeroT_run hz
  have hr:HRel (K.allocOwn (.cells z.cells e) 1) base (h.put K.c (some (allocA e (z.cells.toList.map .s)))):=by
    unfold allocA
    by_cases hc:(bldTy == some e && isBldZ (z.cells.toList.map .s))=true
    · rw[if_pos hc]
      rw[Bool.and_eq_true] at hc
      have hcs:=isBldZ_iff hc.2
      have hz2:z.cells = #[.pointer none,.slice none 0 0]:=by
        have:z.cells.toList=[.pointer none,.slice none 0 0]:=by
          have:=congrArg (List.map fun a=>match a with | AV.s v=>v | _=>.pointer none) hcs
          simpa[List.map_map,Function.comp_def] using this
        exact Array.toList_inj.1 this
      refine hrel_allocOwn H _ 1 _ ⟨rfl,e,.pointer none,.slice none 0 0,by simpa using hc.1,?_,.inl rfl,?_,by simp[Value.ownBlock]⟩ ?_
      · rw[← hz2]; exact World.alloc_heap_new _ _
      · exact World.ownsRowF_nil _ _ _ _
      · rintro g ⟨q,v,T,fz,e1,e2⟩
        rw[World.alloc_heap_new] at e1
        rw[hz2] at e1
        cases e1
        simp[Value.ownBlock] at e2
    · rw[if_neg hc]
      exact hrel_allocOwn H _ 1 _ (orel_new (VRels.map_s _) h1)
  refine good_res (K':=K.allocOwn (.cells z.cells e) 1) (x:=.pointer (some ⟨K.w.heap.size,0,none⟩)) ?_ (step_allocOwn K _ 1) hr rfl ptr_new
  simp only[execOp,ho]
  apply run_v
  simp only[Instr.alloc,Sem.run_bind,hrun,Result.andThen_ok,newVar,newRow,run_newObj_alloc,Sem.run_pure]
  rfl
theorem good_box (H:HRel K base h) (ht:VRels K t a.tmps.toList) {o:Oper} {e:TypeId} {x:Operand} (ho:o.op = .box e x) {cs:List AV} (hx:(opnd t x).bind cellsOf=some cs) :
    Good K base (h.upd (newRows K.c cs.length [cs])) (K.c + 1) (.ptr K.c 0 cs.length 0) ((execOp a.eval o).run P K.w):=by
  obtain⟨u,h1,h2⟩:=Option.bind_eq_some_iff.1 hx
  obtain⟨h3,h4⟩:=cellsOf_rel h2 (opnd_rel ht h1)
  refine good_res (K':=K.allocOwn (.cells (a.eval x).cells e) 1) (x:=.pointer (some ⟨K.w.heap.size,0,none⟩)) ?_ (step_allocOwn K _ 1) (hrel_allocOwn H _ 1 _ (orel_new h3 h4)) rfl ptr_new
  simp only[execOp,ho]
  apply run_v
  simp only[Instr.box,newVar,newRow,Sem.run_bind,run_newObj_alloc,Result.andThen_ok,Sem.run_pure]
  rfl
def layV (arr:Array Value) (p:Nat) (vs:List Value):Array Value:=(arr.toList.take p ++ vs ++ arr.toList.drop (p + vs.length)).toArray
theorem layV_nil (arr:Array Value) (p:Nat):layV arr p []=arr:=by simp[layV]
theorem layV_size {arr:Array Value} {p:Nat} {vs:List Value} (h:p + vs.length≤arr.size):(layV arr p vs).size=arr.size:=by
  simp[layV]; omega
theorem layV_get {arr:Array Value} {p:Nat} {vs:List Value} (h:p + vs.length≤arr.size) (i:Nat):(layV arr p vs)[i]? = if i < p then arr[i]? else if i < p + vs.length then vs[i - p]? else arr[i]?:=by
  have hp:(arr.toList.take p).length=p:=by simp; omega
  unfold layV
  rw[List.getElem?_toArray,List.append_assoc]
  by_cases h1:i < p
  · rw[if_pos h1,List.getElem?_append_left (by omega),List.getElem?_take_of_lt h1]; simp
  · rw[if_neg h1,List.getElem?_append_right (by omega),hp]
    by_cases h2:i < p + vs.length
    · rw[if_pos h2,List.getElem?_append_left (by omega)]
    · rw[if_neg h2,List.getElem?_append_right (by omega),List.getElem?_drop]
      rw[show p + vs.length + (i - p - vs.length)=i by omega]; simp
theorem layV_cons {arr:Array Value} {p:Nat} {v:Value} {vs:List Value} (h:p + (v :: vs).length≤arr.size):layV (arr.setIfInBounds p v) (p + 1) vs=layV arr p (v :: vs):=by
  simp only[List.length_cons] at h
  apply Array.ext_getElem?
  intro i
  rw[layV_get (by simp; omega),layV_get (by simpa using h)]
  simp only[List.length_cons]
  by_cases h1:i < p
  · rw[if_pos (by omega),if_pos h1,Array.getElem?_setIfInBounds_ne (by omega)]
  · by_cases h2:i=p
    · subst h2
      rw[if_pos (by omega),if_neg (by omega),if_pos (by omega),Array.getElem?_setIfInBounds_self_of_lt (by omega)]
      simp
    · rw[if_neg (by omega),if_neg h1]
      by_cases h3:i < p + 1 + vs.length
      · rw[if_pos h3,if_pos (by omega),show i - p=(i - (p + 1)) + 1 by omega,List.getElem?_cons_succ]
      · rw[if_neg h3,if_neg (by omega),Array.getElem?_setIfInBounds_ne (by omega)]
theorem setBlk_setBlk (w:World) (b:Nat) (o p:Obj):setBlk (setBlk w b o) b p=setBlk w b p:=by simp[setBlk]
theorem setBlk_id {w:World} {b:Nat} {o:Obj} (h:w.heap[b]? = some o):setBlk w b o=w:=by
  obtain⟨hl,he⟩:=Array.getElem?_eq_some_iff.1 h
  have:w.heap.setIfInBounds b o=w.heap:=by
    apply Array.ext_getElem?
    intro i
    by_cases e:b=i
    · subst e; rw[Array.getElem?_setIfInBounds_self_of_lt hl,h]
    · rw[Array.getElem?_setIfInBounds_ne e]
  simp[setBlk,this]
theorem setCell_blk {w:World} {b p:Nat} {v:Value} {arr:Array Value} {T:TypeId} {fz:Nat × Nat} (hb:w.heap[b]? = some (.cells arr T fz)):w.setCell ⟨b,p,none⟩ v=setBlk w b (.cells (arr.setIfInBounds p v) T fz):=by
  obtain⟨hl,he⟩:=Array.getElem?_eq_some_iff.1 hb
  have:(w.heap.modify b fun | .cells c elem frozen=>.cells (if (none:Option Nat).isSome then c else c.setIfInBounds p v) elem frozen | o=>o)=w.heap.setIfInBounds b (.cells (arr.setIfInBounds p v) T fz):=by
    apply Array.ext_getElem?
    intro i
    rw[Array.getElem?_modify]
    by_cases e:b=i
    · subst e
      rw[if_pos rfl,hb,Array.getElem?_setIfInBounds_self_of_lt hl]
      rfl
    · rw[if_neg e,Array.getElem?_setIfInBounds_ne e]
  unfold World.setCell setBlk
  rw[← this]
  rfl
theorem run_storeCells_blk {b:Nat} {T:TypeId} {fz:Nat × Nat}:∀ (vs:List Value) (i p:Nat) (arr:Array Value) (w:World),w.heap[b]? = some (.cells arr T fz)→(∀ i,i < arr.size→¬ (fz.1≤i∧i < fz.2))→p + i + vs.length≤arr.size→(∀ v∈vs,v.oneCell' = true) →
    (storeCells ⟨b,p,none⟩ vs i).run P w = .ok () (setBlk w b (.cells (layV arr (p + i) vs) T fz))
  | [],i,p,arr,w,hb,hf,hl,h1=>by
    simp only[storeCells,Sem.run_pure,layV_nil,setBlk_id hb]
  | v :: vs,i,p,arr,w,hb,hf,hl,h1=>by
    have hlt:p + i < arr.size:=by simp at hl; omega
    have hc:w.cell? ⟨b,p + i,none⟩=some arr[p + i]:=by simp[World.cell?,hb,hlt]
    have hfr:w.frozen? ⟨b,p + i,none⟩=false:=by
      simp only[World.frozen?,hb]
      have:=hf (p + i) hlt
      simp only[Bool.and_eq_false_iff,decide_eq_false_iff_not]
      omega
    have hst:(store ⟨b,p + i,none⟩ v).run P w = .ok () (setBlk w b (.cells (arr.setIfInBounds (p + i) v) T fz)):=by
      rw[run_store P w _ v .plain (h1 v (by simp)),hc,← setCell_blk hb]
      simp[hfr]
    have ih:=run_storeCells_blk vs (i + 1) p (arr.setIfInBounds (p + i) v) (setBlk w b (.cells (arr.setIfInBounds (p + i) v) T fz)) (setBlk_same hb) (by simpa using hf) (by simp at hl ⊢; omega) (fun u hu=>h1 u (by simp[hu]))
    simp only[storeCells,Sem.run_bind,addr_add,hst,Result.andThen_ok,ih]
    rw[setBlk_setBlk,show p + (i + 1)=p + i + 1 by omega,layV_cons (by simpa using hl)]
theorem layAt_get {row cs:List AV} {off:Nat} (h:off + cs.length≤row.length) (j:Nat):(layAt row off cs)[j]? = if j < off then row[j]? else if j < off + cs.length then cs[j - off]? else row[j]?:=by
  have hp:(row.take off).length=off:=by simp; omega
  unfold layAt
  rw[List.append_assoc]
  by_cases h1:j < off
  · rw[if_pos h1,List.getElem?_append_left (by omega),List.getElem?_take_of_lt h1]
  · rw[if_neg h1,List.getElem?_append_right (by omega),hp]
    by_cases h2:j < off + cs.length
    · rw[if_pos h2,List.getElem?_append_left (by omega)]
    · rw[if_neg h2,List.getElem?_append_right (by omega),List.getElem?_drop]
      rw[show off + cs.length + (j - off - cs.length)=j by omega]
theorem layAt_length {row cs:List AV} {off:Nat} (h:off + cs.length≤row.length):(layAt row off cs).length=row.length:=by
  simp[layAt]; omega
theorem rows_apart {i j sz x:Nat} (h:i≠j) (h1:i * sz≤x) (h2:x < i * sz + sz):¬ (j * sz≤x∧x < j * sz + sz):=by
  rintro⟨h3,h4⟩
  rcases Nat.lt_or_gt_of_ne h with hl | hl
  · have:(i + 1) * sz≤j * sz:=Nat.mul_le_mul_right sz hl
    rw[Nat.succ_mul] at this; omega
  · have:(j + 1) * sz≤i * sz:=Nat.mul_le_mul_right sz hl
    rw[Nat.succ_mul] at this; omega
theorem orel_store {K:Cx} {sz:Nat} {p:Nat × Nat × Nat} {arr:Array Value} {T:TypeId} {fz:Nat × Nat} (hb:K.w.heap[p.1]? = some (.cells arr T fz)) (hsz:arr.size=(p.2.1 + p.2.2) * sz) (hf:∀ i,i < arr.size→¬ (fz.1≤i∧i < fz.2)) {rows:List (List AV)} (hlen:rows.length≤p.2.2)
    (hrows:∀ (i:Nat) (r:List AV),rows[i]? = some r→r.length=sz∧CellsRel K arr ((p.2.1 + i) * sz) r) {i:Nat} {row cs:List AV} {vs:List Value} (hrow:rows[i]? = some row) (hv:VRels K cs vs) (h1:∀ v∈vs,v.oneCell' = true) {off:Nat} (hoff:off + cs.length≤row.length)
    {K':Cx} (hK:K' = K.setB p.1 (.cells (layV arr ((p.2.1 + i) * sz + off) vs) T fz)) (hle:K.Le K'):ORel K' p (.rows sz (rows.set i (layAt row off cs))):=by
  have hrl:=(hrows i row hrow).1
  have hil:i < rows.length:=(List.getElem?_eq_some_iff.1 hrow).1
  have hcl:cs.length=vs.length:=hv.length
  have hfit:(p.2.1 + i) * sz + off + vs.length≤arr.size:=by
    rw[hsz]
    have:(p.2.1 + i + 1) * sz≤(p.2.1 + p.2.2) * sz:=Nat.mul_le_mul_right sz (by omega)
    rw[Nat.succ_mul] at this; omega
  refine⟨layV arr ((p.2.1 + i) * sz + off) vs,T,fz,by rw[hK]; exact setBlk_same hb,by rw[layV_size hfit,hsz],by rw[layV_size hfit]; exact hf,by simpa using hlen,fun k r hk=>?_⟩
  by_cases e:i=k
  · subst e
    rw[List.getElem?_set_self hil] at hk
    cases hk
    refine⟨by rw[layAt_length hoff,hrl],fun j c hj=>?_⟩
    rw[layAt_get hoff] at hj
    rw[layV_get hfit]
    by_cases g1:j < off
    · rw[if_pos g1] at hj
      rw[if_pos (by omega)]
      obtain⟨v,k1,k2,k3⟩:=(hrows i row hrow).2 j c hj
      exact⟨v,k1,k2,k3.mono hle⟩
    · rw[if_neg g1] at hj
      rw[if_neg (by omega)]
      by_cases g2:j < off + cs.length
      · rw[if_pos g2] at hj
        rw[if_pos (by omega)]
        obtain⟨v,k1,k2⟩:=hv.get hj
        refine⟨v,?_,h1 v (List.mem_of_getElem? k1),k2.mono hle⟩
        rw[show (p.2.1 + i) * sz + j - ((p.2.1 + i) * sz + off)=j - off by omega]
        exact k1
      · rw[if_neg g2] at hj
        rw[if_neg (by omega)]
        obtain⟨v,k1,k2,k3⟩:=(hrows i row hrow).2 j c hj
        exact⟨v,k1,k2,k3.mono hle⟩
  · rw[List.getElem?_set_ne e] at hk
    obtain⟨g1,g2⟩:=hrows k r hk
    refine⟨g1,fun j c hj=>?_⟩
    obtain⟨v,k1,k2,k3⟩:=g2 j c hj
    refine⟨v,?_,k2,k3.mono hle⟩
    have hjl:j < sz:=by rw[← g1]; exact (List.getElem?_eq_some_iff.1 hj).1
    have:=rows_apart (i:=p.2.1 + k) (j:=p.2.1 + i) (sz:=sz) (x:=(p.2.1 + k) * sz + j) (by omega) (by omega) (by omega)
    rw[layV_get hfit]
    by_cases g3:(p.2.1 + k) * sz + j < (p.2.1 + i) * sz + off
    · rw[if_pos g3]; exact k1
    · rw[if_neg g3,if_neg (by omega)]; exact k1
theorem good_store (H:HRel K base h) (ht:VRels K t a.tmps.toList) {o:Oper} {ty:TypeId} {x y:Operand} (ho:o.op = .store ty x y) {p v:AV} (hx:opnd t x=some p) (hy:opnd t y=some v) {us:Ups} (hs:storeOf P h ty p v=some us) :
    Good K base (h.upd us) K.c (.s undef) ((execOp a.eval o).run P K.w):=by
  unfold storeOf at hs
  split at hs
  case h_2=>cases hs
  rename_i id i sz off cs hcs
  split at hs
  case h_2=>cases hs
  rename_i sz' rows hid
  split at hs
  case isFalse=>cases hs
  rename_i hc
  obtain⟨rfl,hsz⟩:=hc
  split at hs
  case h_2=>cases hs
  rename_i row hrow
  split at hs
  case isFalse=>cases hs
  rename_i hoff
  cases hs
  have hp:=opnd_rel ht hx
  simp only[VRel] at hp
  obtain⟨hlt,ep⟩:=hp
  obtain⟨hv,h1⟩:=cellsOf_rel hcs (opnd_rel ht hy)
  obtain⟨arr,T,fz,g1,g2,g3,g4,g5⟩:=H.obj id _ hid
  have hle:=(step_setB (K:=K) (b:=(K.ι id).1) (o:=.cells (layV arr (((K.ι id).2.1 + i) * sz' + off) (a.eval y).cells.toList) T fz) (H.L id _ hid) g1 (fun R e=>by cases e))
  have hor:=orel_store (K:=K) (p:=K.ι id) g1 g2 g3 g4 g5 hrow hv h1 hoff rfl hle.le
  have hcl:cs.length=(a.eval y).cells.size:=by simpa using hv.length
  have hfit:((K.ι id).2.1 + i) * sz' + off + (a.eval y).cells.toList.length≤arr.size:=by
    have hil:i < rows.length:=(List.getElem?_eq_some_iff.1 hrow).1
    have hrl:=(g5 i row hrow).1
    rw[g2]
    have:((K.ι id).2.1 + i + 1) * sz'≤((K.ι id).2.1 + (K.ι id).2.2) * sz':=Nat.mul_le_mul_right sz' (by omega)
    rw[Nat.succ_mul] at this
    simp; omega
  refine⟨_,undef,.inr ⟨?_,rfl⟩,hle,hrel_setB H hid g1 (fun R e=>by cases e) _ hor,rfl,by simp[VRel]⟩
  have hrun:=run_storeCells_blk (P:=P) (a.eval y).cells.toList 0 (((K.ι id).2.1 + i) * sz' + off) arr K.w g1 g3 (by simpa using hfit) h1
  simp only[execOp,ho,ep,Instr.storeAt,Instr.sureAddr,storeVar,Sem.run_bind,Sem.run_pure,Result.andThen_ok,run_sizeT hsz,hcl,ne_eq,not_true,if_false,hrun]
  rfl
end
end Go.Vm
/- The abstract evaluator: operations, one by one: literals, make, append, bytes and strings. -/
namespace Go.Vm
open Go
section
variable {P:Program} {K:Cx} {base:Nat} {h:AHeap} {t:List AV} {a:Act}
theorem foldl_layV:∀ (l:List Value) (k off:Nat) (arr:Array Value),off + k + l.length≤arr.size→(l.zipIdx k).foldl (fun cs (p:Value × Nat)=>cs.setIfInBounds (off + p.2) p.1) arr=layV arr (off + k) l
  | [],k,off,arr,_=>by simp[layV_nil]
  | v :: l,k,off,arr,h=>by
    simp only[List.length_cons] at h
    simp only[List.zipIdx_cons,List.foldl_cons]
    rw[foldl_layV l (k + 1) off _ (by simp; omega),show off + (k + 1)=off + k + 1 by omega,layV_cons (by simp; omega)]
theorem layAt_rel {K:Cx} {cs ds:List AV} {arr:Array Value} {vs:List Value} {off:Nat} (h1:VRels K cs arr.toList) (h2:VRels K ds vs):VRels K (layAt cs off ds) (layV arr off vs).toList:=by
  unfold layAt layV
  rw[h2.length]
  exact ((h1.take off).append h2).append (h1.drop _)
theorem parts_rel (ht:VRels K t a.tmps.toList):∀ {ps:List (Nat × Operand)} {vs:List (Nat × AV)},parts t ps=some vs→vs.map (·.1)=ps.map (·.1)∧VRels K (vs.map (·.2)) (ps.map fun p=>a.eval p.2)
  | [],vs,h=>by
    simp only[parts,Option.some.injEq] at h
    subst h
    simp[VRels]
  | (i,x) :: ps,vs,h=>by
    simp only[parts] at h
    split at h
    · rename_i v us h1 h2
      cases h
      obtain⟨g1,g2⟩:=parts_rel ht h2
      simp only[List.map_cons,VRels]
      exact⟨by rw[g1],opnd_rel ht h1,g2⟩
    · cases h
theorem fillC_rel {K:Cx} {place:Nat→Option (Nat × Nat)}:∀ {vs:List (Nat × AV)} {xs:List (Nat × Value)} {cs cs':List AV} {arr:Array Value},fillC place cs vs=some cs'→vs.map (·.1)=xs.map (·.1)→VRels K (vs.map (·.2)) (xs.map (·.2))→VRels K cs arr.toList →
    ∃ arr',Instr.fill place arr xs=some arr'∧VRels K cs' arr'.toList
  | [],[],cs,cs',arr,h,_,_,hr=>by
    simp only[fillC,Option.some.injEq] at h
    subst h
    exact⟨arr,rfl,hr⟩
  | (i,v) :: vs,(j,x) :: xs,cs,cs',arr,h,hi,hv,hr=>by
    simp only[List.map_cons,List.cons.injEq] at hi
    obtain⟨rfl,hi⟩:=hi
    simp only[List.map_cons,VRels] at hv
    simp only[fillC] at h
    split at h
    · rename_i off size ds h1 h2
      split at h
      · rename_i hc
        obtain⟨k1,k2⟩:=cellsOf_rel h2 hv.1
        have hl:ds.length=x.cells.size:=by simpa using k1.length
        have hl2:cs.length=arr.size:=by simpa using hr.length
        obtain⟨arr',e1,e2⟩:=fillC_rel h hi hv.2 (layAt_rel (off:=off) hr k1)
        refine⟨arr',?_,e2⟩
        have hcond:(decide (x.cells.size≠size) || decide (off + x.cells.size > arr.size))=false:=by
          simp only[Bool.or_eq_false_iff,decide_eq_false_iff_not]
          omega
        have hfold:(x.cells.zipIdx.foldl (fun cs (p:Value × Nat)=>cs.setIfInBounds (off + p.2) p.1) arr)=layV arr off x.cells.toList:=by
          rw[← Array.foldl_toList,Array.toList_zipIdx]
          have:=foldl_layV x.cells.toList 0 off arr (by simp; omega)
          simpa using this
        simp only[Instr.fill,h1]
        rw[hcond]
        simp only[Bool.false_eq_true,if_false]
        rw[hfold]
        exact e1
      · cases h
    · cases h
  | [],_ :: _,_,_,_,_,hi,_,_=>by simp at hi
  | _ :: _,[],_,_,_,_,hi,_,_=>by simp at hi
theorem run_places:∀ {fs:List Field} {l:List (Nat × Nat)},placesL P fs=some l→∀ w,(fs.mapM fun f=>do pure (f.offset,← sizeOf f.type):Sem (List (Nat × Nat))).run P w = .ok l w
  | [],l,h,w=>by
    simp only[placesL,Option.some.injEq] at h
    subst h
    rfl
  | f :: fs,l,h,w=>by
    simp only[placesL] at h
    split at h
    · rename_i n us h1 h2
      cases h
      simp only[List.mapM_cons,Sem.run_bind,run_sizeT h1,Result.andThen_ok,Sem.run_pure,run_places h2]
    · cases h
theorem good_build (H:HRel K base h) (ht:VRels K t a.tmps.toList) {o:Oper} {ty:TypeId} {ps:Array (Nat × Operand)} (ho:o.op = .build ty ps) {z:List AV} {pl:Nat→Option (Nat × Nat)} {vs:List (Nat × AV)} {cs:List AV}
    (hz:zeroT P ty=some z) (hp:placesT P ty=some pl) (hv:parts t ps.toList=some vs) (hf:fillC pl z vs=some cs):Good K base h K.c (.agg cs) ((execOp a.eval o).run P K.w):=by
  obtain⟨zv,hrun,rfl,h1⟩:=zeroT_run hz
  obtain⟨g1,g2⟩:=parts_rel ht hv
  obtain⟨arr',e1,e2⟩:=fillC_rel (xs:=ps.toList.map fun p=>(p.1,a.eval p.2)) (arr:=zv.cells) hf (by rw[g1]; simp) (by simpa[Function.comp_def] using g2) (VRels.map_s _)
  refine good_pure H (x:=.agg arr') ?_ (by simp only[VRel]; exact⟨_,rfl,e2⟩)
  simp only[execOp,ho]
  apply run_v
  unfold placesT at hp
  split at hp
  · rename_i fields hu
    obtain⟨l,hl,rfl⟩:=Option.map_eq_some_iff.1 hp
    have hm:(fields.mapM fun f=>do pure (f.offset,← sizeOf f.type):Sem (Array (Nat × Nat))).run P K.w = .ok l.toArray K.w:=by
      rw[Array.mapM_eq_mapM_toList,Sem.run_map,run_places hl]
      rfl
    have e1':Instr.fill (fun i=>l.toArray[i]?) zv.cells (ps.map fun p=>(p.1,a.eval p.2)).toList=some arr':=by
      rw[Array.toList_map]
      simpa using e1
    simp only[Instr.build,Sem.run_bind,hrun,Result.andThen_ok,run_underlying hu,hm]
    rw[e1']
    rfl
  · rename_i n e hu
    obtain⟨n',hn,rfl⟩:=Option.map_eq_some_iff.1 hp
    have e1':Instr.fill (fun i=>some (i * n',n')) zv.cells (ps.map fun p=>(p.1,a.eval p.2)).toList=some arr':=by
      rw[Array.toList_map]
      exact e1
    simp only[Instr.build,Sem.run_bind,hrun,Result.andThen_ok,run_underlying hu,run_sizeT hn]
    rw[e1']
    rfl
  · cases hp
def RowsArr (K:Cx) (arr:Array Value) (sz:Nat) (rows:List (List AV)):Prop:=∀ (i:Nat) (r:List AV),rows[i]? = some r→r.length=sz∧CellsRel K arr (i * sz) r
theorem rowsArr_set {K:Cx} {arr:Array Value} {sz:Nat} {rows:List (List AV)} (hrows:RowsArr K arr sz rows) {n:Nat} (hsz:arr.size=n * sz) (hn:rows.length≤n) {i:Nat} {cs:List AV} {vs:List Value} (hi:i < rows.length) (hv:VRels K cs vs) (hc:cs.length=sz) (h1:∀ v∈vs,v.oneCell' = true) :
    RowsArr K (layV arr (i * sz) vs) sz (rows.set i cs):=by
  have hcl:cs.length=vs.length:=hv.length
  have hfit:i * sz + vs.length≤arr.size:=by
    rw[hsz]
    have:(i + 1) * sz≤n * sz:=Nat.mul_le_mul_right sz (by omega)
    rw[Nat.succ_mul] at this; omega
  intro k r hk
  by_cases e:i=k
  · subst e
    rw[List.getElem?_set_self hi] at hk
    cases hk
    refine⟨hc,fun j c hj=>?_⟩
    obtain⟨v,k1,k2⟩:=hv.get hj
    have hjl:j < vs.length:=(List.getElem?_eq_some_iff.1 k1).1
    refine⟨v,?_,h1 v (List.mem_of_getElem? k1),k2⟩
    rw[layV_get hfit,if_neg (by omega),if_pos (by omega),show i * sz + j - i * sz=j by omega]
    exact k1
  · rw[List.getElem?_set_ne e] at hk
    obtain⟨g1,g2⟩:=hrows k r hk
    refine⟨g1,fun j c hj=>?_⟩
    obtain⟨v,k1,k2,k3⟩:=g2 j c hj
    refine⟨v,?_,k2,k3⟩
    have hjl:j < sz:=by rw[← g1]; exact (List.getElem?_eq_some_iff.1 hj).1
    have:=rows_apart (i:=k) (j:=i) (sz:=sz) (x:=k * sz + j) (Ne.symm e) (by omega) (by omega)
    rw[layV_get hfit]
    by_cases g3:k * sz + j < i * sz
    · rw[if_pos g3]; exact k1
    · rw[if_neg g3,if_neg (by omega)]; exact k1
theorem zero_get {z:Value} {n j:Nat} (hj:j < n * z.cells.size):((Array.range (n * z.cells.size)).map (z.cells[· % z.cells.size]!))[j]? = z.cells[j % z.cells.size]?:=by
  have hp:0 < z.cells.size:=by
    rcases Nat.eq_zero_or_pos z.cells.size with e | e
    · rw[e] at hj; simp at hj
    · exact e
  have hm:j % z.cells.size < z.cells.size:=Nat.mod_lt _ hp
  rw[Array.getElem?_map,Array.getElem?_range,if_pos hj]
  simp[hm]
theorem zero_rows {K:Cx} {z:Value} (h1:∀ v∈z.cells.toList,v.oneCell' = true) {n l:Nat} (hl:l≤n):RowsArr K ((Array.range (n * z.cells.size)).map (z.cells[· % z.cells.size]!)) z.cells.size (List.replicate l (z.cells.toList.map .s)):=by
  intro i r hi
  have hil:i < l:=by simpa using (List.getElem?_eq_some_iff.1 hi).1
  have hr:r=z.cells.toList.map .s:=by
    rw[List.getElem?_replicate,if_pos hil] at hi
    exact (Option.some.inj hi).symm
  subst hr
  refine⟨by simp,fun j c hj=>?_⟩
  rw[List.getElem?_map] at hj
  obtain⟨v,hv,rfl⟩:=Option.map_eq_some_iff.1 hj
  have hjl:j < z.cells.size:=by simpa using (List.getElem?_eq_some_iff.1 hv).1
  refine⟨v,?_,h1 v (List.mem_of_getElem? hv),by simp[VRel]⟩
  have hlt:i * z.cells.size + j < n * z.cells.size:=by
    have:(i + 1) * z.cells.size≤n * z.cells.size:=Nat.mul_le_mul_right _ (by omega)
    rw[Nat.succ_mul] at this; omega
  rw[zero_get hlt,Nat.mul_comm i,Nat.mul_add_mod,Nat.mod_eq_of_lt hjl]
  simpa using hv
theorem orel_rows {K:Cx} {T:TypeId} {arr:Array Value} {sz κ:Nat} {fz:Nat × Nat} {rows:List (List AV)} (hr:RowsArr K arr sz rows) (hs:arr.size=κ * sz) (hl:rows.length≤κ) (hf:∀ i,i < arr.size→¬ (fz.1≤i∧i < fz.2)) :
    ORel (K.allocOwn (.cells arr T fz) κ) (K.w.heap.size,0,κ) (.rows sz rows):=by
  refine⟨arr,T,fz,World.alloc_heap_new _ _,by simp[hs],hf,hl,fun i r hi=>⟨(hr i r hi).1,?_⟩⟩
  rw[Nat.zero_add]
  exact (hr i r hi).2.mono (step_allocOwn K _ κ).le
theorem osl_new {K:Cx} {o:Obj} {κ n sz:Nat} (hn:n≤κ):VRel (K.allocOwn o κ) (.osl K.c 0 n sz) (.slice (some ⟨K.w.heap.size,0,none⟩) n κ):=by
  simp only[VRel,allocOwn_ι,allocOwn_c]
  exact⟨Nat.lt_succ_self _,_,κ,rfl,by simp,hn,.inr (by simp)⟩
theorem fillR_rel {K:Cx} {sz n:Nat} (hp:0 < sz):∀ {vs:List (Nat × AV)} {xs:List (Nat × Value)} {rows rows':List (List AV)} {arr:Array Value},fillR sz rows vs=some rows'→vs.map (·.1)=xs.map (·.1)→VRels K (vs.map (·.2)) (xs.map (·.2))→RowsArr K arr sz rows→arr.size=n * sz→rows.length=n →
    ∃ arr',Instr.fill (fun i=>some (i * sz,sz)) arr xs=some arr'∧RowsArr K arr' sz rows'∧arr'.size=n * sz∧rows'.length=n
  | [],[],rows,rows',arr,h,_,_,hr,hs,hn=>by
    simp only[fillR,Option.some.injEq] at h
    subst h
    exact⟨arr,rfl,hr,hs,hn⟩
  | (i,v) :: vs,(j,x) :: xs,rows,rows',arr,h,hi,hv,hr,hs,hn=>by
    simp only[List.map_cons,List.cons.injEq] at hi
    obtain⟨rfl,hi⟩:=hi
    simp only[List.map_cons,VRels] at hv
    simp only[fillR] at h
    split at h
    · rename_i ds h2
      split at h
      · rename_i hc
        obtain⟨k1,k2⟩:=cellsOf_rel h2 hv.1
        have hl:ds.length=x.cells.size:=by simpa using k1.length
        have hfit:i * sz + x.cells.size≤arr.size:=by
          rw[hs]
          have:(i + 1) * sz≤n * sz:=Nat.mul_le_mul_right _ (by omega)
          rw[Nat.succ_mul] at this; omega
        have hset:=rowsArr_set hr hs (by omega) hc.2 k1 hc.1 k2
        obtain⟨arr',e1,e2⟩:=fillR_rel hp h hi hv.2 hset (by rw[layV_size (by simpa using hfit)]; exact hs) (by simpa using hn)
        refine⟨arr',?_,e2⟩
        have hcond:(decide (x.cells.size≠sz) || decide (i * sz + x.cells.size > arr.size))=false:=by
          simp only[Bool.or_eq_false_iff,decide_eq_false_iff_not]
          omega
        have hfold:(x.cells.zipIdx.foldl (fun cs (p:Value × Nat)=>cs.setIfInBounds (i * sz + p.2) p.1) arr)=layV arr (i * sz) x.cells.toList:=by
          rw[← Array.foldl_toList,Array.toList_zipIdx]
          have:=foldl_layV x.cells.toList 0 (i * sz) arr (by simpa using hfit)
          simpa using this
        simp only[Instr.fill]
        rw[hcond]
        simp only[Bool.false_eq_true,if_false]
        rw[hfold]
        exact e1
      · cases h
    · cases h
  | [],_ :: _,_,_,_,_,hi,_,_,_,_=>by simp at hi
  | _ :: _,[],_,_,_,_,hi,_,_,_,_=>by simp at hi
theorem run_buildSlice (ht:VRels K t a.tmps.toList) {ty e:TypeId} {len sz:Nat} {z:List AV} {ps:List (Nat × Operand)} {vs:List (Nat × AV)} {rows:List (List AV)} (he:elemT P ty=some e) (hs:sizeT P e=some sz) (hz:zeroT P e=some z)
    (hv:parts t ps=some vs) (hc:len * sz≤16777216∧0 < sz∧z.length=sz) (hf:fillR sz (List.replicate len z) vs=some rows) :
    ∃ arr,(Instr.buildSlice ty len (ps.map fun p=>(p.1,a.eval p.2)).toArray).run P K.w = .ok (.slice (some ⟨K.w.heap.size,0,none⟩) len len) (K.w.alloc (.cells arr e))∧RowsArr K arr sz rows∧arr.size=len * sz∧rows.length=len:=by
  obtain⟨zv,hrun,rfl,h1⟩:=zeroT_run hz
  obtain⟨g1,g2⟩:=parts_rel ht hv
  obtain⟨c1,c2,c3⟩:=hc
  have c3':zv.cells.size=sz:=by simpa using c3
  subst c3'
  have hz0:=zero_rows (K:=K) h1 (n:=len) (l:=len) (Nat.le_refl _)
  obtain⟨arr',e1,e2,e3,e4⟩:=fillR_rel (n:=len) c2 (xs:=ps.map fun p=>(p.1,a.eval p.2)) hf (by rw[g1]; simp) (by simpa[Function.comp_def] using g2) hz0 (by simp) (by simp)
  refine⟨arr',?_,e2,e3,e4⟩
  have hu:=elemT_eq he
  have hgt:¬ (len * zv.cells.size > 2 ^ 24):=by omega
  have hnil:∀ (n:Nat) (f:Nat→Value),n=0→(Array.range n).map f = #[]:=fun n f e0=>by subst e0; simp
  by_cases e0:len * zv.cells.size=0
  · rw[hnil _ _ e0] at e1
    simp only[Instr.buildSlice,Sem.run_bind,run_underlying hu,Result.andThen_ok,run_sizeT hs,if_neg hgt,Sem.run_pure,if_pos e0]
    rw[hnil _ _ e0,e1]
    simp only[newRow,Sem.run_bind,run_newObj_alloc,Result.andThen_ok,Sem.run_pure]
  · simp only[Instr.buildSlice,Sem.run_bind,run_underlying hu,Result.andThen_ok,run_sizeT hs,if_neg hgt,Sem.run_pure,if_neg e0,hrun,e1]
    simp only[newRow,Sem.run_bind,run_newObj_alloc,Result.andThen_ok,Sem.run_pure]
theorem good_buildSlice (H:HRel K base h) (ht:VRels K t a.tmps.toList) {o:Oper} {ty e:TypeId} {len sz:Nat} {z:List AV} {ps:Array (Nat × Operand)} {vs:List (Nat × AV)} {rows:List (List AV)} (ho:o.op = .buildSlice ty len ps) (he:elemT P ty=some e) (hs:sizeT P e=some sz) (hz:zeroT P e=some z)
    (hv:parts t ps.toList=some vs) (hc:len * sz≤16777216∧0 < sz∧z.length=sz) (hf:fillR sz (List.replicate len z) vs=some rows) :
    Good K base (h.upd (newRows K.c sz rows)) (K.c + 1) (.osl K.c 0 len sz) ((execOp a.eval o).run P K.w):=by
  obtain⟨arr,e1,e2,e3,e4⟩:=run_buildSlice (K:=K) ht he hs hz hv hc hf
  refine good_res (K':=K.allocOwn (.cells arr e) len) ?_ (step_allocOwn K _ _) (hrel_allocOwn H _ _ _ (orel_rows e2 e3 (by omega) (fun i _=>by omega))) rfl (osl_new (Nat.le_refl _))
  simp only[execOp,ho]
  apply run_v
  have hm:(ps.map fun p=>(p.1,a.eval p.2))=(ps.toList.map fun p=>(p.1,a.eval p.2)).toArray:=by apply Array.ext'; simp
  rw[← allocOwn_w K (.cells arr e) len] at e1
  rw[← hm] at e1
  exact e1
theorem good_makeSlice (H:HRel K base h) (ht:VRels K t a.tmps.toList) {o:Oper} {ty e:TypeId} {l c:Operand} {sz b:Nat} {z:List AV} {ln cp:Int} (ho:o.op = .makeSlice ty l c) (he:elemT P ty=some e) (hs:sizeT P e=some sz) (hb:bytesT P e=some b) (hz:zeroT P e=some z)
    (hl:(opnd t l).bind asInt? = some ln) (hcp:(opnd t c).bind asInt? = some cp) (hc:0≤ln∧ln≤cp∧cp≤9223372036854775807∧b * cp≤281474976710656∧0 < sz∧z.length=sz) :
    Good K base (h.upd (newRows K.c sz (List.replicate ln.toNat z))) (K.c + 1) (.osl K.c 0 ln.toNat sz) ((execOp a.eval o).run P K.w):=by
  obtain⟨zv,hrun,rfl,h1⟩:=zeroT_run hz
  obtain⟨c1,c2,c3,c4,c5,c6⟩:=hc
  have c6':zv.cells.size=sz:=by simpa using c6
  subst c6'
  obtain⟨q,q1,q2⟩:=Option.bind_eq_some_iff.1 hl
  obtain⟨k,hk⟩:=run_asInt (P:=P) (w:=K.w) q2 (opnd_rel ht q1)
  obtain⟨q',q1',q2'⟩:=Option.bind_eq_some_iff.1 hcp
  obtain⟨k',hk'⟩:=run_asInt (P:=P) (w:=K.w) q2' (opnd_rel ht q1')
  have hu:=elemT_eq he
  obtain⟨i,hi,rfl⟩:=Option.map_eq_some_iff.1 hb
  have hw1:IntKind.i64.wrap ln=ln:=IntWalk.i64_in _ (by omega)
  have hw2:IntKind.i64.wrap cp=cp:=IntWalk.i64_in _ (by omega)
  have hz0:=zero_rows (K:=K) h1 (n:=cp.toNat) (l:=ln.toNat) (by omega)
  refine good_res (K':=K.allocOwn (.cells ((Array.range (cp.toNat * zv.cells.size)).map (zv.cells[· % zv.cells.size]!)) e) cp.toNat) ?_ (step_allocOwn K _ _) (hrel_allocOwn H _ _ _ (orel_rows hz0 (by simp) (by rw[List.length_replicate]; omega) (fun i _=>by omega))) rfl (osl_new (κ:=cp.toNat) (by omega))
  simp only[execOp,ho]
  apply run_v
  have ht1:¬ (cp < 0∨(281474976710656:Int) < (i.bytes:Int) * cp):=by omega
  have hnil:∀ (n:Nat) (f:Nat→Value),n=0→(Array.range n).map f = #[]:=fun n f e0=>by subst e0; simp
  have hcond:((decide (cp < 0) || decide ((i.bytes:Int) * cp > 2 ^ 48)) || decide (ln < 0) || decide (ln > cp))=false:=by
    simp only[Bool.or_eq_false_iff,decide_eq_false_iff_not]
    omega
  by_cases e0:cp.toNat * zv.cells.size=0
  · simp only[allocOwn_w]
    rw[hnil _ _ e0]
    simp only[Instr.makeSlice,hk,hk',asInt,asIntOf,Sem.run_map,Sem.run_bind,run_underlying hu,Result.andThen_ok,Sem.run_pure,typeInfo,run_program,hi,hw1,hw2,hcond,Bool.false_eq_true,if_false,run_askRoom,run_sizeT hs,if_pos e0]
    rw[hnil _ _ e0]
    simp only[newRow,Sem.run_bind,run_newObj_alloc,Result.andThen_ok,Sem.run_pure]
  · simp only[Instr.makeSlice,hk,hk',asInt,asIntOf,Sem.run_map,Sem.run_bind,run_underlying hu,Result.andThen_ok,Sem.run_pure,typeInfo,run_program,hi,hw1,hw2,hcond,Bool.false_eq_true,if_false,run_askRoom,run_sizeT hs,if_neg e0,hrun]
    simp only[newRow,Sem.run_bind,run_newObj_alloc,Result.andThen_ok,Sem.run_pure]
    rfl
end
end Go.Vm
/- The abstract evaluator: operations, one by one: bytes and strings, append, literals that are never written. -/
namespace Go.Vm
open Go
section
variable {P:Program} {K:Cx} {base:Nat} {h:AHeap} {t:List AV} {a:Act}
theorem lies_flatten {K:Cx} {b sz:Nat}:∀ {rows:List (List AV)} {o:Nat},(∀ (i:Nat) (r:List AV),rows[i]? = some r→r.length=sz∧Lies K b (o + i * sz) r)→Lies K b o rows.flatten
  | [],o,_=>fun j c hj=>by simp at hj
  | r :: rs,o,h=>by
    obtain⟨h1,h2⟩:=h 0 r rfl
    have ih:=lies_flatten (rows:=rs) (o:=o + sz) (fun i q hq=>by
      obtain⟨k1,k2⟩:=h (i + 1) q (by simpa using hq)
      exact⟨k1,by rw[show o + sz + i * sz=o + (i + 1) * sz by rw[Nat.succ_mul]; omega]; exact k2⟩)
    intro j c hj
    rw[List.flatten_cons] at hj
    by_cases hlt:j < r.length
    · rw[List.getElem?_append_left hlt] at hj
      have:=h2 j c hj
      simpa using this
    · rw[List.getElem?_append_right (by omega)] at hj
      obtain⟨v,e1,e2⟩:=ih (j - r.length) c hj
      refine⟨v,?_,e2⟩
      rw[show o + j=o + sz + (j - r.length) by omega]
      exact e1
theorem flatten_length {sz:Nat}:∀ {rows:List (List AV)},(∀ (i:Nat) (r:List AV),rows[i]? = some r→r.length=sz)→rows.flatten.length=rows.length * sz
  | [],_=>by simp
  | r :: rs,h=>by
    have h1:=h 0 r rfl
    have h2:=flatten_length (rows:=rs) (fun i q hq=>h (i + 1) q (by simpa using hq))
    rw[List.flatten_cons,List.length_append,h1,h2,List.length_cons,Nat.succ_mul]
    omega
theorem rowsOf_slice (H:HRel K base h) {sz:Nat} {v:AV} {rows:List (List AV)} (hr:rowsOf h sz v=some rows) (hns:∀ b,v ≠ .s (.string b)) {x:Value} (hx:VRel K v x) :
    ∃ A c,x = .slice A rows.length c∧(rows=[]∨∃ b o,A=some ⟨b,o,none⟩∧∀ (i:Nat) (r:List AV),rows[i]? = some r→r.length=sz∧Lies K b (o + i * sz) r):=by
  unfold rowsOf at hr
  split at hr
  · cases hr
    simp only[VRel] at hx
    exact⟨none,0,hx,.inl rfl⟩
  · cases hr
    simp only[VRel] at hx
    obtain⟨A,e,_⟩:=hx
    exact⟨A,0,e,.inl rfl⟩
  · rename_i sz' rows'
    split at hr
    · rename_i hc
      cases hr
      simp only[VRel] at hx
      obtain⟨A,cap,e,_,_,h2⟩:=hx
      refine⟨A,cap,e,?_⟩
      rcases h2 with h2 | ⟨b,o,e2,h2⟩
      · exact .inl h2
      · rcases hc with rfl | hc
        · exact .inr ⟨b,o,e2,fun i r hi=>⟨(h2.row hi).1,(h2.row hi).2.lies⟩⟩
        · exact .inl hc
    · cases hr
  · rename_i id off len sz'
    split at hr
    · rename_i e
      subst e
      split at hr
      · rename_i sz'' rows' hid
        split at hr
        · rename_i hc
          obtain⟨rfl,hlen⟩:=hc
          cases hr
          simp only[VRel] at hx
          obtain⟨hlt,A,cap,e,h2,h3,h4⟩:=hx
          have hl:((rows'.drop off).take len).length=len:=by rw[List.length_take,List.length_drop]; omega
          refine⟨some A,cap,by rw[hl]; exact e,?_⟩
          by_cases h0:len=0
          · left; rw[h0]; rfl
          · right
            have h5:A=⟨(K.ι id).1,((K.ι id).2.1 + off) * sz'',none⟩:=by
              rcases h4 with h4 | h4
              · omega
              · exact h4
            refine⟨(K.ι id).1,((K.ι id).2.1 + off) * sz'',by rw[h5],fun i r hi=>?_⟩
            have hil:i < len:=by
              have:=(List.getElem?_eq_some_iff.1 hi).1
              omega
            rw[List.getElem?_take_of_lt hil,List.getElem?_drop] at hi
            have hrow:rowAt h id (off + i) sz'' = some r:=by simp only[rowAt,hid,if_true,hi]
            obtain⟨arr,T,fz,g1,g2,g3,g4,g5⟩:=H.obj id _ hid
            refine⟨(g5 _ r hi).1,?_⟩
            have:=rowAt_lies H hrow
            rw[← Nat.add_mul,Nat.add_assoc]
            exact this
        · cases hr
      · cases hr
    · cases hr
  · rename_i b
    exact absurd rfl (hns b)
  · cases hr
theorem src_rel (H:HRel K base h) {sz:Nat} {v:AV} {rows:List (List AV)} (hr:rowsOf h sz v=some rows) {x:Value} (hx:VRel K v x) :
    ∃ news:List Value,(∀ w,(Builtin.lenOf x).run P w = .ok rows.length w)∧(∀ w',w'.heap=K.w.heap→(Builtin.firstCells sz rows.length x).run P w' = .ok news.toArray w')∧news.length=rows.length * sz∧VRels K rows.flatten news∧(∀ u∈news,u.oneCell' = true) ∧
      ∀ (i:Nat) (r:List AV),rows[i]? = some r→r.length=sz:=by
  by_cases hs:∃ b,v = .s (.string b)
  · obtain⟨b,rfl⟩:=hs
    simp only[VRel] at hx
    subst hx
    simp only[rowsOf] at hr
    split at hr
    · rename_i e
      subst e
      cases hr
      refine⟨b.data.toList.map fun x=>.int .u8 x.toNat,fun w=>?_,fun w' hw=>?_,by simp,?_,fun u hu=>?_,fun i r hi=>?_⟩
      · simp[Builtin.lenOf]
      · simp only[Builtin.firstCells,Sem.run_pure,List.length_map]
        congr 1
        have:b.extract 0 b.data.toList.length=b:=by
          have hl:b.data.toList.length=b.size:=by simp
          rw[hl]
          apply ByteArray.ext
          simp[ByteArray.data_extract]
        rw[this]
        apply Array.ext'
        simp
      · have hm:∀ (l:List UInt8),VRels K (l.map fun x=>[AV.s (.int .u8 x.toNat)]).flatten (l.map fun x=>.int .u8 x.toNat):=by
          intro l
          induction l with
          | nil=>simp[VRels]
          | cons c l ih=>
            simp only[List.map_cons,List.flatten_cons,List.cons_append,List.nil_append,VRels,VRel]
            exact⟨trivial,ih⟩
        exact hm _
      · simp only[List.mem_map] at hu
        obtain⟨c,_,rfl⟩:=hu
        rfl
      · rw[List.getElem?_map] at hi
        obtain⟨c,_,rfl⟩:=Option.map_eq_some_iff.1 hi
        rfl
    · cases hr
  · obtain⟨A,c,rfl,h2⟩:=rowsOf_slice H hr (fun b e=>hs ⟨b,e⟩) hx
    rcases h2 with rfl | ⟨b,o,rfl,h2⟩
    · refine⟨[],fun w=>rfl,fun w' hw=>?_,by simp,by simp[VRels],fun u hu=>by simp at hu,fun i r hi=>by simp at hi⟩
      cases A <;> simp[Builtin.firstCells,loadCells,loadCellsFrom]
    · have hl:=lies_flatten h2
      obtain⟨vs,k1,k2,k3⟩:=hl.vals
      have hlen:vs.length=rows.length * sz:=by
        rw[← k1.length,flatten_length (fun i r hi=>(h2 i r hi).1)]
      refine⟨vs,fun w=>rfl,fun w' hw=>?_,hlen,k1,k3,fun i r hi=>(h2 i r hi).1⟩
      exact run_firstCells_some w' sz rows.length ⟨b,o,none⟩ rows.length c vs hlen (fun j u hj=>by
        rw[addr_add]
        exact cell_block (k2 j u hj) (by rw[hw]))
theorem bytesOf_rows:∀ {rows:List (List AV)} {bs:List UInt8},bytesOf rows=some bs→∃ ns:List Int,rows=ns.map (fun n=>[AV.s (.int .u8 n)])∧bs=ns.map fun n=>UInt8.ofNat n.toNat
  | [],bs,h=>by
    simp only[bytesOf,Option.some.injEq] at h
    subst h
    exact⟨[],rfl,rfl⟩
  | r :: rs,bs,h=>by
    unfold bytesOf at h
    split at h
    · rename_i e; cases e
    · rename_i n rest e
      cases e
      split at h
      · rename_i bs' h2
        cases h
        obtain⟨ns,e1,e2⟩:=bytesOf_rows h2
        exact⟨n :: ns,by rw[e1]; rfl,by rw[e2]; rfl⟩
      · cases h
    · cases h
theorem good_toStr (H:HRel K base h) (ht:VRels K t a.tmps.toList) {o:Oper} {src dst e:TypeId} {x:Operand} (ho:o.op = .convert src dst x) {v:AV} (hx:opnd t x=some v) (hns:∀ b,v ≠ .s (.string b)) (hs:P.underlying src=some (.slice e)) (he:P.underlying e=some (.int .u8)) (hd:P.underlying dst=some .string)
    {bs:List UInt8} (hb:(rowsOf h 1 v).bind bytesOf=some bs):Good K base h (K.c + 1) (.s (.string ⟨bs.toArray⟩)) ((execOp a.eval o).run P K.w):=by
  obtain⟨rows,h1,h2⟩:=Option.bind_eq_some_iff.1 hb
  obtain⟨A,c,e1,h3⟩:=rowsOf_slice H h1 hns (opnd_rel ht hx)
  obtain⟨ns,rfl,rfl⟩:=bytesOf_rows h2
  refine good_succ H (x:=.string (strOfNums ns)) ?_ (by simp[VRel,strOfNums])
  simp only[execOp,ho,e1]
  apply run_v
  rcases h3 with h3 | ⟨b,p,rfl,h3⟩
  · have h4:ns=[]:=by simpa using h3
    subst h4
    cases A with
    | none=>
      have:=run_convert_bytes_nil (P:=P) K.w src e hs he 0 c dst hd
      have hE:ByteArray.empty=(⟨#[]⟩:ByteArray):=rfl
      rw[hE] at this
      simpa[strOfNums] using this
    | some A=>
      rw[run_convert_bytes_string K.w src dst e _ _ _ hs he hd]
      have:=run_bytesToString (P:=P) K.w A 0 c [] (by simp[loadCells,loadCellsFrom])
      have hE:ByteArray.empty=(⟨#[]⟩:ByteArray):=rfl
      rw[hE] at this
      simpa[strOfNums] using this
  · have hl:(ns.map fun n=>[AV.s (.int .u8 n)]).length=ns.length:=by simp
    rw[hl]
    refine run_convert_bytes_arg K.w src e hs he b p ns.length c ns rfl (fun i hi=>?_) dst hd
    have hg:(ns.map fun n=>[AV.s (.int .u8 n)])[i]? = some [AV.s (.int .u8 ns[i])]:=by simp[hi]
    obtain⟨_,h5⟩:=h3 i _ hg
    obtain⟨u,k1,k2,k3⟩:=h5 0 _ rfl
    simp only[VRel] at k3
    rw[k3] at k1
    simp only[Nat.mul_one,Nat.add_zero] at k1
    rw[k1]
    simp[hi]
theorem freeze_alloc (w:World) (arr:Array Value) (T:TypeId):(w.alloc (.cells arr T)).freeze ⟨w.heap.size,arr.size,none⟩ 1=w.alloc (.cells arr T (arr.size,arr.size + 1)):=by
  unfold World.freeze
  simp only[Nat.one_ne_zero,if_false]
  simp only[World.alloc]
  congr 1
  apply Array.ext_getElem?
  intro i
  rw[Array.getElem?_modify,Array.getElem?_push,Array.getElem?_push]
  by_cases e:w.heap.size=i
  · rw[if_pos e,if_pos e.symm,if_pos e.symm]
    simp
  · rw[if_neg e,if_neg (Ne.symm e),if_neg (Ne.symm e)]
theorem good_toBytes (H:HRel K base h) (ht:VRels K t a.tmps.toList) {o:Oper} {src dst e:TypeId} {x:Operand} (ho:o.op = .convert src dst x) {b:ByteArray} (hx:opnd t x=some (.s (.string b))) {sd:TypeDesc} (hs:P.underlying src=some sd) (hd:P.underlying dst=some (.slice e)) (he:P.underlying e=some (.int .u8))
    {i:TypeInfo} (hi:P.info? e=some i) (hc:i.size=1∧b.size≤9223372036854775807) :
    Good K base (h.upd (newRows K.c 1 (b.data.toList.map fun x=>[AV.s (.int .u8 x.toNat)]))) (K.c + 1) (.osl K.c 0 b.size 1) ((execOp a.eval o).run P K.w):=by
  have hr:=opnd_rel ht hx
  simp only[VRel] at hr
  have hge:=grownCap_ge K.w b.size 0 e
  generalize hcap:grownCap K.w b.size 0 e=cap at hge
  let arr:Array Value:=(b.data.map fun b=>Value.int .u8 b.toNat) ++ Array.replicate (cap - b.size) (.int .u8 0)
  have hbs:b.data.size=b.size:=rfl
  have hsz:arr.size=cap:=by simp[arr,hbs]; omega
  let K1:Cx:={ K with w:=K.w.drew }
  have S1:K.Step K1:=step_same K K.w.drew K.c (Nat.le_refl _) rfl rfl rfl rfl
  have H1:HRel K1 base h:=hrel_same H K.w.drew K.c (Nat.le_refl _) rfl rfl rfl rfl
  have hrows:RowsArr K1 arr 1 (b.data.toList.map fun x=>[AV.s (.int .u8 x.toNat)]):=by
    intro k r hk
    rw[List.getElem?_map] at hk
    obtain⟨c,hc',rfl⟩:=Option.map_eq_some_iff.1 hk
    refine⟨rfl,fun j d hj=>?_⟩
    cases j with
    | succ j=>simp at hj
    | zero=>
      simp at hj
      subst hj
      refine⟨.int .u8 c.toNat,?_,rfl,by simp[VRel]⟩
      have hkl:k < b.data.size:=by simpa using (List.getElem?_eq_some_iff.1 hc').1
      have:(b.data.map fun b=>Value.int .u8 b.toNat)[k]? = some (.int .u8 c.toNat):=by
        rw[Array.getElem?_map]
        have:b.data[k]? = some c:=by simpa using hc'
        rw[this]; rfl
      simp only[Nat.mul_one,Nat.add_zero,arr]
      rw[Array.getElem?_append_left (by simpa using hkl)]
      exact this
  refine good_res (K':=K1.allocOwn (.cells arr e (arr.size,arr.size + 1)) cap) (x:=.slice (some ⟨K.w.heap.size,0,none⟩) b.size cap) ?_ (S1.trans (step_allocOwn K1 _ _)) (hrel_allocOwn H1 _ _ _ (orel_rows hrows (by omega) (by simp[hbs]; omega) (fun i hi=>by simp; omega))) rfl (osl_new (K:=K1) hge)
  simp only[execOp,ho,hr]
  apply run_v
  have hf:(Question.appendCap b.size 0 e).forced=false:=rfl
  have hsh:(K.w.drew.alloc (.cells arr e)).shape? K.w.heap.size=some (e,arr.size):=by
    simp only[World.shape?]
    have:=World.alloc_heap_new K.w.drew (.cells arr e)
    rw[show K.w.drew.heap.size=K.w.heap.size from rfl] at this
    rw[this]
  have hcv:(convert src dst (.string b)).run P K.w=(Conv.stringToBytes e b).run P K.w:=by
    cases sd <;> simp[convert,run_underlying hs,run_underlying hd,run_underlying he]
  have hfz:=freeze_alloc K.w.drew arr e
  rw[show K.w.drew.heap.size=K.w.heap.size from rfl] at hfz
  rw[hcv]
  unfold Conv.stringToBytes
  simp only[Sem.run_bind,run_choose,hf,Bool.false_eq_true,if_false,Result.andThen_ok]
  have hcap':(Question.appendCap b.size 0 e).cut (K.w.tape K.w.drawn (.appendCap b.size 0 e))=cap:=hcap
  rw[hcap']
  simp only[newRow,Sem.run_bind,run_newObj_alloc,Result.andThen_ok,Sem.run_pure,markStringish,run_shape]
  have hsh':(World.alloc { K.w with drawn:=K.w.drawn + 1 } (.cells arr e)).shape? K.w.heap.size=some (e,arr.size):=hsh
  rw[hsh']
  simp only[run_freeze,Result.andThen_ok]
  have hfz':(World.alloc { K.w with drawn:=K.w.drawn + 1 } (.cells arr e)).freeze ⟨K.w.heap.size,arr.size,none⟩ 1=K.w.drew.alloc (.cells arr e (arr.size,arr.size + 1)):=hfz
  rw[hfz']
  rfl
end
end Go.Vm
/- The abstract evaluator: append. -/
namespace Go.Vm
open Go
section
variable {P:Program} {K:Cx} {base:Nat} {h:AHeap} {t:List AV} {a:Act}
def RowsAt (K:Cx) (arr:Array Value) (q sz:Nat) (rows:List (List AV)):Prop:=∀ (i:Nat) (r:List AV),rows[i]? = some r→r.length=sz∧CellsRel K arr ((q + i) * sz) r
theorem flatten_get {sz:Nat}:∀ {rows:List (List AV)},(∀ (i:Nat) (r:List AV),rows[i]? = some r→r.length=sz)→∀ {i j:Nat} {r:List AV} {c:AV},rows[i]? = some r→r[j]? = some c→rows.flatten[i * sz + j]? = some c
  | [],_,i,j,r,c,hi,_=>by simp at hi
  | q :: qs,h,0,j,r,c,hi,hj=>by
    simp at hi
    subst hi
    rw[List.flatten_cons,Nat.zero_mul,Nat.zero_add,List.getElem?_append_left (List.getElem?_eq_some_iff.1 hj).1]
    exact hj
  | q :: qs,h,i + 1,j,r,c,hi,hj=>by
    simp at hi
    have h0:=h 0 q rfl
    have ih:=flatten_get (rows:=qs) (fun k r hk=>h (k + 1) r (by simpa using hk)) hi hj
    rw[List.flatten_cons,List.getElem?_append_right (by rw[h0,Nat.succ_mul]; omega),h0,show (i + 1) * sz + j - sz=i * sz + j by rw[Nat.succ_mul]; omega]
    exact ih
theorem rowsAt_lay {K:Cx} {arr:Array Value} {q sz:Nat} {R N:List (List AV)} {vs:List Value} {m:Nat} (hR:RowsAt K arr q sz R) (hm:m≤R.length) (hN:∀ (i:Nat) (r:List AV),N[i]? = some r→r.length=sz) (hv:VRels K N.flatten vs) (h1:∀ v∈vs,v.oneCell' = true)
    (hl:vs.length=N.length * sz) (hfit:(q + m) * sz + vs.length≤arr.size):RowsAt K (layV arr ((q + m) * sz) vs) q sz (R.take m ++ N ++ R.drop (m + N.length)):=by
  have htl:(R.take m).length=m:=by simp; omega
  intro i r hi
  rw[List.append_assoc] at hi
  by_cases g1:i < m
  · rw[List.getElem?_append_left (by omega),List.getElem?_take_of_lt g1] at hi
    obtain⟨k1,k2⟩:=hR i r hi
    refine⟨k1,fun j c hj=>?_⟩
    obtain⟨v,e1,e2⟩:=k2 j c hj
    have hjl:j < sz:=by rw[← k1]; exact (List.getElem?_eq_some_iff.1 hj).1
    have:(q + i + 1) * sz≤(q + m) * sz:=Nat.mul_le_mul_right sz (by omega)
    rw[Nat.succ_mul] at this
    exact⟨v,by rw[layV_get hfit,if_pos (by omega)]; exact e1,e2⟩
  · rw[List.getElem?_append_right (by omega),htl] at hi
    by_cases g2:i - m < N.length
    · rw[List.getElem?_append_left g2] at hi
      have k1:=hN _ r hi
      refine⟨k1,fun j c hj=>?_⟩
      have hjl:j < sz:=by rw[← k1]; exact (List.getElem?_eq_some_iff.1 hj).1
      obtain⟨v,e1,e2⟩:=hv.get (flatten_get hN hi hj)
      have hx:(q + i) * sz=(q + m) * sz + (i - m) * sz:=by rw[← Nat.add_mul]; congr 1; omega
      have hlt:(i - m) * sz + j < vs.length:=(List.getElem?_eq_some_iff.1 e1).1
      refine⟨v,?_,h1 v (List.mem_of_getElem? e1),e2⟩
      rw[layV_get hfit,if_neg (by omega),if_pos (by omega),show (q + i) * sz + j - (q + m) * sz=(i - m) * sz + j by omega]
      exact e1
    · rw[List.getElem?_append_right (by omega),List.getElem?_drop,show m + N.length + (i - m - N.length)=i by omega] at hi
      obtain⟨k1,k2⟩:=hR i r hi
      refine⟨k1,fun j c hj=>?_⟩
      obtain⟨v,e1,e2⟩:=k2 j c hj
      have:(q + m + N.length) * sz≤(q + i) * sz:=Nat.mul_le_mul_right sz (by omega)
      rw[Nat.add_mul (q + m)] at this
      exact⟨v,by rw[layV_get hfit,if_neg (by omega),if_neg (by omega)]; exact e1,e2⟩
theorem rowsAt_new {K:Cx} {olds news:List Value} {z:Array Value} {sz:Nat} {R N:List (List AV)} (hR:∀ (i:Nat) (r:List AV),R[i]? = some r→r.length=sz) (hvR:VRels K R.flatten olds) (h1R:∀ v∈olds,v.oneCell' = true) (hlR:olds.length=R.length * sz)
    (hN:∀ (i:Nat) (r:List AV),N[i]? = some r→r.length=sz) (hvN:VRels K N.flatten news) (h1N:∀ v∈news,v.oneCell' = true) (hlN:news.length=N.length * sz) :
    RowsArr K (olds.toArray ++ news.toArray ++ z) sz (R ++ N):=by
  have hall:∀ (i:Nat) (r:List AV),(R ++ N)[i]? = some r→r.length=sz:=fun i r hi=>by
    by_cases g:i < R.length
    · rw[List.getElem?_append_left g] at hi; exact hR i r hi
    · rw[List.getElem?_append_right (by omega)] at hi; exact hN _ r hi
  have hv:VRels K (R ++ N).flatten (olds ++ news):=by rw[List.flatten_append]; exact hvR.append hvN
  intro i r hi
  refine⟨hall i r hi,fun j c hj=>?_⟩
  obtain⟨v,e1,e2⟩:=hv.get (flatten_get hall hi hj)
  refine⟨v,?_,?_,e2⟩
  · have hlt:=(List.getElem?_eq_some_iff.1 e1).1
    rw[Array.getElem?_append_left (by simpa using hlt)]
    rw[← e1]
    simp
  · rcases List.mem_append.1 (List.mem_of_getElem? e1) with hm | hm
    · exact h1R v hm
    · exact h1N v hm
section
variable {tx ty' e:TypeId} {sz n:Nat} {x:Value} {news:List Value}
theorem isInt_false {d:TypeDesc} (hk:∀ k,d ≠ .int k):(match d with | .int _=>true | _=>false)=false:=by
  cases d <;> first | rfl | exact absurd rfl (hk _)
theorem run_append_in {w w':World} {ats:Array TypeId} {ty:TypeId} (ha:ats.toList=[tx,ty']) (hu:P.underlying tx=some (.slice e)) (hs:sizeT P e=some sz) {d:TypeDesc} (hd:P.underlying ty' = some d) (hk:∀ k,d ≠ .int k)
    (hn:∀ w,(Builtin.lenOf x).run P w = .ok n w) (hc:(Builtin.firstCells sz n x).run P w = .ok news.toArray w) {A:Addr} {l c:Nat} (hlc:l + n≤c) (hst:(storeCells (A.add (l * sz)) news).run P w = .ok () w') :
    (Builtin.append_ ats ty #[.slice (some A) l c,x]).run P w = .ok (.slice (some A) (l + n) c) w':=by
  have ha':ats = #[tx,ty']:=by apply Array.ext'; rw[ha]
  subst ha'
  unfold Builtin.append_
  simp only[List.getElem?_toArray,List.getElem?_cons_zero,List.getElem?_cons_succ,Sem.run_bind,run_underlying hu,run_underlying hd,Result.andThen_ok,run_sizeT hs,Sem.run_pure,isInt_false hk,Bool.false_eq_true,if_false,hn,if_pos hlc,Bool.not_false,if_true,hc,hst]
theorem run_append_none {w:World} {ats:Array TypeId} {ty:TypeId} (ha:ats.toList=[tx,ty']) (hu:P.underlying tx=some (.slice e)) (hs:sizeT P e=some sz) {d:TypeDesc} (hd:P.underlying ty' = some d) (hk:∀ k,d ≠ .int k)
    (hn:∀ w,(Builtin.lenOf x).run P w = .ok 0 w) (hc:(Builtin.firstCells sz 0 x).run P w = .ok #[] w) {A:Option Addr} {l c:Nat} (hlc:l≤c) :
    (Builtin.append_ ats ty #[.slice A l c,x]).run P w = .ok (.slice A l c) w:=by
  have ha':ats = #[tx,ty']:=by apply Array.ext'; rw[ha]
  subst ha'
  unfold Builtin.append_
  simp only[List.getElem?_toArray,List.getElem?_cons_zero,List.getElem?_cons_succ,Sem.run_bind,run_underlying hu,run_underlying hd,Result.andThen_ok,run_sizeT hs,Sem.run_pure,isInt_false hk,Bool.false_eq_true,if_false,hn,Nat.add_zero,if_pos hlc,Bool.not_false,if_true,hc]
  cases A with
  | none=>rfl
  | some A=>simp only[storeCells,Sem.run_pure,Sem.run_bind,Result.andThen_ok]
theorem run_append_new {w:World} {ats:Array TypeId} {ty:TypeId} (ha:ats.toList=[tx,ty']) (hu:P.underlying tx=some (.slice e)) (hs:sizeT P e=some sz) {i:TypeInfo} (hi:P.info? e=some i) {z:Value} (hz:∀ w,(zeroValue e).run P w = .ok z w) {d:TypeDesc} (hd:P.underlying ty' = some d) (hk:∀ k,d ≠ .int k)
    (hn:∀ w,(Builtin.lenOf x).run P w = .ok n w) (hc:(Builtin.firstCells sz n x).run P w.drew = .ok news.toArray w.drew) {A:Option Addr} {l c:Nat} (hlc:¬ (l + n≤c)) {olds:List Value} (ho:(Builtin.firstCells sz l (.slice A l c)).run P w.drew = .ok olds.toArray w.drew)
    (h63:l + n≤9223372036854775807) (h48:Builtin.nextslicecap (l + n) c * i.bytes≤281474976710656) :
    (Builtin.append_ ats ty #[.slice A l c,x]).run P w = .ok (.slice (some ⟨w.heap.size,0,none⟩) (l + n) (grownCap w (l + n) c e)) (w.drew.alloc (.cells (olds.toArray ++ news.toArray ++ Builtin.zeroCells z.cells (grownCap w (l + n) c e - (l + n))) e)):=by
  have ha':ats = #[tx,ty']:=by apply Array.ext'; rw[ha]
  subst ha'
  have c1:¬ (((l + n:Nat):Int) > IntKind.i64.max∧(false=true∨i.bytes=0)):=by
    rintro⟨h,_⟩
    have:IntKind.i64.max=9223372036854775807:=rfl
    omega
  have c1':¬ (((l + n:Nat):Int) > IntKind.i64.max∧(False∨i.bytes=0)):=by
    rintro⟨h,_⟩
    have:IntKind.i64.max=9223372036854775807:=rfl
    omega
  have c2:¬ (Builtin.nextslicecap (l + n) c * i.bytes > 2 ^ 48):=by omega
  have hf:(Question.appendCap (l + n) c e).forced=false:=rfl
  have hcap:(Question.appendCap (l + n) c e).cut (w.tape w.drawn (.appendCap (l + n) c e))=grownCap w (l + n) c e:=rfl
  have hw:({ w with drawn:=w.drawn + 1 }:World)=w.drew:=rfl
  unfold Builtin.append_
  simp only[List.getElem?_toArray,List.getElem?_cons_zero,List.getElem?_cons_succ,Sem.run_bind,run_underlying hu,run_underlying hd,Result.andThen_ok,run_sizeT hs,Sem.run_pure,isInt_false hk,Bool.false_eq_true,if_false,hn,if_neg hlc,Bool.not_false,if_true,
    typeInfo,run_program,hi,if_neg c1',if_neg c2,run_choose,hf,hcap,hw,run_askRoom,hc,ho,hz,newRow,run_newObj_alloc]
  rfl
end
theorem old_rel (H:HRel K base h) {id off len sz:Nat} {rows:List (List AV)} (hid:h id=some (.rows sz rows)) (hle:off + len≤rows.length) {A:Addr} {cap:Nat} (hA:A=⟨(K.ι id).1,((K.ι id).2.1 + off) * sz,none⟩∨len=0) :
    ∃ olds:List Value,(∀ w',w'.heap=K.w.heap→(Builtin.firstCells sz len (.slice (some A) len cap)).run P w' = .ok olds.toArray w')∧olds.length=len * sz∧VRels K ((rows.drop off).take len).flatten olds∧(∀ u∈olds,u.oneCell' = true) ∧
      ∀ (i:Nat) (r:List AV),((rows.drop off).take len)[i]? = some r→r.length=sz:=by
  obtain⟨arr,T,fz,g1,g2,g3,g4,g5⟩:=H.obj id _ hid
  have hrow:∀ (i:Nat) (r:List AV),((rows.drop off).take len)[i]? = some r→r.length=sz∧Lies K (K.ι id).1 (((K.ι id).2.1 + off) * sz + i * sz) r:=by
    intro i r hi
    have hil:i < len:=by
      have:=(List.getElem?_eq_some_iff.1 hi).1
      rw[List.length_take] at this; omega
    rw[List.getElem?_take_of_lt hil,List.getElem?_drop] at hi
    have hra:rowAt h id (off + i) sz=some r:=by simp only[rowAt,hid,if_true,hi]
    refine⟨(g5 _ r hi).1,?_⟩
    rw[← Nat.add_mul,Nat.add_assoc]
    exact rowAt_lies H hra
  have hll:((rows.drop off).take len).length=len:=by rw[List.length_take,List.length_drop]; omega
  obtain⟨vs,k1,k2,k3⟩:=(lies_flatten hrow).vals
  have hlen:vs.length=len * sz:=by
    rw[← k1.length,flatten_length (fun i r hi=>(hrow i r hi).1),hll]
  refine⟨vs,fun w' hw=>?_,hlen,k1,k3,fun i r hi=>(hrow i r hi).1⟩
  rcases hA with rfl | rfl
  · exact run_firstCells_some w' sz len _ len cap vs hlen (fun j u hj=>by
      rw[addr_add]
      exact cell_block (k2 j u hj) (by rw[hw]))
  · have:vs=[]:=List.eq_nil_of_length_eq_zero (by omega)
    subst this
    simp[Builtin.firstCells,loadCells,loadCellsFrom]
theorem good_append (H:HRel K base h) (ht:VRels K t a.tmps.toList) {o:Oper} {x y:Operand} {args:Array Operand} {ats:Array TypeId} {tx ty e:TypeId} {d:TypeDesc} (ho:o.op = .call { callee:=.builtin .append,args:=args,argTypes:=ats }) (ha:args.toList=[x,y]) (hat:ats.toList=[tx,ty])
    {u v r:AV} {us:Ups} (hx:opnd t x=some u) (hyv:VRel K v (a.eval y)) (hu:P.underlying tx=some (.slice e)) (hd:P.underlying ty=some d) (hk:∀ k,d ≠ .int k) (hr:appendOf P h K.c e u v=some (r,us)) :
    Good K base (h.upd us) (K.c + 1) r ((execOp a.eval o).run P K.w):=by
  have ha':args = #[x,y]:=by apply Array.ext'; rw[ha]
  have hex:∀ {v':Value} {w':World},(Builtin.append_ ats o.type #[a.eval x,a.eval y]).run P K.w = .ok v' w'→(execOp a.eval o).run P K.w = .ok (.value v') w':=fun {v' w'} he=>by
    simp only[execOp,ho,ha',resolve,List.map_toArray,List.map_cons,List.map_nil,Sem.run_bind,Sem.run_pure,Result.andThen_ok,invoke,builtin,he]
  unfold appendOf at hr
  simp only[Option.bind_eq_bind,Option.bind_eq_some_iff] at hr
  obtain⟨sz,hsz,b,hb,news,hnews,zs,hzs,hr⟩:=hr
  obtain⟨z,hzrun,rfl,hz1⟩:=zeroT_run hzs
  obtain⟨i,hi,rfl⟩:=Option.map_eq_some_iff.1 hb
  obtain⟨nv,n1,n2,n3,n4,n5,n6⟩:=src_rel (P:=P) H hnews hyv
  have hux:=opnd_rel ht hx
  split at hr
  · cases hr
  rename_i hsz0
  have hzsz:z.cells.size=sz:=by
    have:¬ ((z.cells.toList.map AV.s).length≠sz):=fun hx=>hsz0 (.inr hx)
    simpa using this
  split at hr
  · rename_i hne
    subst hne
    have hnv:nv=[]:=List.eq_nil_of_length_eq_zero (by simpa using n3)
    subst hnv
    have key:∀ (A:Option Addr) (l c:Nat),l≤c→a.eval x = .slice A l c→VRel K r (.slice A l c)→us=[]→Good K base (h.upd us) (K.c + 1) r ((execOp a.eval o).run P K.w):=by
      intro A l c hlc hs hv hus
      subst hus
      refine good_succ H (hex ?_) hv
      rw[hs]
      exact run_append_none hat hu hsz hd hk (fun w=>n1 w) (n2 K.w rfl) hlc
    split at hr
    · cases hr
      have hux':=hux
      simp only[VRel] at hux
      exact key none 0 0 (Nat.le_refl _) hux (by simp[VRel]) rfl
    · cases hr
      have hux':=hux
      simp only[VRel] at hux
      obtain⟨A,hA⟩:=hux
      exact key A 0 0 (Nat.le_refl _) hA.1 (by rw[← hA.1]; exact hux') rfl
    · cases hr
      have hux':=hux
      simp only[VRel] at hux
      obtain⟨hlt,A,cap,hA,_,h3,_⟩:=hux
      exact key (some A) _ cap h3 hA (by rw[← hA]; exact hux') rfl
    · cases hr
  · rename_i hne
    have hpos:0 < news.length:=by
      cases news with
      | nil=>exact absurd rfl hne
      | cons=>simp
    have hdrew:K.w.drew.heap=K.w.heap:=rfl
    let K1:Cx:={ K with w:=K.w.drew }
    have S1:K.Step K1:=step_same K K.w.drew K.c (Nat.le_refl _) rfl rfl rfl rfl
    have H1:HRel K1 base h:=hrel_same H K.w.drew K.c (Nat.le_refl _) rfl rfl rfl rfl
    -- a new row, out of nothing
    have fresh:∀ (A:Option Addr),a.eval x = .slice A 0 0→(if news.length * i.bytes≤140737488355328∧news.length≤9223372036854775807 then some (AV.osl K.c 0 news.length sz,newRows K.c sz news) else none)=some (r,us)→Good K base (h.upd us) (K.c + 1) r ((execOp a.eval o).run P K.w):=by
      intro A hA hr
      split at hr
      case isFalse=>cases hr
      rename_i hc
      cases hr
      have hcap:=grownCap_ge K.w (0 + news.length) 0 e
      have hold:(Builtin.firstCells sz 0 (.slice A 0 0)).run P K.w.drew = .ok ([]:List Value).toArray K.w.drew:=by
        cases A <;> simp[Builtin.firstCells,loadCells,loadCellsFrom]
      have hrun:=run_append_new (ty:=o.type) (w:=K.w) (A:=A) (l:=0) (c:=0) hat hu hsz hi hzrun hd hk n1 (n2 K.w.drew hdrew) (by omega) hold (by omega) (by rw[Nat.zero_add,nextslicecap_zero hpos]; omega)
      rw[Nat.zero_add] at hrun hcap
      have hR:=rowsAt_new (K:=K1) (sz:=sz) (R:=[]) (N:=news) (olds:=[]) (news:=nv) (z:=Builtin.zeroCells z.cells (grownCap K.w news.length 0 e - news.length)) (fun i r hi=>by simp at hi) (by simp[VRels]) (fun v hv=>by simp at hv) (by simp) n6 (n4.mono S1.le) n5 n3
      rw[List.nil_append] at hR
      refine good_res (K':=K1.allocOwn (.cells (([]:List Value).toArray ++ nv.toArray ++ Builtin.zeroCells z.cells (grownCap K.w news.length 0 e - news.length)) e) (grownCap K.w news.length 0 e)) (hex (by rw[hA]; exact hrun)) (S1.trans (step_allocOwn K1 _ _)) (hrel_allocOwn H1 _ _ _ (orel_rows hR ?_ hcap (fun i _=>by omega))) rfl (osl_new (K:=K1) hcap)
      simp only[Array.size_append,List.size_toArray,List.length_nil,size_zeroCells,hzsz,n3,Nat.zero_add]
      rw[← Nat.add_mul]
      congr 1
      omega
    split at hr
    · simp only[VRel] at hux
      exact fresh none hux hr
    · simp only[VRel] at hux
      obtain⟨A,hA⟩:=hux
      exact fresh A hA.1 hr
    · rename_i id off len sz'
      simp only[VRel] at hux
      obtain⟨hlt,A,cap,hA,h2,h3,h4⟩:=hux
      split at hr
      case h_2=>cases hr
      rename_i sz'' rows hid
      split at hr
      case isFalse=>cases hr
      rename_i hc
      obtain⟨e1,e2,hle⟩:=hc
      subst e1
      subst e2
      obtain⟨arr,T,fz,g1,g2,g3,g4,g5⟩:=H.obj id _ hid
      -- the row is written behind its end
      have inplace:len + news.length≤cap→A=⟨(K.ι id).1,((K.ι id).2.1 + off) * sz'',none⟩→(K.ι id).2.1 * sz'' + (off + len + news.length) * sz''≤arr.size ∧
          (Builtin.append_ ats o.type #[a.eval x,a.eval y]).run P K.w = .ok (.slice (some A) (len + news.length) cap) (setBlk K.w (K.ι id).1 (.cells (layV arr (((K.ι id).2.1 + off + len) * sz'') nv) T fz)):=by
        intro hroom hAe
        have hb1:((K.ι id).2.1 + off + len) * sz'' + nv.length≤arr.size:=by
          rw[g2,n3,← Nat.add_mul]
          exact Nat.mul_le_mul_right _ (by omega)
        refine⟨?_,?_⟩
        · rw[← Nat.add_mul,g2]
          exact Nat.mul_le_mul_right _ (by omega)
        · rw[hA]
          refine run_append_in hat hu hsz hd hk n1 (n2 K.w rfl) hroom ?_
          rw[hAe,addr_add,← Nat.add_mul]
          have:=run_storeCells_blk (P:=P) nv 0 (((K.ι id).2.1 + off + len) * sz'') arr K.w g1 g3 (by simpa using hb1) n5
          simpa using this
      split at hr
      · rename_i hfit
        cases hr
        have hAe:A=⟨(K.ι id).1,((K.ι id).2.1 + off) * sz'',none⟩:=by
          rcases h4 with h4 | h4
          · omega
          · exact h4
        obtain⟨hb0,hrun⟩:=inplace (by omega) hAe
        have hb1:((K.ι id).2.1 + (off + len)) * sz'' + nv.length≤arr.size:=by
          rw[g2,n3,← Nat.add_mul]
          exact Nat.mul_le_mul_right _ (by omega)
        have hR:=rowsAt_lay (K:=K) (R:=rows) (N:=news) (q:=(K.ι id).2.1) (m:=off + len) g5 hle n6 n4 n5 n3 hb1
        have S2:K.Step (K.setB (K.ι id).1 (.cells (layV arr (((K.ι id).2.1 + (off + len)) * sz'') nv) T fz)):=step_setB (H.L id _ hid) g1 (fun R e=>by cases e)
        have hO:ORel (K.setB (K.ι id).1 (.cells (layV arr (((K.ι id).2.1 + (off + len)) * sz'') nv) T fz)) (K.ι id) (.rows sz'' (rows.take (off + len) ++ news ++ rows.drop (off + len + news.length))):=by
          refine⟨_,T,fz,setBlk_same g1,by rw[layV_size hb1,g2],by rw[layV_size hb1]; exact g3,?_,fun k r hkr=>⟨(hR k r hkr).1,(hR k r hkr).2.mono S2.le⟩⟩
          simp only[List.length_append,List.length_take,List.length_drop]; omega
        have H2:=hrel_setB H hid g1 (fun R e=>by cases e) _ hO
        have S3:=step_same (K.setB (K.ι id).1 (.cells (layV arr (((K.ι id).2.1 + (off + len)) * sz'') nv) T fz)) (K.setB (K.ι id).1 (.cells (layV arr (((K.ι id).2.1 + (off + len)) * sz'') nv) T fz)).w (K.c + 1) (Nat.le_succ _) rfl rfl rfl rfl
        have H3:=hrel_same H2 (K.setB (K.ι id).1 (.cells (layV arr (((K.ι id).2.1 + (off + len)) * sz'') nv) T fz)).w (K.c + 1) (Nat.le_succ _) rfl rfl rfl rfl
        rw[Nat.add_assoc] at hrun
        refine good_res (hex hrun) (S2.trans S3) H3 rfl ?_
        simp only[VRel]
        exact⟨Nat.lt_succ_of_lt hlt,A,cap,rfl,h2,by omega,.inr hAe⟩
      · split at hr
        case isFalse=>cases hr
        rename_i hnf hc
        cases hr
        by_cases hroom:len + news.length≤cap
        · -- in place, under a new number
          have hAe:A=⟨(K.ι id).1,((K.ι id).2.1 + off) * sz'',none⟩:=by
            rcases h4 with h4 | h4
            · omega
            · exact h4
          obtain⟨hb0,hrun⟩:=inplace hroom hAe
          have hb1:((K.ι id).2.1 + off + len) * sz'' + nv.length≤arr.size:=by
            rw[g2,n3,← Nat.add_mul]
            exact Nat.mul_le_mul_right _ (by omega)
          have hll:((rows.drop off).take len).length=len:=by rw[List.length_take,List.length_drop]; omega
          have hR0:RowsAt K arr ((K.ι id).2.1 + off) sz'' ((rows.drop off).take len):=fun i r hi=>by
            have hil:i < len:=by
              have:=(List.getElem?_eq_some_iff.1 hi).1
              omega
            rw[List.getElem?_take_of_lt hil,List.getElem?_drop] at hi
            rw[Nat.add_assoc]
            exact g5 _ r hi
          have hR:=rowsAt_lay (K:=K) (N:=news) (q:=(K.ι id).2.1 + off) (m:=len) hR0 (by omega) n6 n4 n5 n3 hb1
          rw[show List.take len ((rows.drop off).take len)=(rows.drop off).take len from List.take_of_length_le (by omega),show List.drop (len + news.length) ((rows.drop off).take len)=[] from List.drop_of_length_le (by omega),List.append_nil] at hR
          let K2:Cx:={ w:=setBlk K.w (K.ι id).1 (.cells (layV arr (((K.ι id).2.1 + off + len) * sz'') nv) T fz),ι:=fun j=>if j=K.c then ((K.ι id).1,(K.ι id).2.1 + off,cap) else K.ι j,L:=K.L,X:=K.X,c:=K.c + 1 }
          have SB:=step_setB (K:=K) (b:=(K.ι id).1) (o:=.cells (layV arr (((K.ι id).2.1 + off + len) * sz'') nv) T fz) (H.L id _ hid) g1 (fun R e=>by cases e)
          have S2:K.Step K2:=⟨Nat.le_succ _,fun j hj=>by simp[K2,Nat.ne_of_lt hj],SB.os,SB.tape,SB.output,SB.size,SB.keep,rfl,SB.loops⟩
          have hιc:K2.ι K.c=((K.ι id).1,(K.ι id).2.1 + off,cap):=by simp[K2]
          have hO:ORel K2 (K2.ι K.c) (.rows sz'' ((rows.drop off).take len ++ news)):=by
            rw[hιc]
            refine⟨_,T,fz,setBlk_same g1,?_,by rw[layV_size hb1]; exact g3,by rw[List.length_append,hll]; exact hroom,fun k r hkr=>⟨(hR k r hkr).1,(hR k r hkr).2.mono S2.le⟩⟩
            rw[layV_size hb1,g2]
            show _=((K.ι id).2.1 + off + cap) * sz''
            rw[Nat.add_assoc,h2]
          have hdr:∀ j p,(h.put id none) j=some p→j≠id∧h j=some p:=fun j p hj=>by
            by_cases e:j=id
            · subst e; rw[AHeap.put_same] at hj; cases hj
            · rw[AHeap.put_other h e] at hj; exact⟨e,hj⟩
          have H2:HRel K2 base ((h.put id none).put K.c (some (.rows sz'' ((rows.drop off).take len ++ news)))):=by
            refine (H.drop id).putN S2 K.c _ (fun b hb hne=>⟨setBlk_other (fun e=>hne _ rfl (by rw[hιc]; exact e)),hb⟩) (fun b hb=>?_) (fun p hp=>by cases hp; exact hid_rows) (fun p hp=>?_)
            · have:=H.bs b hb
              simpa[K2] using this
            · cases hp
              refine⟨Nat.lt_succ_self _,by rw[hιc]; exact H.L id _ hid,hO,fun j q hj hq=>?_⟩
              obtain⟨d1,d2⟩:=hdr j q hq
              rw[hιc]
              exact H.apart hid j q d1 d2
          refine good_res (K':=K2) (hex hrun) S2 H2 rfl ?_
          simp only[VRel]
          rw[hιc]
          exact⟨Nat.lt_succ_self _,A,cap,rfl,Nat.zero_add _,hroom,.inr (by rw[hAe]; rfl)⟩
        · -- a new block
          have hAe:A=⟨(K.ι id).1,((K.ι id).2.1 + off) * sz'',none⟩∨len=0:=by
            rcases h4 with h4 | h4
            · right; omega
            · exact .inl h4
          obtain⟨olds,o1,o2,o3,o4,o5⟩:=old_rel (P:=P) H hid hle hAe (cap:=cap)
          have hll:((rows.drop off).take len).length=len:=by rw[List.length_take,List.length_drop]; omega
          have hcap:=grownCap_ge K.w (len + news.length) cap e
          have hrun:=run_append_new (ty:=o.type) (w:=K.w) (A:=some A) (l:=len) (c:=cap) hat hu hsz hi hzrun hd hk n1 (n2 K.w.drew hdrew) hroom (o1 K.w.drew hdrew) hc.2 (growslice_fits (by omega) hc.1)
          rw[← hA] at hrun
          have hR:=rowsAt_new (K:=K1) (sz:=sz'') (N:=news) (news:=nv) (z:=Builtin.zeroCells z.cells (grownCap K.w (len + news.length) cap e - (len + news.length))) o5 (o3.mono S1.le) o4 (by rw[o2,hll]) n6 (n4.mono S1.le) n5 n3
          refine good_res (K':=K1.allocOwn (.cells (olds.toArray ++ nv.toArray ++ Builtin.zeroCells z.cells (grownCap K.w (len + news.length) cap e - (len + news.length))) e) (grownCap K.w (len + news.length) cap e)) (hex hrun) (S1.trans (step_allocOwn K1 _ _)) (hrel_allocOwn (H1.drop id) _ _ _ (orel_rows hR ?_ (by rw[List.length_append,hll]; exact hcap) (fun i _=>by omega))) rfl (osl_new (K:=K1) hcap)
          simp only[Array.size_append,List.size_toArray,size_zeroCells,hzsz,n3,o2]
          rw[← Nat.add_mul,← Nat.add_mul]
          congr 1
          omega
    · cases hr
theorem zc_list (z:Array Value):∀ n,(Builtin.zeroCells z n).toList=(List.replicate n z.toList).flatten
  | 0=>by simp[Builtin.zeroCells]
  | n + 1=>by
    have ih:=zc_list z n
    rw[List.replicate_succ,List.flatten_cons,← ih]
    simp only[Builtin.zeroCells,Array.toList_map,Array.toList_range]
    rw[Nat.succ_mul,Nat.add_comm,List.range_add,List.map_append,List.map_map]
    congr 1
    · apply List.ext_getElem?
      intro i
      rcases Nat.lt_or_ge i z.size with hi | hi
      · simp[hi,Nat.mod_eq_of_lt hi]
      · simp[hi]
    · refine List.map_congr_left fun i _=>?_
      simp
theorem vrels_s:∀ l:List Value,VRels K (l.map .s) l
  | []=>by simp[VRels]
  | v :: l=>by simp only[List.map_cons,VRels]; exact⟨by simp[VRel],vrels_s l⟩
theorem good_clear (H:HRel K base h) (ht:VRels K t a.tmps.toList) {o:Oper} {x:Operand} {args:Array Operand} {ats:Array TypeId} {tx e:TypeId} (ho:o.op = .call { callee:=.builtin .clear,args:=args,argTypes:=ats }) (ha:args.toList=[x]) (hat:ats.toList=[tx])
    {u v:AV} {us:Ups} (hx:opnd t x=some u) (hu:P.underlying tx=some (.slice e)) (hr:clearOf P h e u=some (v,us)) :
    Good K base (h.upd us) K.c v ((execOp a.eval o).run P K.w):=by
  have ha':args = #[x]:=by apply Array.ext'; rw[ha]
  have hat':ats = #[tx]:=by apply Array.ext'; rw[hat]
  have hex:∀ {v':Value} {w':World},(Builtin.clear_ ats o.type #[a.eval x]).run P K.w = .ok v' w'→(execOp a.eval o).run P K.w = .ok (.value v') w':=fun {v' w'} he=>by
    simp only[execOp,ho,ha',resolve,List.map_toArray,List.map_cons,List.map_nil,Sem.run_bind,Sem.run_pure,Result.andThen_ok,invoke,builtin,he]
  have hux:=opnd_rel ht hx
  unfold clearOf at hr
  split at hr
  case h_2=>cases hr
  rename_i sz zs hsz hzs
  obtain⟨z,hzrun,rfl,hz1⟩:=zeroT_run hzs
  split at hr
  · cases hr
  rename_i hsz0
  have hzsz:z.cells.size=sz:=by
    have:¬ ((z.cells.toList.map AV.s).length≠sz):=fun hx=>hsz0 (.inr hx)
    simpa using this
  have triv:∀ (A:Option Addr) (c:Nat),a.eval x = .slice A 0 c→(Builtin.clear_ ats o.type #[a.eval x]).run P K.w = .ok (.tuple #[]) K.w:=fun A c hs=>by
    subst hat'
    unfold Builtin.clear_
    rw[hs]
    cases A <;> simp[Sem.run_bind,run_underlying hu]
  split at hr
  · cases hr
    simp only[VRel] at hux
    exact good_pure H (hex (triv none 0 hux)) (by simp[VRel])
  · cases hr
    simp only[VRel] at hux
    obtain⟨A,hA⟩:=hux
    exact good_pure H (hex (triv _ _ hA.1)) (by simp[VRel])
  · rename_i id off len sz'
    simp only[VRel] at hux
    obtain⟨hlt,A,cap,hA,h2,h3,h4⟩:=hux
    split at hr
    case h_2=>cases hr
    rename_i sz'' rows hid
    split at hr
    case isFalse=>cases hr
    rename_i hc
    obtain⟨e1,e2,hle⟩:=hc
    subst e1
    subst e2
    cases hr
    by_cases hl0:len=0
    · subst hl0
      have hrow:rows.take off ++ List.replicate 0 (z.cells.toList.map AV.s) ++ rows.drop (off + 0)=rows:=by simp
      have hh:h.upd [(id,some (AObj.rows sz'' (rows.take off ++ List.replicate 0 (z.cells.toList.map AV.s) ++ rows.drop (off + 0))))]=h:=by
        rw[hrow]
        funext j
        simp only[AHeap.upd,AHeap.put]
        split
        · rename_i e; rw[e,hid]
        · rfl
      rw[hh]
      exact good_pure H (hex (triv _ _ hA)) (by simp[VRel])
    · obtain⟨arr,T,fz,g1,g2,g3,g4,g5⟩:=H.obj id _ hid
      have hAe:A=⟨(K.ι id).1,((K.ι id).2.1 + off) * sz'',none⟩:=h4.resolve_left (by omega)
      have hvs:=zc_list z.cells len
      have hlen:(Builtin.zeroCells z.cells len).toList.length=len * sz'':=by rw[Array.length_toList,size_zeroCells,hzsz]
      have hN:∀ (i:Nat) (r:List AV),(List.replicate len (z.cells.toList.map AV.s))[i]? = some r→r.length=sz'':=fun i r hi=>by
        have:=List.mem_of_getElem? hi
        rw[List.mem_replicate] at this
        rw[this.2]; simpa using hzsz
      have hv:VRels K (List.replicate len (z.cells.toList.map AV.s)).flatten (Builtin.zeroCells z.cells len).toList:=by
        have:(List.replicate len (z.cells.toList.map AV.s)).flatten=((List.replicate len z.cells.toList).flatten).map AV.s:=by
          rw[List.map_flatten,List.map_replicate]
        rw[this,hvs]
        exact vrels_s _
      have h1c:∀ v∈(Builtin.zeroCells z.cells len).toList,v.oneCell' = true:=fun v hv=>by
        rw[hvs] at hv
        obtain⟨l,hl,hv⟩:=List.mem_flatten.1 hv
        rw[List.mem_replicate] at hl
        exact hz1 v (hl.2 ▸ hv)
      generalize (Builtin.zeroCells z.cells len).toList=zv at hlen hv h1c hvs
      have hb1:((K.ι id).2.1 + off) * sz'' + zv.length≤arr.size:=by
        rw[g2,hlen,← Nat.add_mul]
        exact Nat.mul_le_mul_right _ (by omega)
      have hrun:(Builtin.clear_ ats o.type #[a.eval x]).run P K.w = .ok (.tuple #[]) (setBlk K.w (K.ι id).1 (.cells (layV arr (((K.ι id).2.1 + off) * sz'') zv) T fz)):=by
        have hst:=run_storeCells_blk (P:=P) zv 0 (((K.ι id).2.1 + off) * sz'') arr K.w g1 g3 (by simpa using hb1) h1c
        rw[Nat.add_zero] at hst
        subst hat'
        unfold Builtin.clear_
        rw[hA,hAe]
        obtain⟨l,rfl⟩:∃ l,len=l + 1:=⟨len - 1,by omega⟩
        have hzc:(Builtin.zeroCells z.cells (l + 1)).toList=zv:=(zc_list _ _).trans hvs.symm
        simp only[List.getElem?_toArray,List.getElem?_cons_zero,Sem.run_bind,run_underlying hu,Result.andThen_ok,hzrun,hzc,hst,Sem.run_pure]
      have hR:=rowsAt_lay (K:=K) (R:=rows) (N:=List.replicate len (z.cells.toList.map AV.s)) (q:=(K.ι id).2.1) (m:=off) g5 (by omega) hN hv h1c (by rw[hlen,List.length_replicate]) hb1
      rw[List.length_replicate] at hR
      have S2:K.Step (K.setB (K.ι id).1 (.cells (layV arr (((K.ι id).2.1 + off) * sz'') zv) T fz)):=step_setB (H.L id _ hid) g1 (fun R e=>by cases e)
      have hO:ORel (K.setB (K.ι id).1 (.cells (layV arr (((K.ι id).2.1 + off) * sz'') zv) T fz)) (K.ι id) (.rows sz'' (rows.take off ++ List.replicate len (z.cells.toList.map AV.s) ++ rows.drop (off + len))):=by
        refine⟨_,T,fz,setBlk_same g1,by rw[layV_size hb1,g2],by rw[layV_size hb1]; exact g3,?_,fun k r hkr=>⟨(hR k r hkr).1,(hR k r hkr).2.mono S2.le⟩⟩
        simp only[List.length_append,List.length_take,List.length_drop,List.length_replicate]; omega
      have H2:=hrel_setB H hid g1 (fun R e=>by cases e) _ hO
      exact good_res (hex hrun) S2 H2 rfl (by simp[VRel])
  · cases hr
theorem run_append_int {tx ty' e:TypeId} {sz:Nat} {w:World} {ats:Array TypeId} {ty:TypeId} (ha:ats.toList=[tx,ty']) (hu:P.underlying tx=some (.slice e)) (hs:sizeT P e=some sz) {i:TypeInfo} (hi:P.info? e=some i) {z:Value} (hz:∀ w,(zeroValue e).run P w = .ok z w) {kk k:IntKind} (hd:P.underlying ty' = some (.int kk))
    {n:Nat} (h1:1≤n) (h63:n≤9223372036854775807) (hsz:sz≠0) (h48:n * i.bytes≤140737488355328) :
    (Builtin.append_ ats ty #[.slice none 0 0,.int k n]).run P w = .ok (.slice (some ⟨w.heap.size,0,none⟩) n (grownCap w n 0 e)) (w.drew.alloc (.cells (#[] ++ Builtin.zeroCells z.cells n ++ Builtin.zeroCells z.cells (grownCap w n 0 e - n)) e)):=by
  have ha':ats = #[tx,ty']:=by apply Array.ext'; rw[ha]
  subst ha'
  have hwrap:IntKind.i64.wrap (n:Int)=(n:Int):=by
    exact IntWalk.i64_in (n:Int) ⟨by omega,by omega⟩
  have hm:IntKind.i64.max=9223372036854775807:=rfl
  have c0:¬ ((n:Int) < 0):=by omega
  have c0':¬ ((n:Int) * (i.bytes:Int) > 2 ^ 48):=by
    have:(n:Int) * (i.bytes:Int)=((n * i.bytes:Nat):Int):=by push_cast; rfl
    omega
  have c1:¬ (((n:Nat):Int) > IntKind.i64.max∧(True∨i.bytes=0)):=fun q=>by
    have:=q.1
    rw[hm] at this
    omega
  have c5:¬ (((n:Nat):Int) > IntKind.i64.max∧True):=fun q=>by
    have:=q.1
    rw[hm] at this
    omega
  have c3:¬ (n≤0):=by omega
  have hnc:Builtin.nextslicecap n 0=n:=nextslicecap_zero (by omega)
  have c2:¬ (Builtin.nextslicecap n 0 * i.bytes > 2 ^ 48):=by rw[hnc]; omega
  have c4:¬ (n * sz=0):=by
    intro q
    rcases Nat.mul_eq_zero.1 q with q | q
    · omega
    · exact hsz q
  have hf:(Question.appendCap n 0 e).forced=false:=rfl
  have hcap:(Question.appendCap n 0 e).cut (w.tape w.drawn (.appendCap n 0 e))=grownCap w n 0 e:=rfl
  have hw:({ w with drawn:=w.drawn + 1 }:World)=w.drew:=rfl
  unfold Builtin.append_
  simp only[List.getElem?_toArray,List.getElem?_cons_zero,List.getElem?_cons_succ,Sem.run_bind,run_underlying hu,run_underlying hd,Result.andThen_ok,run_sizeT hs,Sem.run_pure,if_true,asInt,asIntOf,hwrap,if_neg c0,typeInfo,run_program,hi,if_neg c0',Int.toNat_natCast,Nat.zero_add,if_neg c3,Bool.not_true,Bool.false_eq_true,if_false,if_neg c1,true_or,if_neg c5,if_neg c2,run_choose,hf,hcap,hw,run_askRoom,if_neg c4,hz,Builtin.firstCells,newRow,run_newObj_alloc]
  rfl
theorem good_grow (H:HRel K base h) (ht:VRels K t a.tmps.toList) {o:Oper} {x y:Operand} {args:Array Operand} {ats:Array TypeId} {tx ty e:TypeId} {kk k:IntKind} {m:Int} (ho:o.op = .call { callee:=.builtin .append,args:=args,argTypes:=ats }) (ha:args.toList=[x,y]) (hat:ats.toList=[tx,ty])
    {r:AV} {us:Ups} (hx:opnd t x=some (.s (.slice none 0 0))) (hy:opnd t y=some (.s (.int k m))) (hu:P.underlying tx=some (.slice e)) (hd:P.underlying ty=some (.int kk)) (hr:growOf P K.c e m=some (r,us)) :
    Good K base (h.upd us) (K.c + 1) r ((execOp a.eval o).run P K.w):=by
  have ha':args = #[x,y]:=by apply Array.ext'; rw[ha]
  have hex:∀ {v':Value} {w':World},(Builtin.append_ ats o.type #[a.eval x,a.eval y]).run P K.w = .ok v' w'→(execOp a.eval o).run P K.w = .ok (.value v') w':=fun {v' w'} he=>by
    simp only[execOp,ho,ha',resolve,List.map_toArray,List.map_cons,List.map_nil,Sem.run_bind,Sem.run_pure,Result.andThen_ok,invoke,builtin,he]
  have hux:=opnd_rel ht hx
  have huy:=opnd_rel ht hy
  simp only[VRel] at hux huy
  unfold growOf at hr
  split at hr
  case h_2=>cases hr
  rename_i sz b zs hsz hb hzs
  obtain⟨z,hzrun,rfl,hz1⟩:=zeroT_run hzs
  obtain⟨i,hi,rfl⟩:=Option.map_eq_some_iff.1 hb
  split at hr
  · cases hr
  rename_i hc
  have hsz0:sz≠0:=fun q=>hc (.inl q)
  have hzsz:z.cells.size=sz:=by
    have:¬ ((z.cells.toList.map AV.s).length≠sz):=fun q=>hc (.inr (.inl q))
    simpa using this
  have hm:1≤m∧m≤9223372036854775807∧m.toNat * i.bytes≤140737488355328:=Classical.not_not.1 fun q=>hc (.inr (.inr q))
  cases hr
  obtain⟨n,rfl⟩:∃ n:Nat,m=n:=⟨m.toNat,by omega⟩
  simp only[Int.toNat_natCast] at hm ⊢
  have hrun:=run_append_int (P:=P) (ty:=o.type) (w:=K.w) (k:=k) hat hu hsz hi hzrun hd (n:=n) (by omega) (by omega) hsz0 hm.2.2
  let K1:Cx:={ K with w:=K.w.drew }
  have S1:K.Step K1:=step_same K K.w.drew K.c (Nat.le_refl _) rfl rfl rfl rfl
  have H1:HRel K1 base h:=hrel_same H K.w.drew K.c (Nat.le_refl _) rfl rfl rfl rfl
  have hN:∀ (j:Nat) (r:List AV),(List.replicate n (z.cells.toList.map AV.s))[j]? = some r→r.length=sz:=fun j r hj=>by
    have:=List.mem_of_getElem? hj
    rw[List.mem_replicate] at this
    rw[this.2]; simpa using hzsz
  have hvs:=zc_list z.cells n
  have hlen:(Builtin.zeroCells z.cells n).toList.length=n * sz:=by rw[Array.length_toList,size_zeroCells,hzsz]
  have hv:VRels K1 (List.replicate n (z.cells.toList.map AV.s)).flatten (Builtin.zeroCells z.cells n).toList:=by
    have:(List.replicate n (z.cells.toList.map AV.s)).flatten=((List.replicate n z.cells.toList).flatten).map AV.s:=by
      rw[List.map_flatten,List.map_replicate]
    rw[this,hvs]
    exact vrels_s _
  have h1c:∀ v∈(Builtin.zeroCells z.cells n).toList,v.oneCell' = true:=fun v hv=>by
    rw[hvs] at hv
    obtain⟨l,hl,hv⟩:=List.mem_flatten.1 hv
    rw[List.mem_replicate] at hl
    exact hz1 v (hl.2 ▸ hv)
  have hcap:=grownCap_ge K.w n 0 e
  have hR:=rowsAt_new (K:=K1) (sz:=sz) (R:=[]) (N:=List.replicate n (z.cells.toList.map AV.s)) (olds:=[]) (news:=(Builtin.zeroCells z.cells n).toList) (z:=Builtin.zeroCells z.cells (grownCap K.w n 0 e - n)) (fun i r hi=>by simp at hi) (by simp[VRels]) (fun v hv=>by simp at hv) (by simp) hN hv h1c (by rw[hlen,List.length_replicate])
  rw[List.nil_append,Array.toArray_toList] at hR
  have hosl:=osl_new (K:=K1) (sz:=sz) (n:=n) (o:=.cells (#[] ++ Builtin.zeroCells z.cells n ++ Builtin.zeroCells z.cells (grownCap K.w n 0 e - n)) e) hcap
  refine good_res (K':=K1.allocOwn (.cells (#[] ++ Builtin.zeroCells z.cells n ++ Builtin.zeroCells z.cells (grownCap K.w n 0 e - n)) e) (grownCap K.w n 0 e)) (hex (by rw[hux,huy]; exact hrun)) (S1.trans (step_allocOwn K1 _ _)) (hrel_allocOwn H1 _ _ _ (orel_rows hR ?_ (by rw[List.length_replicate]; exact hcap) (fun i _=>by omega))) rfl hosl
  simp only[Array.size_append,List.size_toArray,List.length_nil,Array.size_empty,size_zeroCells,hzsz,Nat.zero_add]
  rw[← Nat.add_mul]
  congr 1
  omega
end
end Go.Vm
/- The abstract evaluator: maps. -/
namespace Go.Vm
open Go Go.MapKept
section
variable {P:Program} {K:Cx} {base:Nat} {h:AHeap} {t:List AV} {a:Act}
theorem run_u {P:Program} {w w':World} {s:Sem Unit} (h:s.run P w = .ok () w'):(do s; pure Next.skip:Sem Next).run P w = .ok .skip w':=by
  rw[Sem.run_bind,h]; rfl
def MRel (K:Cx) (es:List (Value × AV)) (ms:Array MapEntry):Prop:=ms.size=es.length∧∀ (i:Nat) (e:Value × AV),es[i]? = some e→∃ v,ms[i]? = some ⟨e.1,v,i⟩∧VRel K e.2 v
theorem MRel.mono {K K':Cx} (h:K.Le K') {es:List (Value × AV)} {ms:Array MapEntry} (hm:MRel K es ms):MRel K' es ms:=
  ⟨hm.1,fun i e hi=>by obtain⟨v,h1,h2⟩:=hm.2 i e hi; exact⟨v,h1,h2.mono h⟩⟩
theorem findA_run {kd:TypeDesc} {k:Value}:∀ {es:List (Value × AV)} {ms:List MapEntry} {i:Nat} {r:Option (Nat × AV)},findA kd k es i=some r→ms.length=es.length →
    (∀ (j:Nat) (e:Value × AV),es[j]? = some e→∃ v,ms[j]? = some ⟨e.1,v,i + j⟩∧VRel K e.2 v) →
    (r=none∧Instr.findNow kd k ms i=some none)∨∃ j x v,r=some (i + j,x)∧Instr.findNow kd k ms i=some (some (i + j,v))∧VRel K x v∧∃ k',es[j]? = some (k',x)∧ms[j]? = some ⟨k',v,i + j⟩∧Instr.sameNow kd k k' = some true
  | [],[],i,r,h,_,_=>by
    simp only[findA,Option.some.injEq] at h
    subst h
    exact .inl ⟨rfl,rfl⟩
  | e :: es,m :: ms,i,r,h,hl,hr=>by
    obtain⟨v,h1,h2⟩:=hr 0 e rfl
    simp only[List.getElem?_cons_zero,Option.some.injEq,Nat.add_zero] at h1
    subst h1
    simp only[findA] at h
    simp only[Instr.findNow]
    split at h
    · rename_i hs
      cases h
      rw[hs]
      exact .inr ⟨0,e.2,v,rfl,rfl,h2,e.1,rfl,rfl,hs⟩
    · rename_i hs
      rw[hs]
      rcases findA_run h (by simpa using hl) (fun j d hj=>by
        obtain⟨u,g1,g2⟩:=hr (j + 1) d (by simpa using hj)
        exact⟨u,by simpa[Nat.add_assoc,Nat.add_comm 1 j] using g1,g2⟩) with ⟨h3,h4⟩ | ⟨j,x,u,h3,h4,h5,k',h6,h7,h8⟩
      · exact .inl ⟨h3,h4⟩
      · refine .inr ⟨j + 1,x,u,?_,?_,h5,k',by simpa using h6,by simpa[Nat.add_assoc,Nat.add_comm 1 j] using h7,h8⟩
        · rw[h3,Nat.add_assoc,Nat.add_comm 1 j]
        · rw[h4,Nat.add_assoc,Nat.add_comm 1 j]
    · cases h
  | [],_ :: _,_,_,_,hl,_=>by simp at hl
  | _ :: _,[],_,_,_,hl,_=>by simp at hl
theorem keyOk_is {kt:TypeId} {k:Value} (h:keyOk P kt k=true):∃ kd,P.underlying kt=some kd∧IsKey kd k:=by
  unfold keyOk at h
  split at h
  · rename_i q q' n e
    exact⟨_,e,by have:=of_decide_eq_true h; simp[IsKey,this]⟩
  · rename_i e
    exact⟨_,e,trivial⟩
  · cases h
theorem sameNow_eq {kd:TypeDesc} {k k':Value} (hk:IsKey kd k) (h:Instr.sameNow kd k k' = some true):k=k':=by
  unfold Instr.sameNow at h
  split at h
  · split at h
    · rename_i e
      simp only[Option.some.injEq,beq_iff_eq] at h
      rw[e,h]
    · cases h
  · simp only[Option.some.injEq] at h
    rw[(bytes_beq _ _).1 h]
  · simp only[Option.some.injEq,beq_iff_eq] at h
    rw[h]
  · cases h
theorem seekA_run {kt:TypeId} {k:Value} {es:List (Value × AV)} {ms:Array MapEntry} {r:Option (Nat × AV)} (hs:seekA P kt k es=some r) (hm:MRel K es ms) (e:Bool) (w:World) :
    (Instr.checkKey e 10000 kt k).run P w = .ok () w∧((r=none∧(Instr.findKey kt k ms.toList).run P w = .ok none w)∨∃ i x v,r=some (i,x)∧(Instr.findKey kt k ms.toList).run P w = .ok (some (i,v)) w∧VRel K x v∧es[i]? = some (k,x)∧ms[i]? = some ⟨k,v,i⟩∧Instr.sameBits 10000 k k=true):=by
  unfold seekA at hs
  split at hs
  · rename_i hk
    obtain⟨kd,h1,h2⟩:=keyOk_is hk
    rw[h1] at hs
    simp only[Option.bind_some] at hs
    refine⟨run_checkKey h1 h2 e 9999,?_⟩
    rcases findA_run (K:=K) (ms:=ms.toList) hs (by simpa using hm.1) (fun j d hj=>by
      obtain⟨v,g1,g2⟩:=hm.2 j d hj
      exact⟨v,by rw[Nat.zero_add]; simpa using g1,g2⟩) with ⟨h3,h4⟩ | ⟨j,x,v,h3,h4,h5,k',h6,h7,h8⟩
    · exact .inl ⟨h3,run_findKey h1 h4⟩
    · rw[Nat.zero_add] at h3 h4 h7
      obtain rfl:=sameNow_eq h2 h8
      refine .inr ⟨j,x,v,h3,run_findKey h1 h4,h5,h6,by simpa using h7,?_⟩
      cases kd <;> cases k <;> simp_all [IsKey,Instr.sameBits,bytes_beq]
  · cases hs
theorem zero1_run {e:TypeId} {z:AV} (hz:zero1 P e=some z):∃ x,z = .s x∧x.oneCell' = true∧∀ w,(zeroValue e).run P w = .ok x w:=by
  unfold zero1 at hz
  cases hi:P.info? e with
  | none=>rw[hi] at hz; cases hz
  | some i=>
    rw[hi] at hz
    simp only[Option.bind_some] at hz
    cases hzz:i.zero with
    | none=>rw[hzz] at hz; cases hz
    | some x=>
      rw[hzz] at hz
      simp only at hz
      split at hz
      · rename_i h1
        cases hz
        exact⟨x,rfl,h1,fun w=>by simp[zeroValue,typeInfo,hi,hzz]⟩
      · cases hz
theorem good_makeMap (H:HRel K base h) {o:Oper} {ty:TypeId} (ho:o.op = .makeMap ty none) :
    Good K base (h.upd [(K.c,some (.map []))]) (K.c + 1) (.mp K.c) ((execOp a.eval o).run P K.w):=by
  refine⟨K.allocOwn (.map #[] 0) 0,.map (some K.w.heap.size),.inl ?_,step_allocOwn K _ 0,hrel_allocOwn H _ 0 _ ⟨#[],?_,rfl,fun i e hi=>by simp at hi⟩,rfl,?_⟩
  · simp only[execOp,ho]
    apply run_v
    simp only[Option.map_none,Instr.makeMap,Sem.run_bind,run_newObj_alloc,Result.andThen_ok,Sem.run_pure]
    rfl
  · show (K.w.heap.push _)[K.w.heap.size]? = _; simp
  · simp only[VRel,allocOwn_ι,allocOwn_c]
    exact⟨Nat.lt_succ_self _,trivial⟩
theorem map_block (H:HRel K base h) {id:Nat} {es:List (Value × AV)} (hid:h id=some (.map es)):∃ ms,K.w.heap[(K.ι id).1]? = some (.map ms es.length)∧MRel K es ms:=by
  obtain⟨ms,h1,h2,h3⟩:=H.obj id _ hid
  exact⟨ms,h1,h2,h3⟩
theorem good_lookup (H:HRel K base h) (ht:VRels K t a.tmps.toList) {o:Oper} {xt:TypeId} {x k:Operand} {ok:Bool} (ho:o.op = .lookup xt x k ok) {kt et:TypeId} (hu:P.underlying xt=some (.map kt et)) {es:List (Value × AV)} (hx:(opnd t x).bind (mapOf h)=some es)
    {kv:Value} (hk:(opnd t k).bind toVal=some kv) {v:AV} (hv:lookA P et ok (seekA P kt kv es)=some v):Good K base h K.c v ((execOp a.eval o).run P K.w):=by
  obtain⟨ku,hk1,hk2⟩:=Option.bind_eq_some_iff.1 hk
  have ek:a.eval k=kv:=toVal_rel hk2 (opnd_rel ht hk1)
  obtain⟨u,hx1,hx2⟩:=Option.bind_eq_some_iff.1 hx
  have hxr:=opnd_rel ht hx1
  have hcase:∃ ms:Array MapEntry,MRel K es ms∧((a.eval x = .map none∧ms = #[])∨∃ b n,a.eval x = .map (some b)∧K.w.heap[b]? = some (.map ms n)):=by
    unfold mapOf at hx2
    split at hx2
    · rename_i id
      split at hx2
      · rename_i es' hid
        cases hx2
        obtain⟨ms,h1,h2⟩:=map_block H hid
        simp only[VRel] at hxr
        exact⟨ms,h2,.inr ⟨_,_,hxr.2,h1⟩⟩
      · cases hx2
    · rename_i es'
      cases hx2
      simp only[VRel] at hxr
      obtain⟨b,ms,e1,_,h1,h2,h3⟩:=hxr
      refine⟨ms,⟨by simpa using h2,fun i e hi=>?_⟩,.inr ⟨b,_,e1,h1⟩⟩
      rw[List.getElem?_map] at hi
      obtain⟨q,hq,rfl⟩:=Option.map_eq_some_iff.1 hi
      exact⟨q.2,h3 i q hq,ofVal_rel K q.2⟩
    · cases hx2
      simp only[VRel] at hxr
      exact⟨#[],⟨rfl,fun i e hi=>by simp at hi⟩,.inl ⟨hxr,rfl⟩⟩
    · cases hx2
  obtain⟨ms,hmm,hes⟩:=hcase
  have fin:∀ (y:Value),(Instr.lookup xt (a.eval x) (a.eval k) ok).run P K.w = .ok y K.w→VRel K v y→Good K base h K.c v ((execOp a.eval o).run P K.w):=fun y hy hr=>by
    refine good_pure H (x:=y) ?_ hr
    simp only[execOp,ho]
    exact run_v hy
  cases hs:seekA P kt kv es with
  | none=>rw[hs] at hv; cases hv
  | some r=>
    obtain⟨c1,c2⟩:=seekA_run (K:=K) hs hmm ms.isEmpty K.w
    rw[hs] at hv
    rcases c2 with ⟨rfl,c3⟩ | ⟨i,x',v',rfl,c3,c4,_⟩
    · simp only[lookA] at hv
      obtain⟨z,hz,hvz⟩:=Option.map_eq_some_iff.1 hv
      obtain⟨zx,rfl,_,hzr⟩:=zero1_run hz
      refine fin (if ok then .tuple #[zx,.bool false] else zx) ?_ ?_
      · unfold Instr.lookup
        rcases hes with ⟨e1,rfl⟩ | ⟨b,n,e1,hb⟩
        · have c1':(Instr.checkKey (#[]:Array MapEntry).isEmpty 10000 kt kv).run P K.w = .ok () K.w:=c1
          simp only[Sem.run_bind,run_underlying hu,Result.andThen_ok,e1,ek,c1',c3,hzr,Sem.run_pure]
        · simp only[Sem.run_bind,run_underlying hu,Result.andThen_ok,e1,ek,Go.MapKept.run_getObj_map hb,c1,c3,hzr,Sem.run_pure]
      · subst hvz
        cases ok <;> simp[VRel,VRels]
    · simp only[lookA,Option.some.injEq] at hv
      refine fin (if ok then .tuple #[v',.bool true] else v') ?_ ?_
      · unfold Instr.lookup
        rcases hes with ⟨e1,rfl⟩ | ⟨b,n,e1,hb⟩
        · have c1':(Instr.checkKey (#[]:Array MapEntry).isEmpty 10000 kt kv).run P K.w = .ok () K.w:=c1
          simp only[Sem.run_bind,run_underlying hu,Result.andThen_ok,e1,ek,c1',c3,Sem.run_pure]
        · simp only[Sem.run_bind,run_underlying hu,Result.andThen_ok,e1,ek,Go.MapKept.run_getObj_map hb,c1,c3,Sem.run_pure]
      · subst hv
        cases ok <;> simp[VRel,VRels,c4]
theorem map_put (H:HRel K base h) {id:Nat} {es es':List (Value × AV)} (hid:h id=some (.map es)) {ms ms':Array MapEntry} (hb:K.w.heap[(K.ι id).1]? = some (.map ms es.length)) (hm:MRel K es' ms') :
    K.Step (K.setB (K.ι id).1 (.map ms' es'.length))∧HRel (K.setB (K.ι id).1 (.map ms' es'.length)) base (h.upd [(id,some (.map es'))]):=by
  have S:=step_setB (o:=.map ms' es'.length) (H.L id _ hid) hb (fun R e=>by cases e)
  refine⟨S,hrel_setB H hid hb (fun R e=>by cases e) (.map es') ⟨ms',setBlk_same hb,(hm.mono S.le).1,(hm.mono S.le).2⟩⟩
theorem mrel_set {es:List (Value × AV)} {ms:Array MapEntry} (hm:MRel K es ms) {i:Nat} {k v:Value} {x:AV} (hx:VRel K x v) (f:MapEntry→MapEntry) (hf:∀ e,ms[i]? = some e→f e=⟨k,v,i⟩):MRel K (es.set i (k,x)) (ms.modify i f):=by
  refine⟨by simp[hm.1],fun j e hj=>?_⟩
  rw[List.getElem?_set] at hj
  split at hj
  · rename_i hij
    subst hij
    split at hj
    · rename_i hlt
      cases hj
      have hlt2:i < ms.size:=by rw[hm.1]; exact hlt
      refine⟨v,?_,hx⟩
      rw[Array.getElem?_modify,if_pos rfl,Array.getElem?_eq_getElem hlt2,Option.map_some,hf _ (Array.getElem?_eq_getElem hlt2)]
    · cases hj
  · rename_i hij
    obtain⟨u,h1,h2⟩:=hm.2 j e hj
    exact⟨u,by rw[Array.getElem?_modify,if_neg hij]; exact h1,h2⟩
theorem mrel_push {es:List (Value × AV)} {ms:Array MapEntry} (hm:MRel K es ms) {k v:Value} {x:AV} (hx:VRel K x v):MRel K (es ++ [(k,x)]) (ms.push ⟨k,v,es.length⟩):=by
  refine⟨by simp[hm.1],fun j e hj=>?_⟩
  rw[Array.getElem?_push,hm.1]
  rcases Nat.lt_trichotomy j es.length with h | h | h
  · rw[List.getElem?_append_left h] at hj
    rw[if_neg (by omega)]
    exact hm.2 j e hj
  · subst h
    rw[List.getElem?_append_right (Nat.le_refl _),Nat.sub_self] at hj
    cases hj
    rw[if_pos rfl]
    exact⟨v,rfl,hx⟩
  · rw[List.getElem?_append_right (by omega),List.getElem?_eq_none (by simp; omega)] at hj
    cases hj
theorem run_stays {w:World} {k:Value} (h:Instr.sameBits 10000 k k=true):(Instr.keyThatStays k k).run P w = .ok k w:=by
  unfold Instr.keyThatStays
  rw[h]
  rfl
theorem good_mapUpdate (H:HRel K base h) (ht:VRels K t a.tmps.toList) {o:Oper} {mt:TypeId} {m k x:Operand} (ho:o.op = .mapUpdate mt m k x∨o.op = .insert mt m k x) {kt et:TypeId} (hu:P.underlying mt=some (.map kt et)) {id:Nat} (hm:opnd t m=some (.mp id)) {es es':List (Value × AV)} (hid:h id=some (.map es))
    {kv:Value} (hk:(opnd t k).bind toVal=some kv) {xa:AV} (hx:opnd t x=some xa) (hv:putA P kt kv xa es=some es'):Good K base (h.upd [(id,some (.map es'))]) K.c (.s undef) ((execOp a.eval o).run P K.w):=by
  obtain⟨ku,hk1,hk2⟩:=Option.bind_eq_some_iff.1 hk
  have ek:a.eval k=kv:=toVal_rel hk2 (opnd_rel ht hk1)
  have em:=opnd_rel ht hm
  simp only[VRel] at em
  have hxr:=opnd_rel ht hx
  obtain⟨ms,hb,hmm⟩:=map_block H hid
  have fin:∀ ms',MRel K es' ms'→(Instr.mapUpdate mt (a.eval m) (a.eval k) (a.eval x)).run P K.w = .ok () (setBlk K.w (K.ι id).1 (.map ms' es'.length))→Good K base (h.upd [(id,some (.map es'))]) K.c (.s undef) ((execOp a.eval o).run P K.w):=fun ms' hms hrun=>by
    obtain⟨S,H'⟩:=map_put H hid hb hms
    refine⟨_,undef,.inr ⟨?_,rfl⟩,S,H',rfl,by simp[VRel]⟩
    rcases ho with ho | ho <;> simp only[execOp,ho] <;> exact run_u hrun
  unfold putA at hv
  cases hs:seekA P kt kv es with
  | none=>rw[hs] at hv; cases hv
  | some r=>
    obtain⟨c1,c2⟩:=seekA_run (K:=K) hs hmm false K.w
    rw[hs] at hv
    rcases c2 with ⟨rfl,c3⟩ | ⟨i,x',v',rfl,c3,c4,c5,c6,c7⟩
    · cases hv
      refine fin (ms.push ⟨kv,a.eval x,es.length⟩) (mrel_push hmm hxr) ?_
      rw[em.2]
      unfold Instr.mapUpdate
      simp only[Sem.run_bind,run_underlying hu,Result.andThen_ok,Go.MapKept.run_getObj_map hb,ek,c1,c3,Go.MapKept.run_setObj_map _ hb]
      simp[setBlk]
    · cases hv
      refine fin (ms.modify i fun e=>{ e with key:=kv,val:=a.eval x }) (mrel_set hmm hxr _ fun e he=>by rw[c6] at he; cases he; rfl) ?_
      rw[em.2]
      unfold Instr.mapUpdate
      simp only[Sem.run_bind,run_underlying hu,Result.andThen_ok,Go.MapKept.run_getObj_map hb,ek,c1,c3,c6,Option.map_some,Option.getD_some,run_stays c7,Go.MapKept.run_setObj_map _ hb]
      simp[setBlk]
theorem good_mapEntry (H:HRel K base h) (ht:VRels K t a.tmps.toList) {o:Oper} {mt:TypeId} {m k:Operand} (ho:o.op = .mapEntry mt m k) {kt et:TypeId} (hu:P.underlying mt=some (.map kt et)) {id:Nat} (hm:opnd t m=some (.mp id)) {es:List (Value × AV)} (hid:h id=some (.map es))
    {kv:Value} (hk:(opnd t k).bind toVal=some kv) {r:AV × List (Value × AV)} (hv:entA P kt et kv es=some r):Good K base (h.upd [(id,some (.map r.2))]) K.c r.1 ((execOp a.eval o).run P K.w):=by
  obtain⟨ku,hk1,hk2⟩:=Option.bind_eq_some_iff.1 hk
  have ek:a.eval k=kv:=toVal_rel hk2 (opnd_rel ht hk1)
  have em:=opnd_rel ht hm
  simp only[VRel] at em
  obtain⟨ms,hb,hmm⟩:=map_block H hid
  have fin:∀ ms' y,MRel K r.2 ms'→(Instr.mapEntry mt (a.eval m) (a.eval k)).run P K.w = .ok y (setBlk K.w (K.ι id).1 (.map ms' r.2.length))→VRel K r.1 y→Good K base (h.upd [(id,some (.map r.2))]) K.c r.1 ((execOp a.eval o).run P K.w):=fun ms' y hms hrun hy=>by
    obtain⟨S,H'⟩:=map_put H hid hb hms
    refine⟨_,y,.inl ?_,S,H',rfl,hy.mono S.le⟩
    simp only[execOp,ho]
    exact run_v hrun
  unfold entA at hv
  cases hs:seekA P kt kv es with
  | none=>rw[hs] at hv; cases hv
  | some q=>
    obtain⟨c1,c2⟩:=seekA_run (K:=K) hs hmm false K.w
    rw[hs] at hv
    rcases c2 with ⟨rfl,c3⟩ | ⟨i,x',v',rfl,c3,c4,c5,c6,c7⟩
    · obtain⟨z,hz,rfl⟩:=Option.map_eq_some_iff.1 hv
      obtain⟨zx,rfl,_,hzr⟩:=zero1_run hz
      refine fin (ms.push ⟨kv,zx,es.length⟩) (.tuple #[zx,goInt es.length]) (mrel_push hmm (by simp[VRel])) ?_ ?_
      · rw[em.2]
        unfold Instr.mapEntry
        simp only[Sem.run_bind,run_underlying hu,Result.andThen_ok,Go.MapKept.run_getObj_map hb,ek,c1,c3,hzr,Go.MapKept.run_setObj_map _ hb,Sem.run_pure]
        simp[setBlk]
      · simp[VRel,VRels,goInt]
    · cases hv
      refine fin (ms.modify i fun e=>{ e with key:=kv }) (.tuple #[v',goInt i]) ?_ ?_ ?_
      · have:=mrel_set hmm (i:=i) (k:=kv) c4 (fun e=>{ e with key:=kv }) (fun e he=>by rw[c6] at he; cases he; rfl)
        rw[show es.set i (kv,x')=es from ?_] at this
        · exact this
        · obtain⟨hlt,he⟩:=List.getElem?_eq_some_iff.1 c5
          rw[← he,List.set_getElem_self]
      · rw[em.2]
        unfold Instr.mapEntry
        simp only[Sem.run_bind,run_underlying hu,Result.andThen_ok,Go.MapKept.run_getObj_map hb,ek,c1,c3,c6,Option.map_some,Option.getD_some,run_stays c7,Go.MapKept.run_setObj_map _ hb,Sem.run_pure]
        simp[setBlk]
      · simp[VRel,VRels,goInt,c4]
theorem good_entryStore (H:HRel K base h) (ht:VRels K t a.tmps.toList) {o:Oper} {mt:TypeId} {m k x:Operand} (ho:o.op = .entryStore mt m k x) {id:Nat} (hm:opnd t m=some (.mp id)) {es es':List (Value × AV)} (hid:h id=some (.map es))
    {j:Int} (hk:(opnd t k).bind asInt? = some j) {xa:AV} (hx:opnd t x=some xa) (hv:stampA j xa es=some es'):Good K base (h.upd [(id,some (.map es'))]) K.c (.s undef) ((execOp a.eval o).run P K.w):=by
  obtain⟨ku,hk1,hk2⟩:=Option.bind_eq_some_iff.1 hk
  obtain⟨kk,ek⟩:=run_asInt (P:=P) (w:=K.w) hk2 (opnd_rel ht hk1)
  have em:=opnd_rel ht hm
  simp only[VRel] at em
  have hxr:=opnd_rel ht hx
  obtain⟨ms,hb,hmm⟩:=map_block H hid
  unfold stampA at hv
  split at hv
  case isFalse=>cases hv
  rename_i h0
  split at hv
  case h_2=>cases hv
  rename_i e he
  cases hv
  obtain⟨v,g1,g2⟩:=hmm.2 _ _ he
  have hfi:ms.findIdx? (fun e=>(e.born:Int) == j)=some j.toNat:=by
    rw[Array.findIdx?_eq_some_iff_getElem]
    obtain⟨q1,q2⟩:=Array.getElem?_eq_some_iff.1 g1
    refine⟨q1,by rw[q2]; simp; omega,fun i hi=>?_⟩
    have hlt:i < es.length:=by rw[← hmm.1]; omega
    obtain⟨u,r1,_⟩:=hmm.2 i es[i] (List.getElem?_eq_getElem hlt)
    obtain⟨r2,r3⟩:=Array.getElem?_eq_some_iff.1 r1
    rw[r3]
    simp
    omega
  have hms:MRel K (es.set j.toNat (e.1,xa)) (ms.modify j.toNat fun e=>{ e with val:=a.eval x }):=mrel_set hmm hxr _ fun q hq=>by rw[g1] at hq; cases hq; rfl
  obtain⟨S,H'⟩:=map_put H hid hb hms
  refine⟨_,undef,.inr ⟨?_,rfl⟩,S,H',rfl,by simp[VRel]⟩
  simp only[execOp,ho]
  apply run_u
  rw[em.2]
  unfold Instr.entryStore
  have hai:(asInt (Value.int kk j)).run P K.w = .ok j K.w:=rfl
  simp only[Sem.run_bind,Go.MapKept.run_getObj_map hb,Result.andThen_ok,ek,hai,Sem.run_pure,hfi,Go.MapKept.run_setObj_map _ hb]
  simp[setBlk,Cx.setB]
theorem good_lenM (H:HRel K base h) (ht:VRels K t a.tmps.toList) {o:Oper} {x:Operand} {args:Array Operand} {ats:Array TypeId} (ho:o.op = .call { callee:=.builtin .len,args:=args,argTypes:=ats }) (ha:args.toList=[x]) {id:Nat} (hx:opnd t x=some (.mp id))
    {ty kt et:TypeId} (h0:ats[0]? = some ty) (hu:P.underlying ty=some (.map kt et)) {es:List (Value × AV)} (hid:h id=some (.map es)):Good K base h K.c (.s (.int .i64 es.length)) ((execOp a.eval o).run P K.w):=by
  have em:=opnd_rel ht hx
  simp only[VRel] at em
  obtain⟨ms,hb,hmm⟩:=map_block H hid
  obtain rfl:args = #[x]:=by cases args; simp_all
  refine good_pure H (x:=goInt ms.size) ?_ (by simp[VRel,goInt,hmm.1])
  have hrun:(Builtin.len_ ats o.type #[a.eval x]).run P K.w = .ok (goInt ms.size) K.w:=by
    simp only[Builtin.len_,h0,em.2,Sem.run_bind,run_underlying hu,Result.andThen_ok,List.getElem?_toArray,List.getElem?_cons_zero,Go.MapKept.run_getObj_map hb,Sem.run_pure]
  simp only[execOp,ho,resolve,List.map_toArray,List.map_cons,List.map_nil,Sem.run_bind,Sem.run_pure,Result.andThen_ok,invoke,builtin,hrun]
theorem good_lenF (H:HRel K base h) (ht:VRels K t a.tmps.toList) {o:Oper} {x:Operand} {args:Array Operand} {ats:Array TypeId} (ho:o.op = .call { callee:=.builtin .len,args:=args,argTypes:=ats }) (ha:args.toList=[x]) {es:List (Value × Value)} (hx:opnd t x=some (.fmp es))
    {ty kt et:TypeId} (h0:ats[0]? = some ty) (hu:P.underlying ty=some (.map kt et)):Good K base h K.c (.s (.int .i64 es.length)) ((execOp a.eval o).run P K.w):=by
  have em:=opnd_rel ht hx
  simp only[VRel] at em
  obtain⟨b,ms,e1,_,hb,h2,_⟩:=em
  obtain rfl:args = #[x]:=by cases args; simp_all
  refine good_pure H (x:=goInt ms.size) ?_ (by simp[VRel,goInt,h2])
  have hrun:(Builtin.len_ ats o.type #[a.eval x]).run P K.w = .ok (goInt ms.size) K.w:=by
    simp only[Builtin.len_,h0,e1,Sem.run_bind,run_underlying hu,Result.andThen_ok,List.getElem?_toArray,List.getElem?_cons_zero,Go.MapKept.run_getObj_map hb,Sem.run_pure]
  simp only[execOp,ho,resolve,List.map_toArray,List.map_cons,List.map_nil,Sem.run_bind,Sem.run_pure,Result.andThen_ok,invoke,builtin,hrun]
theorem mapOp_sound (H:HRel K base h) (ht:VRels K t a.tmps.toList) {o:Oper} {v:AV} {us:Ups} (ho:mapOp P o t h K.c=some (v,us)) :
    Good K base (h.upd us) (if usesN o.op then K.c + 1 else K.c) v ((execOp a.eval o).run P K.w):=by
  unfold mapOp at ho
  split at ho
  · rename_i ty hop
    cases ho
    simp only[hop,usesN,if_true]
    exact good_makeMap H hop
  · rename_i xt x k ok hop
    simp only[hop,usesN]
    split at ho
    · rename_i kt et es kv h1 h2 h3
      obtain⟨u,h4,h5⟩:=Option.map_eq_some_iff.1 ho
      cases h5
      exact good_lookup H ht hop h1 h2 h3 h4
    · cases ho
  · rename_i mt m k x hop
    simp only[hop,usesN]
    split at ho
    · rename_i kt et id kv xa h1 h2 h3 h4
      split at ho
      · rename_i es hid
        obtain⟨es',h5,h6⟩:=Option.map_eq_some_iff.1 ho
        cases h6
        exact good_mapUpdate H ht (.inl hop) h1 h2 hid h3 h4 h5
      · cases ho
    · cases ho
  · rename_i mt m k hop
    simp only[hop,usesN]
    split at ho
    · rename_i kt et id kv h1 h2 h3
      split at ho
      · rename_i es hid
        obtain⟨r,h5,h6⟩:=Option.map_eq_some_iff.1 ho
        cases h6
        exact good_mapEntry H ht hop h1 h2 hid h3 h5
      · cases ho
    · cases ho
  · rename_i mt m k x hop
    simp only[hop,usesN]
    split at ho
    · rename_i id j xa h1 h2 h3
      split at ho
      · rename_i es hid
        obtain⟨es',h5,h6⟩:=Option.map_eq_some_iff.1 ho
        cases h6
        exact good_entryStore H ht hop h1 hid h2 h3 h5
      · cases ho
    · cases ho
  · rename_i mt m k x hop
    simp only[hop,usesN]
    split at ho
    · rename_i kt et id kv xa h1 h2 h3 h4
      split at ho
      · rename_i es hid
        obtain⟨es',h5,h6⟩:=Option.map_eq_some_iff.1 ho
        cases h6
        exact good_mapUpdate H ht (.inr hop) h1 h2 hid h3 h4 h5
      · cases ho
    · cases ho
  · cases ho
end
end Go.Vm
/- The abstract evaluator: elements that are laid open for good when they are appended. -/
namespace Go.Vm
open Go
theorem crel_of {K:Cx} {b:Nat}:∀ {cs:List AV} {o:Nat},(∀ (j:Nat) (c:AV),cs[j]? = some c→∃ v,K.free b∧K.w.cell? ⟨b,o + j,none⟩=some v∧v.oneCell' = true∧VRel K c v)→CRel K b o cs
  | [],_,_=>by simp[CRel]
  | c :: cs,o,h=>by
    simp only[CRel]
    refine⟨by simpa using h 0 c rfl,crel_of fun j d hj=>?_⟩
    have:=h (j + 1) d (by simpa using hj)
    rw[show o + 1 + j=o + (j + 1) by omega]
    exact this
theorem rrel_of {K:Cx} {b sz:Nat}:∀ {rows:List (List AV)} {o:Nat},(∀ (i:Nat) (r:List AV),rows[i]? = some r→r.length=sz∧CRel K b (o + i * sz) r)→RRel K b o sz rows
  | [],_,_=>by simp[RRel]
  | r :: rs,o,h=>by
    simp only[RRel]
    obtain⟨h1,h2⟩:=h 0 r rfl
    refine⟨h1,by simpa using h2,rrel_of fun i q hq=>?_⟩
    have:=h (i + 1) q (by simpa using hq)
    rw[show o + sz + i * sz=o + (i + 1) * sz by rw[Nat.succ_mul]; omega]
    exact this
theorem noOwn_frz {K:Cx} {c:AV} {v:Value} (h:noOwn c=true) (hr:VRel K c v):VRel K.frz c v:=by
  cases c <;> simp only[noOwn] at h <;> first
    | (simp only[VRel,Cx.frz_frz] at hr ⊢; exact hr)
    | cases h
def Cx.shed (K:Cx) (ids:List Nat):Cx:={ K with L:=fun b=>K.L b∧∀ i∈ids,(K.ι i).1≠b }
theorem step_shed (K:Cx) (ids:List Nat):K.Step (K.shed ids):=⟨Nat.le_refl _,fun _ _=>rfl,rfl,rfl,rfl,Nat.le_refl _,fun b hb hl=>⟨rfl,fun e=>hl e.1⟩,rfl,fun _ h=>h⟩
theorem upd_drops:∀ (ids:List Nat) (h:AHeap) (j:Nat),(h.upd (drops ids)) j=if j∈ids then none else h j
  | [],h,j=>by simp[drops,AHeap.upd]
  | i :: ids,h,j=>by
    have ih:=upd_drops ids (h.put i none) j
    show ((h.put i none).upd (drops ids)) j=_
    rw[ih]
    by_cases e:j∈ids
    · rw[if_pos e,if_pos (List.mem_cons_of_mem i e)]
    · rw[if_neg e]
      by_cases e2:j=i
      · subst e2
        rw[AHeap.put_same,if_pos (List.mem_cons_self ..)]
      · rw[AHeap.put_other h e2,if_neg (by simp[e,e2])]
theorem upd_append:∀ (a b:Ups) (h:AHeap),h.upd (a ++ b)=(h.upd a).upd b
  | [],_,_=>rfl
  | (i,o) :: a,b,h=>upd_append a b (h.put i o)
section
variable {P:Program} {K:Cx} {base:Nat} {h:AHeap} {t:List AV} {a:Act}
theorem hrel_shed (H:HRel K base h) {ids:List Nat} (hids:∀ i∈ids,∃ o,h i=some o):HRel (K.shed ids) base (h.upd (drops ids)):=by
  have key:∀ j o,(h.upd (drops ids)) j=some o→j∉ids∧h j=some o:=fun j o hj=>by
    rw[upd_drops] at hj
    split at hj
    · cases hj
    · rename_i e; exact⟨e,hj⟩
  refine⟨fun j o hj=>H.lt j o (key j o hj).2,fun j o hj=>?_,fun b hb=>H.bs b hb.1,H.XL,H.le,fun i j o p hi hj=>H.inj i j o p (key i o hi).2 (key j p hj).2,fun j o hj=>(H.obj j o (key j o hj).2).mono (step_shed K ids).le rfl (fun _ _=>rfl),H.gl_step (step_shed K ids),fun i o g hi hg=>?_⟩
  case refine_2=>
    obtain⟨k1,k2⟩:=key i o hi
    obtain⟨g1,g2⟩:=H.hd i o g k2 hg
    refine⟨⟨g1,fun j hj=>?_⟩,fun j p hj=>g2 j p (key j p hj).2⟩
    obtain⟨q,hq⟩:=hids j hj
    exact (g2 j q hq).1
  obtain⟨k1,k2⟩:=key j o hj
  refine⟨H.L j o k2,fun i hi=>?_⟩
  obtain⟨q,hq⟩:=hids i hi
  exact H.inj i j q o hq k2 (fun e=>k1 (e ▸ hi))
theorem shed_free (H:HRel K base h) {ids:List Nat} {id:Nat} (hid:id∈ids) {o:AObj} (ho:h id=some o):(K.shed ids).frz.free (K.ι id).1:=by
  have hL:=H.L id o ho
  have hb:=H.bs _ hL
  exact⟨hb.2,fun e=>e.2 id hid rfl,fun e=>by have:=H.XL _ e; omega⟩
theorem rows_frz (H:HRel K base h) {id off len sz:Nat} {rows rs:List (List AV)} (hrows:rowsOf h sz (.osl id off len sz)=some rows) {K2:Cx} (hw:K2.w=K.w) (hb:K2.free (K.ι id).1) (hlen:rs.length=rows.length)
    (hcell:∀ (i:Nat) (r:List AV),rs[i]? = some r→∃ q,rows[i]? = some q∧r.length=q.length∧∀ (j:Nat) (c:AV),r[j]? = some c→∃ c0,q[j]? = some c0∧∀ v,VRel K c0 v→VRel K2.frz c v)
    {x:Value} (hx:VRel K (.osl id off len sz) x):VRel K2 (.fsl sz rs) x:=by
  obtain⟨A,c,e,h3⟩:=rowsOf_slice H hrows (fun b e=>by cases e) hx
  simp only[VRel] at hx ⊢
  obtain⟨hlt,A',cap,e',g2,g3,g4⟩:=hx
  rw[e] at e'
  injection e' with e5 e6 e7
  rcases Nat.eq_zero_or_pos rows.length with h0 | h0
  · have:rs=[]:=List.eq_nil_of_length_eq_zero (by omega)
    subst this
    exact⟨A,c,by rw[e,h0]; rfl,by rw[e5]; simp,by simp,.inl rfl⟩
  · rcases h3 with rfl | ⟨b,p,rfl,h3⟩
    · exact absurd h0 (Nat.lt_irrefl 0)
    · have hA:A' = ⟨(K.ι id).1,((K.ι id).2.1 + off) * sz,none⟩:=by
        rcases g4 with g4 | g4
        · omega
        · exact g4
      have hbb:b=(K.ι id).1:=by
        rw[hA] at e5
        injection e5 with e5
        injection e5
      refine⟨_,c,by rw[hlen]; exact e,by simp,by omega,.inr ⟨b,p,rfl,rrel_of fun i r hi=>?_⟩⟩
      obtain⟨q,q1,q2,q3⟩:=hcell i r hi
      obtain⟨k1,k2⟩:=h3 i q q1
      refine⟨q2.trans k1,crel_of fun j d hj=>?_⟩
      obtain⟨c0,m1,m2⟩:=q3 j d hj
      obtain⟨v,n1,n2,n3⟩:=k2 j c0 m1
      exact⟨v,by rw[Cx.frz_free,hbb]; exact hb,by rw[Cx.frz_w,hw]; exact n1,n2,m2 v n3⟩
theorem rowsOf_osl_some {id off len sz:Nat} {rows:List (List AV)} (hr:rowsOf h sz (.osl id off len sz)=some rows):∃ o,h id=some o:=by
  unfold rowsOf at hr
  simp only[if_true] at hr
  split at hr
  · exact⟨_,by assumption⟩
  · cases hr
theorem frzC_ids {c d:AV} {ids:List Nat} (hc:frzC h c=some (d,ids)):∀ i∈ids,∃ o,h i=some o:=fun i hi=>by
  unfold frzC at hc
  split at hc
  · split at hc
    · rename_i hr
      split at hc
      · cases hc
        rw[List.mem_singleton.1 hi]
        exact rowsOf_osl_some hr
      · cases hc
    · cases hc
  · split at hc
    · cases hc; cases hi
    · cases hc
theorem frzC_rel (H:HRel K base h) {c d:AV} {ids ids0:List Nat} (hc:frzC h c=some (d,ids)) (hs:∀ i∈ids,i∈ids0) {v:Value} (hv:VRel K c v):VRel (K.shed ids0).frz d v:=by
  have hle:K.frz.Le (K.shed ids0).frz:=(step_shed K ids0).le.frz
  unfold frzC at hc
  split at hc
  · rename_i id off len sz
    split at hc
    · rename_i rows hr
      split at hc
      · rename_i hno
        cases hc
        obtain⟨o,ho⟩:=rowsOf_osl_some hr
        refine rows_frz H hr (K2:=(K.shed ids0).frz) rfl (shed_free H (hs id (List.mem_singleton.2 rfl)) ho) rfl (fun i r hi=>⟨r,hi,rfl,fun j e hj=>⟨e,hj,fun v hv=>?_⟩⟩) hv
        have g1:=List.all_eq_true.1 hno r (List.mem_of_getElem? hi)
        rw[Cx.frz_frz]
        exact (noOwn_frz (List.all_eq_true.1 g1 e (List.mem_of_getElem? hj)) hv).mono hle
      · cases hc
    · cases hc
  · split at hc
    · rename_i hno
      cases hc
      exact (noOwn_frz hno hv).mono hle
    · cases hc
theorem frzL_at:∀ {cs ds:List AV} {ids:List Nat},frzL h cs=some (ds,ids)→ds.length=cs.length∧(∀ i∈ids,∃ o,h i=some o)∧∀ (j:Nat) (d:AV),ds[j]? = some d→∃ c ids',cs[j]? = some c∧frzC h c=some (d,ids')∧∀ i∈ids',i∈ids
  | [],ds,ids,hl=>by
    cases hl
    exact⟨rfl,(fun i hi=>nomatch hi),fun j d hj=>by simp at hj⟩
  | c :: cs,ds,ids,hl=>by
    simp only[frzL] at hl
    split at hl
    · rename_i v x vs y h1 h2
      cases hl
      obtain⟨k1,k2,k3⟩:=frzL_at h2
      refine⟨by simp[k1],fun i hi=>?_,fun j d hj=>?_⟩
      · rcases List.mem_append.1 hi with hi | hi
        · exact frzC_ids h1 i hi
        · exact k2 i hi
      · cases j with
        | zero=>
          simp at hj
          subst hj
          exact⟨c,x,rfl,h1,fun i hi=>List.mem_append_left _ hi⟩
        | succ j=>
          obtain⟨e,ids',q1,q2,q3⟩:=k3 j d (by simpa using hj)
          exact⟨e,ids',by simpa using q1,q2,fun i hi=>List.mem_append_right _ (q3 i hi)⟩
    · cases hl
theorem frzR_at:∀ {rows rs:List (List AV)} {ids:List Nat},frzR h rows=some (rs,ids)→rs.length=rows.length∧(∀ i∈ids,∃ o,h i=some o)∧∀ (i:Nat) (r:List AV),rs[i]? = some r→∃ q ids',rows[i]? = some q∧frzL h q=some (r,ids')∧∀ i∈ids',i∈ids
  | [],rs,ids,hl=>by
    cases hl
    exact⟨rfl,(fun i hi=>nomatch hi),fun j d hj=>by simp at hj⟩
  | c :: cs,ds,ids,hl=>by
    simp only[frzR] at hl
    split at hl
    · rename_i v x vs y h1 h2
      cases hl
      obtain⟨k1,k2,k3⟩:=frzR_at h2
      refine⟨by simp[k1],fun i hi=>?_,fun j d hj=>?_⟩
      · rcases List.mem_append.1 hi with hi | hi
        · exact (frzL_at h1).2.1 i hi
        · exact k2 i hi
      · cases j with
        | zero=>
          simp at hj
          subst hj
          exact⟨c,x,rfl,h1,fun i hi=>List.mem_append_left _ hi⟩
        | succ j=>
          obtain⟨e,ids',q1,q2,q3⟩:=k3 j d (by simpa using hj)
          exact⟨e,ids',by simpa using q1,q2,fun i hi=>List.mem_append_right _ (q3 i hi)⟩
    · cases hl
theorem frz_src (H:HRel K base h) {id off len sz:Nat} {rows rs:List (List AV)} {ids:List Nat} (hr:rowsOf h sz (.osl id off len sz)=some rows) (hf:frzR h rows=some (rs,ids)) {x:Value} (hx:VRel K (.osl id off len sz) x) :
    VRel (K.shed (id :: ids)) (.fsl sz rs) x:=by
  obtain⟨o,ho⟩:=rowsOf_osl_some hr
  obtain⟨k1,_,k3⟩:=frzR_at hf
  refine rows_frz H hr (K2:=K.shed (id :: ids)) rfl (shed_free H (List.mem_cons_self ..) ho) k1 (fun i r hi=>?_) hx
  obtain⟨q,ids',q1,q2,q3⟩:=k3 i r hi
  obtain⟨l1,_,l3⟩:=frzL_at q2
  refine⟨q,q1,l1,fun j c hj=>?_⟩
  obtain⟨c0,ids2,m1,m2,m3⟩:=l3 j c hj
  exact⟨c0,m1,fun v hv=>frzC_rel H m2 (fun i hi=>List.mem_cons_of_mem id (q3 i (m3 i hi))) hv⟩
theorem good_appendZ (H:HRel K base h) (ht:VRels K t a.tmps.toList) {o:Oper} {x y:Operand} {args:Array Operand} {ats:Array TypeId} {tx ty e:TypeId} {d:TypeDesc} (ho:o.op = .call { callee:=.builtin .append,args:=args,argTypes:=ats }) (ha:args.toList=[x,y]) (hat:ats.toList=[tx,ty])
    {u v r:AV} {us:Ups} (hx:opnd t x=some u) (hy:opnd t y=some v) (hu:P.underlying tx=some (.slice e)) (hd:P.underlying ty=some d) (hk:∀ k,d ≠ .int k) (hr:appendZ P h K.c tx e u v=some (r,us)) :
    Good K base (h.upd us) (K.c + 1) r ((execOp a.eval o).run P K.w):=by
  have plain:appendOf P h K.c e u v=some (r,us)→Good K base (h.upd us) (K.c + 1) r ((execOp a.eval o).run P K.w):=fun hr=>
    good_append H ht ho ha hat hx (opnd_rel ht hy) hu hd hk hr
  unfold appendZ at hr
  split at hr
  · unfold appendF at hr
    split at hr
    · rename_i id off len sz
      split at hr
      · rename_i rows hrows
        split at hr
        · exact plain hr
        · split at hr
          · rename_i rs ids hf
            obtain⟨⟨r',us'⟩,h1,h2⟩:=Option.map_eq_some_iff.1 hr
            cases h2
            obtain⟨q,hq⟩:=rowsOf_osl_some hrows
            have hids:∀ i∈id :: ids,∃ o,h i=some o:=fun i hi=>by
              rcases List.mem_cons.1 hi with rfl | hi
              · exact⟨q,hq⟩
              · exact (frzR_at hf).2.1 i hi
            have S:=step_shed K (id :: ids)
            obtain⟨K',z,g1,g2,g3,g4,g5⟩:=good_append (K:=K.shed (id :: ids)) (a:=a) (hrel_shed H hids) (ht.mono S.le) ho ha hat hx (frz_src H hrows hf (opnd_rel ht hy)) hu hd hk h1
            refine⟨K',z,g1,S.trans g2,?_,g4,g5⟩
            rw[upd_append]
            exact g3
          · cases hr
      · cases hr
    · exact plain hr
  · exact plain hr
end
end Go.Vm
/- The abstract evaluator: each operation that calls nothing is what the machine does. -/
namespace Go.Vm
open Go
section
variable {P:Program} {K:Cx} {base:Nat} {h:AHeap} {t:List AV} {a:Act}
theorem map_nil_some {x:Option AV} {v:AV} {us:Ups} (h:x.map (fun y=>(y,([]:Ups)))=some (v,us)):x=some v∧us=[]:=by
  obtain⟨y,h1,h2⟩:=Option.map_eq_some_iff.1 h
  cases h2
  exact⟨h1,rfl⟩
theorem aop_sound (H:HRel K base h) (ht:VRels K t a.tmps.toList) {o:Oper} {v:AV} {us:Ups} (ho:aop P o t h K.c=some (v,us)) :
    Good K base (h.upd us) (if usesN o.op then K.c + 1 else K.c) v ((execOp a.eval o).run P K.w):=by
  unfold aop at ho
  split at ho
  · rename_i x hop
    obtain⟨h1,rfl⟩:=map_nil_some ho
    simp only[hop,usesN]
    exact good_move H ht (.inl hop) h1
  · rename_i x hop
    obtain⟨h1,rfl⟩:=map_nil_some ho
    simp only[hop,usesN]
    exact good_move H ht (.inr hop) h1
  · rename_i c x y hop
    simp only[hop,usesN]
    split at ho
    · rename_i hc
      obtain⟨h1,rfl⟩:=map_nil_some ho
      exact good_pick H ht hop hc (by simpa using h1)
    · rename_i hc
      obtain⟨h1,rfl⟩:=map_nil_some ho
      exact good_pick H ht hop hc (by simpa using h1)
    · cases ho
  · rename_i e hop
    simp only[hop,usesN]
    split at ho
    · rename_i cs hz
      cases ho
      exact good_alloc H hop hz
    · cases ho
  · rename_i e x hop
    simp only[hop,usesN]
    split at ho
    · rename_i cs hz
      cases ho
      exact good_box H ht hop hz
    · cases ho
  · rename_i ty ps hop
    simp only[hop,usesN]
    split at ho
    · rename_i z pl vs h1 h2 h3
      obtain⟨cs,h4,h5⟩:=Option.map_eq_some_iff.1 ho
      cases h5
      exact good_build H ht hop h1 h2 h3 h4
    · cases ho
  · rename_i ty len ps hop
    simp only[hop,usesN]
    split at ho
    · rename_i e he
      split at ho
      · rename_i sz z vs h1 h2 h3
        split at ho
        · rename_i hc
          obtain⟨rows,h4,h5⟩:=Option.map_eq_some_iff.1 ho
          cases h5
          exact good_buildSlice H ht hop he h1 h2 h3 hc h4
        · cases ho
      · cases ho
    · cases ho
  · rename_i ty x hop
    simp only[hop,usesN]
    split at ho
    · rename_i p hp
      obtain⟨h1,rfl⟩:=map_nil_some ho
      exact good_load H ht hop hp h1
    · cases ho
  · rename_i ty x y hop
    simp only[hop,usesN]
    split at ho
    · rename_i p u h1 h2
      obtain⟨us',h3,h4⟩:=Option.map_eq_some_iff.1 ho
      cases h4
      exact good_store H ht hop h1 h2 h3
    · cases ho
  · rename_i x hop
    simp only[hop,usesN]
    split at ho
    · rename_i id i sz off hx
      cases ho
      exact good_nilCheck H ht hop hx (.inl ⟨_,_,_,_,rfl⟩)
    · rename_i r off hx
      cases ho
      exact good_nilCheck H ht hop hx (.inr ⟨_,_,rfl⟩)
    · cases ho
  · rename_i op xt x y yt hop
    simp only[hop,usesN]
    split at ho
    · rename_i hpl
      simp only[Bool.and_eq_true] at hpl
      have hus:us=[]:=by
        split at ho
        · cases ho; rfl
        · exact (map_nil_some ho).2
      subst hus
      exact good_bin H ht hop hpl.1 hpl.2 ho
    · obtain⟨b,h1,h2⟩:=Option.map_eq_some_iff.1 ho
      cases h2
      exact good_nil H ht hop h1
  · rename_i op xt x hop
    simp only[hop,usesN]
    split at ho
    · rename_i hpl
      obtain⟨h1,rfl⟩:=map_nil_some ho
      exact good_un H ht hop hpl h1
    · cases ho
  · rename_i src dst x hop
    simp only[hop,usesN]
    split at ho
    · rename_i b sd e h1 h2 h0
      split at ho
      · rename_i i h3 h4
        split at ho
        · rename_i hc
          cases ho
          exact good_toBytes H ht hop h1 h2 h0 h3 h4 hc
        · cases ho
      · cases ho
    · rename_i b h1 h2 h0
      split at ho
      · rename_i hpl
        obtain⟨h1,rfl⟩:=map_nil_some ho
        exact good_convPlain H ht hop hpl h1
      · cases ho
    · rename_i v' e hns h1 h2 h0
      split at ho
      · rename_i bs h5 h6
        cases ho
        exact good_toStr H ht hop h1 (fun b e=>hns b e) h2 h5 h0 h6
      · cases ho
    · rename_i v' sd dd g1 g2 g3 h1 h2 h0
      split at ho
      · rename_i hpl
        obtain⟨h1',rfl⟩:=map_nil_some ho
        exact good_convPlain H ht hop (by unfold isPlain; rw[h1]; exact hpl) h1'
      · cases ho
    · cases ho
  · rename_i f first caps hop
    simp only[hop,usesN]
    split at ho
    · rename_i h0
      obtain⟨vs,h1,h2⟩:=Option.map_eq_some_iff.1 ho
      cases h2
      exact good_makeFunc H ht hop h0 h1
    · cases ho
  · rename_i ty l c hop
    simp only[hop,usesN]
    split at ho
    · rename_i e he
      split at ho
      · rename_i sz b z ln cp h1 h2 h3 h4 h5
        split at ho
        · rename_i hc
          cases ho
          exact good_makeSlice H ht hop he h1 h2 h3 h4 h5 hc
        · cases ho
      · cases ho
    · cases ho
  · rename_i xt x lo hi mx hop
    simp only[hop,usesN]
    split at ho
    · rename_i v' l u m e h1 h2 h3 h4 h5
      split at ho
      · rename_i z hz
        split at ho
        · rename_i id off len sz
          split at ho
          · rename_i e1
            subst e1
            obtain⟨h6,rfl⟩:=map_nil_some ho
            exact good_slice H ht hop h1 h2 h3 h4 h5 hz (.inl ⟨_,_,_,rfl⟩) h6
          · cases ho
        · rename_i sz rows
          split at ho
          · rename_i e1
            subst e1
            obtain⟨h6,rfl⟩:=map_nil_some ho
            exact good_slice H ht hop h1 h2 h3 h4 h5 hz (.inr (.inl ⟨_,rfl⟩)) h6
          · cases ho
        · obtain⟨h6,rfl⟩:=map_nil_some ho
          exact good_slice H ht hop h1 h2 h3 h4 h5 hz (.inr (.inr (.inl rfl))) h6
        · obtain⟨h6,rfl⟩:=map_nil_some ho
          exact good_slice H ht hop h1 h2 h3 h4 h5 hz (.inr (.inr (.inr rfl))) h6
        · cases ho
      · cases ho
    · rename_i v' l u h1 h2 h3 h4 h5
      split at ho
      · rename_i b
        obtain⟨h6,rfl⟩:=map_nil_some ho
        have hm:mx=none:=by
          cases mx with
          | none=>rfl
          | some m=>
            simp only[optnd] at h4
            split at h4 <;> cases h4
        subst hm
        exact good_sliceStr H ht hop h1 h2 h3 h5 h6
      · cases ho
    · cases ho
  · rename_i xt x f hop
    simp only[hop,usesN]
    split at ho
    · rename_i u h1
      obtain⟨h6,rfl⟩:=map_nil_some ho
      exact good_fieldAddr H ht hop h1 h6
    · cases ho
  · rename_i xt x f hop
    simp only[hop,usesN]
    split at ho
    · rename_i cs fields h1 h2
      split at ho
      · rename_i fd h3
        obtain⟨h6,rfl⟩:=map_nil_some ho
        exact good_field H ht hop h1 h2 h3 h6
      · cases ho
    · cases ho
  · rename_i xt x i hop
    simp only[hop,usesN]
    split at ho
    · rename_i u j h1 h2
      obtain⟨h6,rfl⟩:=map_nil_some ho
      exact good_indexAddr H ht hop h1 h2 h6
    · cases ho
  · rename_i xt x i hop
    simp only[hop,usesN]
    split at ho
    · rename_i b j h1 h2 h3
      split at ho
      · rename_i hj
        cases ho
        exact good_index_str H ht hop h1 h2 h3 hj
      · cases ho
    · rename_i cs j len e h1 h2 h3
      split at ho
      · rename_i z hz
        split at ho
        · rename_i hj
          obtain⟨h6,rfl⟩:=map_nil_some ho
          exact good_index_arr H ht hop h1 h2 h3 hz hj h6
        · cases ho
      · cases ho
    · cases ho
  · rename_i x i hop
    simp only[hop,usesN]
    split at ho
    · rename_i vs h1
      obtain⟨h6,rfl⟩:=map_nil_some ho
      exact good_extract H ht hop h1 h6
    · cases ho
  · rename_i args ats hop
    simp only[hop,usesN]
    split at ho
    · rename_i x hargs
      split at ho
      · rename_i u h1
        have hb:∀ {d:TypeDesc},(ats[0]?).bind P.underlying=some d→∃ ty,ats[0]? = some ty∧P.underlying ty=some d:=fun {d} hd=>Option.bind_eq_some_iff.1 hd
        split at ho
        all_goals first
          | cases ho; done
          | skip
        · rename_i e id off len sz h2
          obtain⟨ty,k1,k2⟩:=hb h2
          simp only[lenOf,Option.map_some,Option.some.injEq] at ho
          cases ho
          exact good_len H ht hop hargs h1 k1 k2 (.inl ⟨⟨_,rfl⟩,_,_,_,_,rfl,rfl⟩)
        · rename_i e sz rows h2
          obtain⟨ty,k1,k2⟩:=hb h2
          simp only[lenOf,Option.map_some,Option.some.injEq] at ho
          cases ho
          exact good_len H ht hop hargs h1 k1 k2 (.inr (.inl ⟨⟨_,rfl⟩,_,_,rfl,rfl⟩))
        · rename_i e h2
          obtain⟨ty,k1,k2⟩:=hb h2
          simp only[lenOf,Option.map_some,Option.some.injEq] at ho
          cases ho
          exact good_len H ht hop hargs h1 k1 k2 (.inr (.inr (.inl ⟨⟨_,rfl⟩,rfl,rfl⟩)))
        · rename_i e h2
          obtain⟨ty,k1,k2⟩:=hb h2
          simp only[lenOf,Option.map_some,Option.some.injEq] at ho
          cases ho
          exact good_len H ht hop hargs h1 k1 k2 (.inr (.inr (.inr (.inl ⟨⟨_,rfl⟩,rfl,rfl⟩))))
        · rename_i b h2
          obtain⟨ty,k1,k2⟩:=hb h2
          simp only[lenOf,Option.map_some,Option.some.injEq] at ho
          cases ho
          exact good_len H ht hop hargs h1 k1 k2 (.inr (.inr (.inr (.inr (.inl ⟨rfl,_,rfl,rfl⟩)))))
        · rename_i k e h2
          obtain⟨ty,k1,k2⟩:=hb h2
          cases ho
          exact good_len H ht hop hargs h1 k1 k2 (.inr (.inr (.inr (.inr (.inr ⟨_,rfl⟩)))))
        · rename_i kt et id h2
          obtain⟨ty,k1,k2⟩:=hb h2
          split at ho
          · split at ho
            · rename_i es hid
              cases ho
              exact good_lenM H ht hop hargs h1 k1 k2 hid
            · cases ho
          · cases ho
        · rename_i kt et es h2
          obtain⟨ty,k1,k2⟩:=hb h2
          cases ho
          exact good_lenF H ht hop hargs h1 k1 k2
      · cases ho
    · cases ho
  · rename_i args ats hop
    simp only[hop,usesN]
    split at ho
    · rename_i x y tx ty hargs hats
      split at ho
      · rename_i u v' e d' h1 h2 h3 h4
        exact good_appendZ H ht hop hargs hats h1 h2 (elemT_eq h3) h4 (fun k e=>by cases e) ho
      · rename_i u v' e h1 h2 h3 h4
        exact good_append H ht hop hargs hats h1 (opnd_rel ht h2) (elemT_eq h3) h4 (fun k e=>by cases e) ho
      · rename_i k m e k' h1 h2 h3 h4
        exact good_grow H ht hop hargs hats h1 h2 (elemT_eq h3) h4 ho
      · cases ho
    · cases ho
  · rename_i args ats hop
    simp only[hop,usesN]
    split at ho
    · rename_i x tx hargs hats
      split at ho
      · rename_i u e h1 h2
        exact good_clear H ht hop hargs hats h1 (elemT_eq h2) ho
      · cases ho
    · cases ho
  · rename_i b args ats hb1 hb2 hb3 hop
    split at ho
    · split at ho
      · rename_i hpl
        obtain⟨h6,rfl⟩:=map_nil_some ho
        simp only[hop,usesN]
        exact good_callPlain H ht hop hpl h6
      · cases ho
    · split at ho
      · rename_i hpl
        obtain⟨h6,rfl⟩:=map_nil_some ho
        simp only[hop,usesN]
        exact good_callPlain H ht hop hpl h6
      · cases ho
    · split at ho
      · rename_i hpl
        obtain⟨h6,rfl⟩:=map_nil_some ho
        simp only[hop,usesN]
        exact good_callPlain H ht hop hpl h6
      · cases ho
    · cases ho
  · exact mapOp_sound H ht ho
end
end Go.Vm
/- The abstract evaluator: values laid open; literals that are never written. -/
namespace Go.Vm
open Go
section
variable {P:Program} {K:Cx} {base:Nat} {h:AHeap} {t:List AV} {a:Act}
theorem good_lit (H:HRel K base h) (ht:VRels K t a.tmps.toList) {o:Oper} {ty:TypeId} {len:Nat} {ps:Array (Nat × Operand)} {v:AV} (ho:o.op = .buildSlice ty len ps) (hv:litOf P t ty len ps.toList=some v) :
    Good K base h K.c v ((execOp a.eval o).run P K.w):=by
  unfold litOf at hv
  split at hv
  case h_2=>cases hv
  rename_i e he
  split at hv
  case h_2=>cases hv
  rename_i sz z vs h1 h2 h3
  split at hv
  case isFalse=>cases hv
  rename_i hc
  split at hv
  case h_2=>cases hv
  rename_i rows hf
  split at hv
  case isFalse=>cases hv
  rename_i hno
  cases hv
  obtain⟨arr,e1,e2,e3,e4⟩:=run_buildSlice (K:=K) ht he h1 h2 h3 hc hf
  have S:=step_allocFree H (.cells arr e)
  have hfree:(K.allocFree (.cells arr e)).free K.w.heap.size:=by
    refine⟨by simp[Cx.allocFree],fun hl=>?_,fun hx=>?_⟩
    · have:=(H.bs _ hl).2; omega
    · have:=H.XL _ hx; have:=H.le; omega
  refine good_res (K':=K.allocFree (.cells arr e)) (x:=.slice (some ⟨K.w.heap.size,0,none⟩) len len) ?_ S (hrel_allocFree H _) rfl ?_
  · simp only[execOp,ho]
    apply run_v
    have hm:(ps.map fun p=>(p.1,a.eval p.2))=(ps.toList.map fun p=>(p.1,a.eval p.2)).toArray:=by apply Array.ext'; simp
    rw[← hm] at e1
    exact e1
  · simp only[VRel]
    refine⟨_,len,by rw[e4],by simp,by omega,.inr ⟨K.w.heap.size,0,rfl,rrel_of fun i r hi=>⟨(e2 i r hi).1,crel_of fun j c hj=>?_⟩⟩⟩
    obtain⟨v,k1,k2,k3⟩:=(e2 i r hi).2 j c hj
    refine⟨v,hfree,?_,k2,noOwn_frz ?_ (k3.mono S.le)⟩
    · have hb:(K.allocFree (.cells arr e)).w.heap[K.w.heap.size]? = some (.cells arr e):=World.alloc_heap_new _ _
      simp only[Cx.frz_w,World.cell?,hb,Nat.zero_add]
      simpa using k1
    · have g1:=List.all_eq_true.1 hno r (List.mem_of_getElem? hi)
      exact List.all_eq_true.1 g1 c (List.mem_of_getElem? hj)
theorem good_fbox (H:HRel K base h) (ht:VRels K t a.tmps.toList) {o:Oper} {e:TypeId} {x:Operand} {v:AV} (ho:o.op = .box e x) (hv:boxLit t x=some v) :
    Good K base h K.c v ((execOp a.eval o).run P K.w):=by
  unfold boxLit at hv
  split at hv
  case h_2=>cases hv
  rename_i y hx
  cases hv
  obtain⟨u,h1,h2⟩:=Option.bind_eq_some_iff.1 hx
  obtain⟨h3,h4⟩:=cellsOf_rel h2 (opnd_rel ht h1)
  have S:=step_allocFree H (.cells (a.eval x).cells e)
  have hfree:(K.allocFree (.cells (a.eval x).cells e)).free K.w.heap.size:=by
    refine⟨by simp[Cx.allocFree],fun hl=>?_,fun hx=>?_⟩
    · have:=(H.bs _ hl).2; omega
    · have:=H.XL _ hx; have:=H.le; omega
  refine good_res (K':=K.allocFree (.cells (a.eval x).cells e)) (x:=.pointer (some ⟨K.w.heap.size,0,none⟩)) ?_ S (hrel_allocFree H _) rfl ?_
  · simp only[execOp,ho]
    apply run_v
    simp only[Instr.box,newVar,newRow,Sem.run_bind,run_newObj_alloc,Result.andThen_ok,Sem.run_pure]
    rfl
  · simp only[VRel]
    refine⟨K.w.heap.size,0,rfl,crel_of fun j c hj=>?_⟩
    cases j with
    | succ j=>simp at hj
    | zero=>
      simp only[List.getElem?_cons_zero,Option.some.injEq] at hj
      subst hj
      obtain⟨w,k1,k2⟩:=h3.get (i:=0) rfl
      refine⟨w,hfree,?_,h4 w (List.mem_of_getElem? k1),noOwn_frz rfl (k2.mono S.le)⟩
      have hb:(K.allocFree (.cells (a.eval x).cells e)).w.heap[K.w.heap.size]? = some (.cells (a.eval x).cells e):=World.alloc_heap_new _ _
      simp only[Cx.frz_w,World.cell?,hb,Nat.zero_add]
      simpa using k1
structure Opens (K K2:Cx) (own:Bool):Prop where
  w:K2.w=K.w
  fr:∀ b,K.free b→K2.free b
  L:own=true→∀ b,K.L b→K2.free b
theorem Opens.le0 {K K2:Cx} {own:Bool} (h:Opens K K2 own):K.frz.Le K2.frz:=
  ⟨Nat.le_refl 0,fun _ hi=>absurd hi (Nat.not_lt_zero _),fun b v o hf hc=>⟨h.fr b hf,by rw[Cx.frz_w,h.w]; exact hc⟩,fun b ms c hf hc=>⟨h.fr b hf,by rw[Cx.frz_w,h.w]; exact hc⟩⟩
theorem Opens.mono {K K2:Cx} {p q:Bool} (h:Opens K K2 p) (e:q=true→p=true):Opens K K2 q:=⟨h.w,h.fr,fun hq=>h.L (e hq)⟩
theorem snapL_rel {K K2:Cx} {f:AV→Option (AV × Bool)} {own:Bool} (hO:Opens K K2 own)
    (hf:∀ {c d:AV} {p:Bool} {v:Value},f c=some (d,p)→(p=true→own=true)→VRel K c v→VRel K2.frz d v) :
    ∀ {cs ds:List AV} {p:Bool} {vs:List Value},snapL f cs=some (ds,p)→(p=true→own=true)→VRels K cs vs→VRels K2.frz ds vs
  | [],ds,p,vs,h,_,hr=>by
    simp only[snapL,Option.some.injEq,Prod.mk.injEq] at h
    obtain⟨rfl,_⟩:=h
    cases vs with
    | nil=>simp[VRels]
    | cons=>simp[VRels] at hr
  | c :: cs,ds,p,vs,h,hp,hr=>by
    simp only[snapL] at h
    split at h
    · rename_i d a ds' b h1 h2
      simp only[Option.some.injEq,Prod.mk.injEq] at h
      obtain⟨rfl,rfl⟩:=h
      cases vs with
      | nil=>simp[VRels] at hr
      | cons v vs=>
        simp only[VRels] at hr ⊢
        exact⟨hf h1 (fun e=>hp (by rw[e]; rfl)) hr.1,snapL_rel hO hf h2 (fun e=>hp (by rw[e]; simp)) hr.2⟩
    · cases h
theorem snapL_crel {K K2:Cx} {f:AV→Option (AV × Bool)} (hO:Opens K K2 true) {b:Nat} (hb:K2.free b)
    (hf:∀ {c d:AV} {p:Bool} {v:Value},f c=some (d,p)→VRel K c v→VRel K2.frz d v)
    (hone:∀ {c d:AV} {p:Bool},f c=some (d,p)→True) :
    ∀ {cs ds:List AV} {p:Bool} {o:Nat},snapL f cs=some (ds,p)→Lies K b o cs→CRel K2.frz b o ds∧ds.length=cs.length
  | [],ds,p,o,h,_=>by
    simp only[snapL,Option.some.injEq,Prod.mk.injEq] at h
    obtain⟨rfl,_⟩:=h
    simp[CRel]
  | c :: cs,ds,p,o,h,hl=>by
    simp only[snapL] at h
    split at h
    · rename_i d a ds' q h1 h2
      simp only[Option.some.injEq,Prod.mk.injEq] at h
      obtain⟨rfl,_⟩:=h
      obtain⟨v,k1,k2,k3⟩:=hl 0 c rfl
      have hl':Lies K b (o + 1) cs:=fun j d hj=>by
        have:=hl (j + 1) d (by simpa using hj)
        rw[show o + 1 + j=o + (j + 1) by omega]
        exact this
      obtain⟨g1,g2⟩:=snapL_crel hO hb hf hone h2 hl'
      refine⟨?_,by simp[g2]⟩
      simp only[CRel]
      exact⟨⟨v,hb,by rw[Cx.frz_w,hO.w]; simpa using k1,k2,hf h1 k3⟩,g1⟩
    · cases h
theorem snapR_rrel {K K2:Cx} {f:AV→Option (AV × Bool)} (hO:Opens K K2 true) {b sz:Nat} (hb:K2.free b)
    (hf:∀ {c d:AV} {p:Bool} {v:Value},f c=some (d,p)→VRel K c v→VRel K2.frz d v) :
    ∀ {rows rs:List (List AV)} {o:Nat},snapR f rows=some rs→(∀ (i:Nat) (r:List AV),rows[i]? = some r→r.length=sz∧Lies K b (o + i * sz) r)→RRel K2.frz b o sz rs∧rs.length=rows.length
  | [],rs,o,h,_=>by
    simp only[snapR,Option.some.injEq] at h
    subst h
    simp[RRel]
  | r :: rows,rs,o,h,hl=>by
    simp only[snapR] at h
    split at h
    · rename_i d a rs' h1 h2
      simp only[Option.some.injEq] at h
      subst h
      obtain⟨k1,k2⟩:=hl 0 r rfl
      obtain⟨g1,g2⟩:=snapL_crel hO hb hf (fun _=>trivial) h1 (by simpa using k2)
      obtain⟨g3,g4⟩:=snapR_rrel (o:=o + sz) hO hb hf h2 (fun i q hq=>by
        have:=hl (i + 1) q (by simpa using hq)
        rw[show o + sz + i * sz=o + (i + 1) * sz by rw[Nat.succ_mul]; omega]
        exact this)
      simp only[RRel,List.length_cons,g4,and_true]
      exact⟨by rw[g2,k1],g1,g3⟩
    · cases h
theorem plainEs_rel {K:Cx}:∀ {es:List (Value × AV)} {vs:List (Value × Value)},plainEs es=some vs→es.length=vs.length∧∀ (i:Nat) (e:Value × Value),vs[i]? = some e→∃ a,es[i]? = some (e.1,a)∧∀ x,VRel K a x→x=e.2
  | [],vs,h=>by cases h; exact⟨rfl,fun i e hi=>by simp at hi⟩
  | (k,a) :: es,vs,h=>by
    have key:∃ v l,plainEs es=some l∧vs=(k,v) :: l∧∀ x,VRel K a x→x=v:=by
      cases a with
      | s v=>
        simp only[plainEs] at h
        obtain⟨l,h1,rfl⟩:=Option.map_eq_some_iff.1 h
        exact⟨v,l,h1,rfl,fun x hx=>by simpa[VRel] using hx⟩
      | fn f cs=>
        cases cs with
        | nil=>
          simp only[plainEs] at h
          obtain⟨l,h1,rfl⟩:=Option.map_eq_some_iff.1 h
          refine⟨_,l,h1,rfl,fun x hx=>?_⟩
          simp only[VRel] at hx
          obtain⟨cv,rfl,hc⟩:=hx
          have:cv.toList=[]:=by
            cases hl:cv.toList with
            | nil=>rfl
            | cons y ys=>rw[hl] at hc; simp[VRels] at hc
          have:cv = #[]:=by
            apply Array.ext'
            simpa using this
          rw[this]
        | cons c cs=>simp[plainEs] at h
      | _=>simp[plainEs] at h
    obtain⟨v,l,h1,rfl,h3⟩:=key
    obtain⟨g1,g2⟩:=plainEs_rel (K:=K) h1
    refine⟨by simp[g1],fun i e hi=>?_⟩
    cases i with
    | zero=>
      simp only[List.getElem?_cons_zero,Option.some.injEq] at hi
      subst hi
      exact⟨a,rfl,h3⟩
    | succ i=>
      simp only[List.getElem?_cons_succ] at hi ⊢
      exact g2 i e hi
theorem snap_rel {K K2:Cx} {base:Nat} {h:AHeap} (H:HRel K base h):∀ (k:Nat) {own:Bool},Opens K K2 own→∀ {c d:AV} {p:Bool} {v:Value},snap h k c=some (d,p)→(p=true→own=true)→VRel K c v→VRel K2.frz d v:=by
  intro k
  induction k with
  | zero=>
    intro own hO c d p v hs hp hr
    cases c <;> simp only[snap,Option.some.injEq,Prod.mk.injEq,reduceCtorEq] at hs
    all_goals
      obtain⟨rfl,_⟩:=hs
      simp only[VRel,Cx.frz_frz] at hr ⊢
    · exact hr
    · obtain⟨b,o,e,hc⟩:=hr; exact⟨b,o,e,hc.mono hO.le0⟩
    · obtain⟨A,cap,e,hA,hle,hc⟩:=hr
      exact⟨A,cap,e,hA,hle,hc.imp id fun⟨b,o,e2,hc⟩=>⟨b,o,e2,hc.mono hO.le0⟩⟩
    · exact hr
    · obtain⟨b,ms,e,hf,hm,hk⟩:=hr
      exact⟨b,ms,e,hO.fr b hf,by rw[Cx.frz_w,hO.w]; exact hm,hk⟩
  | succ k ih=>
    intro own hO c d p v hs hp hr
    cases c <;> simp only[snap,Option.some.injEq,Prod.mk.injEq,reduceCtorEq] at hs
    case s=>
      obtain⟨rfl,_⟩:=hs
      simp only[VRel] at hr ⊢
      exact hr
    case agg cs=>
      obtain⟨⟨ds,q⟩,h1,h2⟩:=Option.map_eq_some_iff.1 hs
      cases h2
      simp only[VRel] at hr ⊢
      obtain⟨vs,rfl,hv⟩:=hr
      exact⟨vs,rfl,snapL_rel hO (fun g1 g2 g3=>ih hO g1 g2 g3) h1 hp hv⟩
    case tup cs=>
      obtain⟨⟨ds,q⟩,h1,h2⟩:=Option.map_eq_some_iff.1 hs
      cases h2
      simp only[VRel] at hr ⊢
      obtain⟨vs,rfl,hv⟩:=hr
      exact⟨vs,rfl,snapL_rel hO (fun g1 g2 g3=>ih hO g1 g2 g3) h1 hp hv⟩
    case ptr id i sz off=>
      split at hs
      · rename_i row hrow
        obtain⟨⟨ds,q⟩,h1,h2⟩:=Option.map_eq_some_iff.1 hs
        cases h2
        have hown:=hp rfl
        subst hown
        simp only[VRel] at hr ⊢
        obtain⟨hlt,rfl⟩:=hr
        have hid:∃ o,h id=some o:=by
          unfold rowAt at hrow
          split at hrow
          · exact⟨_,by assumption⟩
          · cases hrow
        obtain⟨o,ho⟩:=hid
        have hb:=hO.L rfl _ (H.L id o ho)
        exact⟨_,_,rfl,by rw[Cx.frz_frz]; exact (snapL_crel hO hb (fun g1 g3=>ih hO g1 (fun _=>rfl) g3) (fun _=>trivial) h1 (rowAt_lies H hrow)).1⟩
      · cases hs
    case fptr row off=>
      obtain⟨rfl,_⟩:=hs
      simp only[VRel,Cx.frz_frz] at hr ⊢
      obtain⟨b,o,e,hc⟩:=hr
      exact⟨b,o,e,hc.mono hO.le0⟩
    case osl id off len sz=>
      split at hs
      · rename_i rows hrows
        obtain⟨rs,h1,h2⟩:=Option.map_eq_some_iff.1 hs
        cases h2
        have hown:=hp rfl
        subst hown
        obtain⟨A,c,e,h3⟩:=rowsOf_slice H hrows (fun b e=>by cases e) hr
        simp only[VRel] at hr ⊢
        obtain⟨hlt,A',cap,e',g2,g3,g4⟩:=hr
        rw[e] at e'
        injection e' with e5 e6 e7
        have hid:∃ o,h id=some o:=by
          unfold rowsOf at hrows
          simp only[if_true] at hrows
          split at hrows
          · exact⟨_,by assumption⟩
          · cases hrows
        obtain⟨o,ho⟩:=hid
        rcases h3 with rfl | ⟨b,p,rfl,h3⟩
        · simp only[snapR,Option.some.injEq] at h1
          subst h1
          exact⟨A,c,by simpa using e,by rw[e5]; simp,by simp,.inl rfl⟩
        · rcases Nat.eq_zero_or_pos rows.length with h0 | h0
          · have:rows=[]:=List.eq_nil_of_length_eq_zero h0
            subst this
            simp only[snapR,Option.some.injEq] at h1
            subst h1
            exact⟨_,c,by simpa using e,by simp,by simp,.inl rfl⟩
          · have hA:A' = ⟨(K.ι id).1,((K.ι id).2.1 + off) * sz,none⟩:=by
              rcases g4 with g4 | g4
              · omega
              · exact g4
            have hbb:b=(K.ι id).1:=by
              rw[hA] at e5
              injection e5 with e5
              injection e5
            have hb:K2.free b:=by rw[hbb]; exact hO.L rfl _ (H.L id o ho)
            obtain⟨k1,k2⟩:=snapR_rrel hO hb (fun g1 g3=>ih hO g1 (fun _=>rfl) g3) h1 h3
            refine⟨_,c,by rw[k2]; exact e,by simp,by omega,.inr ⟨b,p,rfl,by rw[Cx.frz_frz]; exact k1⟩⟩
      · cases hs
    case mp id=>
      split at hs
      · rename_i es hid
        obtain⟨vs,h1,h2⟩:=Option.map_eq_some_iff.1 hs
        cases h2
        have hown:=hp rfl
        subst hown
        simp only[VRel] at hr ⊢
        obtain⟨hlt,rfl⟩:=hr
        obtain⟨ms,q1,q2,q3⟩:=H.obj id _ hid
        obtain⟨e1,e2⟩:=plainEs_rel (K:=K) h1
        refine⟨_,ms,rfl,hO.L rfl _ (H.L id _ hid),by rw[Cx.frz_w,hO.w,← e1]; exact q1,by rw[← e1]; exact q2,fun i e hi=>?_⟩
        obtain⟨a,g0,g3⟩:=e2 i e hi
        obtain⟨v,g1,g2⟩:=q3 i (e.1,a) g0
        rw[g3 v g2] at g1
        exact g1
      · cases hs
    case fmp es=>
      obtain⟨rfl,_⟩:=hs
      simp only[VRel] at hr ⊢
      obtain⟨b,ms,e,hf,hm,hk⟩:=hr
      exact⟨b,ms,e,hO.fr b hf,by rw[Cx.frz_w,hO.w]; exact hm,hk⟩
    case fsl sz rows=>
      obtain⟨rfl,_⟩:=hs
      simp only[VRel,Cx.frz_frz] at hr ⊢
      obtain⟨A,cap,e,hA,hle,hc⟩:=hr
      exact⟨A,cap,e,hA,hle,hc.imp id fun⟨b,o,e2,hc⟩=>⟨b,o,e2,hc.mono hO.le0⟩⟩
    case esl=>
      obtain⟨rfl,_⟩:=hs
      simp only[VRel] at hr ⊢
      exact hr
    case fn f caps=>
      obtain⟨⟨ds,q⟩,h1,h2⟩:=Option.map_eq_some_iff.1 hs
      cases h2
      simp only[VRel] at hr ⊢
      obtain⟨vs,rfl,hv⟩:=hr
      exact⟨vs,rfl,snapL_rel hO (fun g1 g2 g3=>ih hO g1 g2 g3) h1 hp hv⟩
    case any=>
      obtain⟨rfl,_⟩:=hs
      simp only[VRel]
end
end Go.Vm
/- The abstract evaluator: calls, rounds, operations in a row. -/
namespace Go.Vm
open Go
theorem flat_rel {K K2:Cx} {c:AV} {v:Value} (h:flat c=true) (hr:VRel K c v):VRel K2 c v:=by
  have hs:∀ {cs:List AV} {vs:List Value},(cs.all fun | .s _=>true | _=>false)=true→VRels K cs vs→VRels K2 cs vs:=by
    intro cs
    induction cs with
    | nil=>intro vs _ hr; cases vs <;> simp_all [VRels]
    | cons c cs ih=>
      intro vs h hr
      cases vs with
      | nil=>simp[VRels] at hr
      | cons v vs=>
        simp only[VRels] at hr ⊢
        simp only[List.all_cons,Bool.and_eq_true] at h
        refine⟨?_,ih h.2 hr.2⟩
        cases c <;> first | (simp only[VRel] at hr ⊢; exact hr.1) | (exact absurd h.1 (by simp))
  cases c <;> simp only[flat] at h
  case s=>simp only[VRel] at hr ⊢; exact hr
  case agg cs=>
    simp only[VRel] at hr ⊢
    obtain⟨vs,e,hv⟩:=hr
    exact⟨vs,e,hs h hv⟩
  case tup cs=>
    simp only[VRel] at hr ⊢
    obtain⟨vs,e,hv⟩:=hr
    refine⟨vs,e,?_⟩
    clear e
    generalize vs.toList=ws at hv
    induction cs generalizing ws with
    | nil=>cases ws <;> simp_all [VRels]
    | cons c cs ih=>
      cases ws with
      | nil=>simp[VRels] at hv
      | cons w ws=>
        simp only[VRels] at hv ⊢
        simp only[List.all_cons,Bool.and_eq_true] at h
        refine⟨?_,ih h.2 ws hv.2⟩
        cases c with
        | s=>simp only[VRel] at hv ⊢; exact hv.1
        | agg ds=>
          simp only[VRel] at hv ⊢
          obtain⟨⟨us,e,hu⟩,_⟩:=hv
          exact⟨us,e,hs h.1 hu⟩
        | _=>exact absurd h.1 (by simp)
  all_goals cases h
def FF:Option Nat→Fence
  | none=>Fence.wide
  | some l=>Fence.wide.inRound l
theorem FF_fn (r:Option Nat) (f:FuncId):(FF r).fn f:=by cases r <;> exact trivial
theorem FF_depth (r:Option Nat):(FF r).depth=none:=by cases r <;> rfl
theorem FF_round (r:Option Nat):(FF r).round=r:=by cases r <;> rfl
theorem FF_calls {r:Option Nat} {N:Nat} {P:Program} {f:FuncId} {args:Array Value} {w:World} {R:Ending→World→Prop} (h:CallsIn Fence.wide N P f args w R):CallsIn (FF r) N P f args w R:=by
  cases r with
  | none=>exact h
  | some l=>exact h
theorem FF_inRound (r:Option Nat) (l:Nat):(FF r).inRound l=FF (some l):=by cases r <;> rfl
def CallPost (K:Cx) (base:Nat) (h':AHeap) (n':Nat) (v:AV):Ending→World→Prop:=fun e w'=>
  ∃ (K':Cx) (cv:Value),e = .returned cv∧K'.w=w'∧K.Step K'∧HRel K' base h'∧K'.c=n'∧VRel K' v cv
def mkMark (r:Nat):Deferred:={ target:=.collected r,args:=#[] }
def Marks (K K':Cx) (ms:List Nat) (a a':Act):Prop:=
  a'.defers=ms.map mkMark ++ a.defers∧ms.Nodup∧∀ m∈ms,K.w.heap.size≤m∧m < K'.w.heap.size∧¬ K'.L m∧K'.w.heap[m]? = some (.deferred (some []))
theorem Marks.nil (K K':Cx) {a a':Act} (h:a'.defers=a.defers):Marks K K' [] a a':=⟨by simpa using h,List.nodup_nil,fun m hm=>by simp at hm⟩
theorem Marks.trans {A B C:Cx} {m1 m2:List Nat} {a b c:Act} (S1:A.Step B) (S2:B.Step C) (h1:Marks A B m1 a b) (h2:Marks B C m2 b c):Marks A C (m2 ++ m1) a c:=by
  obtain⟨e1,n1,k1⟩:=h1
  obtain⟨e2,n2,k2⟩:=h2
  refine⟨by rw[e2,e1,List.map_append,List.append_assoc],?_,fun m hm=>?_⟩
  · rw[List.nodup_append]
    refine⟨n2,n1,fun x hx y hy e=>?_⟩
    subst e
    have:=(k2 x hx).1
    have:=(k1 x hy).2.1
    omega
  · rcases List.mem_append.1 hm with hm | hm
    · obtain⟨g1,g2,g3,g4⟩:=k2 m hm
      exact⟨Nat.le_trans S1.size g1,g2,g3,g4⟩
    · obtain⟨g1,g2,g3,g4⟩:=k1 m hm
      obtain⟨q1,q2⟩:=S2.keep m g2 g3
      exact⟨g1,Nat.lt_of_lt_of_le g2 S2.size,q2,q1.trans g4⟩
def AX.toExit:AX→Exit
  | .normal=>.normal
  | .exit id=>.exit id
  | .goto l=>.goto l
  | .ret=>.ret
structure CodePost (K:Cx) (base:Nat) (a:Act) (s':St) (K':Cx) (a':Act) (ms:List Nat):Prop where
  step:K.Step K'
  heap:HRel K' base s'.h
  n:K'.c=s'.n
  t:VRels K' s'.t a'.tmps.toList
  marks:Marks K K' ms a a'
structure RecOk (E:Env) (r:Rec):Prop where
  call:∀ f args h n v h' n',r.call f args h n=some (v,h',n')→∀ (K:Cx) (base:Nat) (cargs:Array Value),HRel K base h→K.c=n→VRels K args cargs.toList→∀ N,CallsIn Fence.wide N E.P f cargs K.w (CallPost K base h' n' v)
  body:∀ f args h n v h' n',r.call f args h n=some (v,h',n')→∃ fn,E.P.funcs[f]? = some fn∧fn.body.isSome=true
  code:∀ c s x s',codeOk c=true→r.code c s=some (x,s')→∀ (K:Cx) (base:Nat) (rd:Option Nat) (N:Nat) (a:Act) (Q:Exit→Act→World→Prop),HRel K base s.h→K.c=s.n→VRels K s.t a.tmps.toList→(∀ l,rd=some l→isLoop K.w l) →
    (∀ K' a' ms,CodePost K base a s' K' a' ms→Q x.toExit a' K'.w)→c.wpIn (FF rd) N E.P Q a K.w
structure EnvOk (E:Env):Prop where
  name:∀ (f:FuncId) (fn:Func),E.P.funcs[f]? = some fn→(fn.name == "runtime.NumGoroutine")=false
  code:∀ (f:FuncId) (fn:Func) (c:Code),E.P.funcs[f]? = some fn→fn.body=some c→codeOk c=true
  prim:∀ g p,E.prim g=some p→(∃ fn,E.P.funcs[g]? = some fn∧fn.body.isSome=true) ∧
    ∀ args v,p args=some v→∀ (K:Cx) (base:Nat) (h:AHeap) (cargs:Array Value),HRel K base h→VRels K args cargs.toList→∀ N,CallsIn Fence.wide N E.P g cargs K.w (CallPost K base h K.c v)
  primM:∀ g p,E.primM g=some p→(∃ fn,E.P.funcs[g]? = some fn∧fn.body.isSome=true) ∧
    ∀ args h n v h' n',p args h n=some (v,h',n')→∀ (K:Cx) (base:Nat) (cargs:Array Value),HRel K base h→K.c=n→VRels K args cargs.toList→∀ N,CallsIn Fence.wide N E.P g cargs K.w (CallPost K base h' n' v)
section
variable {E:Env} {r:Rec} {K:Cx} {base:Nat} {h:AHeap} {t:List AV} {a:Act}
theorem callFn_sound (hE:EnvOk E) (hr:RecOk E r) (H:HRel K base h) {g:FuncId} {vs:List AV} {cargs:Array Value} (hv:VRels K vs cargs.toList) {v:AV} {h':AHeap} {n':Nat} (hc:callFn E r g vs h K.c=some (v,h',n')) (N:Nat) :
    CallsIn Fence.wide N E.P g cargs K.w (CallPost K base h' n' v)∧∃ fn,E.P.funcs[g]? = some fn∧fn.body.isSome=true:=by
  unfold callFn at hc
  split at hc
  · rename_i p hp
    obtain⟨u,h1,h2⟩:=Option.map_eq_some_iff.1 hc
    cases h2
    obtain⟨k1,k2⟩:=hE.prim g p hp
    exact⟨k2 _ _ h1 K base _ cargs H hv N,k1⟩
  · split at hc
    · split at hc
      case h_2=>cases hc
      rename_i vs' b hsnap
      split at hc
      case h_2=>cases hc
      rename_i u hin nin hcall
      split at hc
      case h_2=>cases hc
      rename_i v' q hsnap2
      split at hc
      · cases hc
      rename_i hflat
      cases hc
      -- the callee's own place: nothing is its own yet
      let K0:Cx:={ w:=K.w,ι:=K.ι,L:=fun _=>False,X:=if b then fun _=>False else fun x=>K.X x∨K.L x,c:=0 }
      have hO:Opens K K0 b:=by
        refine⟨rfl,fun x hx=>⟨hx.1,fun e=>e,?_⟩,fun hb x hx=>⟨(H.bs x hx).2,fun e=>e,?_⟩⟩
        · cases b
          · simp only[K0,Bool.false_eq_true,if_false]
            rintro (e | e)
            · exact hx.2.2 e
            · exact hx.2.1 e
          · simp[K0]
        · simp[K0,hb]
      have hfrz:K0.frz=K0:=rfl
      have hargs:VRels K0 vs' cargs.toList:=by
        rw[← hfrz]
        exact snapL_rel hO (fun g1 g2 g3=>snap_rel H depth hO g1 g2 g3) hsnap (fun e=>e) hv
      have hX0:∀ x,K0.X x→x < K.w.heap.size:=by
        intro x hx
        cases b
        · simp only[K0,Bool.false_eq_true,if_false] at hx
          rcases hx with hx | hx
          · have:=H.XL x hx
            have:=H.le
            omega
          · exact (H.bs x hx).2
        · simp[K0] at hx
      have H0:HRel K0 K.w.heap.size AHeap.nil:=
        { lt:=fun _ _ e=>(by cases e),L:=fun _ _ e=>(by cases e),bs:=fun _ e=>False.elim e,XL:=hX0,le:=Nat.le_refl _,inj:=fun _ _ _ _ e=>(by cases e),obj:=fun _ _ e=>(by cases e),gl:=fun q hq=>⟨Nat.lt_of_lt_of_le (H.gl q hq).1 H.le,(H.gl q hq).2⟩,hd:=fun _ _ _ e=>(by cases e) }
      refine⟨(hr.call g vs' AHeap.nil 0 u hin nin hcall K0 K.w.heap.size cargs H0 rfl hargs N).mono ?_,hr.body g vs' AHeap.nil 0 u hin nin hcall⟩
      rintro e w' ⟨K1,cv,rfl,rfl,S,H1,hn,hu⟩
      -- back at the caller's
      let K':Cx:={ w:=K1.w,ι:=K.ι,L:=K.L,X:=K.X,c:=K.c }
      have hold:∀ x,x < K.w.heap.size→K1.w.heap[x]? = K.w.heap[x]?:=fun x hx=>(S.keep x hx (fun e=>e)).1
      have S':K.Step K':=⟨Nat.le_refl _,fun _ _=>rfl,S.os,S.tape,S.output,S.size,fun x hx hl=>⟨hold x hx,hl⟩,rfl,fun l ⟨R,hl⟩=>⟨R,(hold l (heap_lt_of hl)).trans hl⟩⟩
      have H':HRel K' base h:=H.step S' (fun x hx=>hold x (H.bs x hx).2) rfl
      refine⟨K',cv,rfl,rfl,S',H',rfl,?_⟩
      cases hb:b with
      | true=>
        have hf:flat v=true:=by
          rw[hb] at hflat
          simpa using hflat
        -- a value that leads to no memory
        have:VRel ({ K1 with X:=fun _=>False,L:=fun _=>False }:Cx).frz v cv:=by
          have hO2:Opens K1 { K1 with X:=fun _=>False,L:=fun _=>False } true:=⟨rfl,fun x hx=>⟨hx.1,fun e=>e,fun e=>e⟩,fun _ x hx=>⟨(H1.bs x hx).2,fun e=>e,fun e=>e⟩⟩
          exact snap_rel H1 depth hO2 hsnap2 (fun _=>rfl) hu
        exact flat_rel hf this
      | false=>
        have hO2:Opens K1 K' true:=by
          refine⟨rfl,fun x hx=>?_,fun _ x hx=>?_⟩
          · have hX:K1.X=K0.X:=S.X
            have:¬ (K.X x∨K.L x):=by
              have:=hx.2.2
              rw[hX] at this
              simpa[K0,hb] using this
            exact⟨hx.1,fun e=>this (.inr e),fun e=>this (.inl e)⟩
          · obtain⟨g1,g2⟩:=H1.bs x hx
            refine⟨g2,fun e=>?_,fun e=>?_⟩
            · have:=(H.bs x e).2; omega
            · have:=H.XL x e; have:=H.le; omega
        exact (snap_rel H1 depth hO2 hsnap2 (fun _=>rfl) hu).mono (frz_le K')
    · exact⟨hr.call g vs h K.c v h' n' hc K base cargs H rfl hv N,hr.body g vs h K.c v h' n' hc⟩
theorem exec_func {P:Program} {o:Oper} {f:Operand} {args:Array Operand} {ats:Array TypeId} (ho:o.op = .call { callee:=.value f,args:=args,argTypes:=ats }) {g:FuncId} {cv:Array Value} (hf:a.eval f = .func (.func g) #[] cv)
    {fn:Func} (hg:P.funcs[g]? = some fn) (hb:fn.body.isSome=true) (hn:(fn.name == "runtime.NumGoroutine")=false) (w:World) :
    (execOp a.eval o).run P w = .ok (.enter g (args.map a.eval ++ cv)) w:=by
  have hb':fn.body.isNone=false:=by cases h:fn.body <;> simp_all
  simp only[execOp,ho,resolve,hf,Deferred.ofValue,Sem.run_bind,Sem.run_pure,Result.andThen_ok,invoke,callFunc,run_program,hg,hn,hb',Bool.false_eq_true,if_false]
  simp
theorem exec_yield {P:Program} {o:Oper} {f:Operand} {args:Array Operand} {ats:Array TypeId} (ho:o.op = .call { callee:=.value f,args:=args,argTypes:=ats }) {l:Nat} (hf:a.eval f = .func (.yield l) #[] #[]) (w:World) :
    (execOp a.eval o).run P w=(Instr.yield l (args.map a.eval)).run P w:=by
  simp only[execOp,ho,resolve,hf,Deferred.ofValue,Sem.run_bind,Sem.run_pure,Result.andThen_ok,invoke]
  simp
end
end Go.Vm
/- The abstract evaluator: rounds of loops over functions; operations in a row. -/
namespace Go.Vm
open Go
theorem setAll_rel {K:Cx}:∀ {ps:List Tmp} {t vs:List AV} {cs:List Value} {arr:Array Value},VRels K t arr.toList→VRels K vs cs→VRels K (setAll t ps vs) ((ps.zip cs).foldl (fun (tmps:Array Value) (p:Tmp × Value)=>tmps.setIfInBounds p.1 p.2) arr).toList
  | [],t,vs,cs,arr,h,hv=>by cases vs <;> simpa[setAll] using h
  | p :: ps,t,[],[],arr,h,hv=>by simpa[setAll] using h
  | p :: ps,t,v :: vs,c :: cs,arr,h,hv=>by
    simp only[VRels] at hv
    simp only[setAll,List.zip_cons_cons,List.foldl_cons]
    refine setAll_rel ?_ hv.2
    rw[Array.toList_setIfInBounds]
    exact h.set p hv.1
  | p :: ps,t,[],c :: cs,arr,h,hv=>by simp[VRels] at hv
  | p :: ps,t,v :: vs,[],arr,h,hv=>by simp[VRels] at hv
section
variable {E:Env} {r:Rec} {K:Cx} {base:Nat} {h:AHeap} {t:List AV} {a:Act}
theorem loop_turn {K:Cx} {base:Nat} {h:AHeap} (H:HRel K base h) {l:Nat} {R:ALoop} (hl:h l=some (.loop R)) {Rc:Loop} (hc:K.w.heap[(K.ι l).1]? = some (.loop Rc)) (st:LoopState) (pd:Option Code) :
    K.Step (K.setB (K.ι l).1 (.loop { Rc with state:=st,pending:=pd }))∧HRel (K.setB (K.ι l).1 (.loop { Rc with state:=st,pending:=pd })) base (h.put l (some (.loop { R with state:=st,pending:=pd }))):=by
  obtain⟨R',g1,g2,g3,g4,g5,g6,g7,g8⟩:=H.obj l _ hl
  rw[hc] at g1
  injection g1 with g1
  injection g1 with g1
  subst g1
  have S:=step_setB (K:=K) (b:=(K.ι l).1) (o:=.loop { Rc with state:=st,pending:=pd }) (H.L l _ hl) hc (fun _ _=>⟨_,rfl⟩)
  exact⟨S,hrel_setB H hl hc (fun _ _=>⟨_,rfl⟩) _ ⟨_,setBlk_same hc,rfl,rfl,g4,g5,g6,g7.mono S.le,g8⟩⟩
theorem round_sound (hr:RecOk E r) (H:HRel K base h) {l:Nat} {vs:List AV} {cargs:Array Value} (hv:VRels K vs cargs.toList) {v:AV} {h':AHeap} {n':Nat} (hc:roundOf r l vs h K.c=some (v,h',n')) :
    ∃ Rc:Loop,K.w.heap[(K.ι l).1]? = some (.loop Rc)∧cargs.size=Rc.params.size∧∀ (rd:Option Nat) (N:Nat) (R':Ending→World→Prop),(∀ (K':Cx) (cv:Value),K.Step K'→HRel K' base h'→K'.c=n'→VRel K' v cv→R' (.returned cv) K'.w) →
      RoundIn (FF rd) N E.P (K.ι l).1 Rc.fn ((Rc.params.zip cargs).foldl (fun tmps (t,a)=>tmps.setIfInBounds t a) Rc.tmps) Rc.assign Rc.body K.w R':=by
  unfold roundOf at hc
  split at hc
  case h_2=>cases hc
  rename_i R hl
  split at hc
  case isFalse=>cases hc
  rename_i hcond
  split at hc
  case h_2=>cases hc
  rename_i s1 hassign
  split at hc
  case h_2=>cases hc
  rename_i R1 hl1
  split at hc
  case isFalse=>cases hc
  rename_i hready
  split at hc
  case h_2=>cases hc
  rename_i x s2 hbody
  split at hc
  case h_2=>cases hc
  rename_i R2 hl2
  obtain⟨Rc,g1,g2,g3,g4,g5,g6,g7,g8,g9⟩:=H.obj l _ hl
  have hlc:l < K.c:=H.lt l _ hl
  have hps:Rc.params.size=R.params.length:=by rw[← g4]; simp
  have hcs:cargs.size=vs.length:=by have:=hv.length; simpa using this.symm
  refine⟨Rc,g1,by rw[hcs,hps]; exact hcond.2,fun rd N R' hR=>roundIn_of_wpIn (FF_fn rd _) ?_⟩
  rw[FF_inRound]
  have htm:VRels K (setAll R.tmps R.params vs) ((Rc.params.zip cargs).foldl (fun tmps (t,a)=>tmps.setIfInBounds t a) Rc.tmps).toList:=by
    have:=setAll_rel (ps:=R.params) g7 hv
    rw[← g4] at this
    rw[← g4]
    rw[← Array.foldl_toList,Array.toList_zip]
    exact this
  rw[g5,g6]
  refine hr.code R.assign _ _ s1 g8 hassign K base (some (K.ι l).1) N _ _ H rfl htm (fun l' e=>by cases e; exact⟨Rc,g1⟩) ?_
  intro K1 a1 ms1 ⟨S1,H1,n1,t1,_⟩
  obtain⟨Rc1,k1,k2,k3,k4,k5,k6,k7,k8,k9⟩:=H1.obj l _ hl1
  have hι1:K1.ι l=K.ι l:=S1.ι l hlc
  obtain⟨S2,H2⟩:=loop_turn H1 hl1 k1 .busy Rc1.pending
  rw[hι1] at k1 S2 H2
  refine⟨_,run_beginRound k1 (by rw[k2]; exact hready),?_⟩
  have hbody':r.code R.body ⟨s1.t,s1.h.put l (some (.loop { R1 with state:=.busy,pending:=R1.pending })),s1.n⟩=some (x,s2):=hbody
  have hpend:Rc1.pending=R1.pending:=k3
  rw[hpend] at H2 S2
  have hw2:K1.w.putObj (K.ι l).1 (.loop { Rc1 with state:=.busy })=(K1.setB (K.ι l).1 (.loop { Rc1 with state:=.busy,pending:=R1.pending })).w:=by rw[← hpend]; rfl
  rw[hw2]
  refine hr.code R.body _ x s2 g9 hbody' (K1.setB (K.ι l).1 (.loop { Rc1 with state:=.busy,pending:=R1.pending })) base (some (K.ι l).1) N a1 _ H2 n1 (t1.mono S2.le) (fun l' e=>by cases e; exact⟨_,setBlk_same k1⟩) ?_
  intro K3 a3 ms3 ⟨S3,H3,n3,t3,_⟩
  obtain⟨Rc2,q1,q2,q3,q4,q5,q6,q7,q8⟩:=H3.obj l _ hl2
  have hι3:K3.ι l=K.ι l:=(S3.ι l (Nat.lt_of_lt_of_le hlc (Nat.le_trans S1.c S2.c))).trans ((S2.ι l (Nat.lt_of_lt_of_le hlc S1.c)).trans hι1)
  have fin:∀ (st:LoopState) (pd:Option Code) (b:Bool),some (v,h',n')=some (AV.s (.bool b),s2.h.put l (some (.loop { R2 with state:=st,pending:=pd })),s2.n) →
      R' (.returned (.bool b)) (K3.w.putObj (K.ι l).1 (.loop { Rc2 with state:=st,pending:=pd })):=by
    intro st pd b e
    simp only[Option.some.injEq,Prod.mk.injEq] at e
    obtain⟨rfl,rfl,rfl⟩:=e
    obtain⟨S4,H4⟩:=loop_turn H3 hl2 q1 st pd
    rw[hι3] at S4 H4
    exact hR (K3.setB (K.ι l).1 (.loop { Rc2 with state:=st,pending:=pd })) (.bool b) (((S1.trans S2).trans S3).trans S4) H4 n3 (by simp[VRel])
  rw[hι3] at q1
  cases x with
  | normal=>
    simp only[Exit.then,AX.toExit,roundPost]
    exact⟨_,_,run_endRound none q1,fin .ready none true hc.symm⟩
  | ret=>
    simp only[AX.toExit,roundPost]
    exact⟨_,_,run_endRound (some .ret) q1,fin .done (some .ret) false hc.symm⟩
  | exit id=>
    simp only[AX.toExit,roundPost]
    exact⟨_,_,run_endRound (some (.exit id)) q1,fin .done (some (.exit id)) false hc.symm⟩
  | goto t=>
    simp only[AX.toExit,roundPost]
    exact⟨_,_,run_endRound (some (.goto t)) q1,fin .done (some (.goto t)) false hc.symm⟩
end
end Go.Vm

/- The law PyspecBetween, a part of its proof: what the functions that it reaches compute. -/
import Derived.WalkKit
import Derived.ProofKit
import Derived.OpenShut
import Derived.Below
import Derived.ChangeSame
import Derived.Deep.DeepHandedRow
import Derived.Carry
import Derived.Test.YtdenfejaedgehaaGreatDoorFxbb124141
import Derived.Shelf.Small.Strs
import Derived.Test.YtdenfejaedgehaaGreatDoorDxd5fd90ce
import Derived.Shelf.Strings.IndexAnyAll
import Derived.Shelf.Strings.OnBuilder
import Derived.Sort.Row
import Derived.Sort.Grow
import Derived.WalkSmall
import Derived.Lib.ItoaNum
import Derived.Lib.AtoiAll
import Derived.Shelf.Strconv.AppendUint10
import Derived.Shelf.Strconv.ErrVarAll
import Derived.Deep.Strs
import Derived.Lib.Bytealg
import Derived.Test.YtdenfejaedgehaaGreatDoorG0PyspecBetween
import Derived.Test.YtdenfejaedgehaaGreatDoorG1PyspecBetween
import Derived.Test.YtdenfejaedgehaaGreatDoorG2PyspecBetween
set_option linter.unusedVariables false
set_option linter.unusedSimpArgs false
namespace Go.Vm
open Go Go.RowKit Go.WideShapes Go.ChangeShapes
theorem AB3 {H:Type} {enc:TypeId × Value→H} {P:Program} {f:Func} {s:ChangeSpec} {apart fresh handsOn again:Bool} {W W':World} {args:Array Value} {v:Value} {ds gs:List (DataW H)} {before pa pv:List MemPlace}
 (hW:DataW.Whole enc P f.params.toList s.vars apart W args.toList ds gs before) (hb:Below W.heap.size W W') (hp:before=pa ++ pv)
 (hr:∀ (b:Nat) (sp:Nat→Bool) (hd:Bool),DataW.TrodAll enc P W' b sp hd f.resultTypes.toList (v.resultList f.resultTypes.size) (s.fn H (ds ++ gs)).results [])
 (ha:∀ sp:Nat→Bool,(∀ p∈before,sp p.block=true)→DataW.TrodAll enc P W' 0 sp true f.params.toList args.toList (s.fn H (ds ++ gs)).args pa)
 (hv:∀ sp:Nat→Bool,(∀ p∈before,sp p.block=true)→DataW.TrodVars enc P W' sp s.vars (s.fn H (ds ++ gs)).vars pv)
 (ho:∀ (j:Nat) (t:TypeId) (r:Value),f.resultTypes[j]? = some t→(v.resultList f.resultTypes.size)[j]? = some r→Value.okWide P W' .any 0 t r) :
 s.post enc P f apart fresh handsOn again W args v W':=by
 have small:∀ p∈before,decide (p.block < W.heap.size)=true:=fun p h=>decide_eq_true (hW.lt p h)
 refine⟨ds,gs,before,[],pa,pv,hW,hr _ _ _,ha (fun b=>decide (b < W.heap.size)) small,hv _ small,hb.frame _,fun _=>⟨ho,?_⟩⟩
 obtain⟨_,_,_,_,_,hz,hn⟩:=hW
 refine⟨_,_,([] ++ pa) ++ pv,⟨[] ++ pa,pv,trodAll_append (ha _ fun _ _=>rfl) (hr _ _ _),hv _ fun _ _=>rfl,rfl,fun b off hm=>?_,fun h=>?_⟩,?_⟩
 · have hm':MemPlace.cell b off∈before:=by rw[hp]; simpa using hm
   rw[hb.frozen (of_decide_eq_true (small _ hm'))]
   exact hz b off hm'
 · have:=hn h
   rw[hp] at this
   simpa using this
 · intro x hx _
   rw[hp]
   simpa using hx
end Go.Vm
set_option linter.unusedVariables false
set_option linter.unusedSimpArgs false
namespace Go.Vm
open Go Go.RowKit
theorem PW {K:Cx} {base:Nat} {h:AW} (H:BW K base h) {v:AV} {cv:Value} {w':World} (hb:Below K.w.heap.size K.w w') (hv:∀ K',As K' v cv):De K base h K.c v (.returned cv) w':=by
 let K':Cx:={ K with w:=w' }
 have S:K.Step K':=⟨Nat.le_refl _,fun _ _=>rfl,hb.os,hb.tape,hb.output,hb.size,fun b h1 h2=>⟨hb.block b h1,h2⟩,rfl,fun l ⟨R,hR⟩=>⟨R,(hb.block l (by
  rcases Nat.lt_or_ge l K.w.heap.size with hlt | hge
  · exact hlt
  · rw[Array.getElem?_eq_none hge] at hR; cases hR)).trans hR⟩⟩
 exact⟨K',cv,rfl,rfl,S,H.step S (fun b hL=>hb.block b (H.bs b hL).2) rfl,rfl,hv K'⟩
theorem AAv {P:Program} {g:FuncId} {p:List AV→Option AV} (hf:∀ args v,p args=some v→∃ a b r,args=[.s (.string a),.s (.string b)]∧v = .s r∧∀ w,Calls P g #[.string a,.string b] w fun e w'=>e = .returned r∧Below w.heap.size w w') :
 ∀ args v,p args=some v→∀ (K:Cx) (base:Nat) (h:AW) (cargs:Array Value),BW K base h→VRels K args cargs.toList→∀ N,CallsIn Fence.wide N P g cargs K.w (De K base h K.c v):=fun args v hp K base h cargs H hr N=>by
 obtain⟨a,b,r,rfl,rfl,hc⟩:=hf args v hp
 obtain⟨cl,rfl⟩:∃ l:List Value,cargs=l.toArray:=⟨cargs.toList,by simp⟩
 match cl,hr with
 | [x,y],hr=>
  simp only[VRels,As] at hr
  obtain⟨rfl,rfl,_⟩:=hr
  refine callsIn_wide.2 ((hc K.w).mono ?_)
  rintro e w' ⟨rfl,hb⟩
  exact PW H hb fun K'=>by simp[As]
 | [],hr=>simp[VRels] at hr
 | [_],hr=>simp[VRels] at hr
 | _ :: _ :: _ :: _,hr=>simp[VRels] at hr
theorem AEh {P:Program} {g:FuncId} {p:List AV→Option AV} (hf:∀ args v,p args=some v→∃ a k c r,args=[.s (.string a),.s (.int k c)]∧v = .s r∧∀ w,Calls P g #[.string a,.int k c] w fun e w'=>e = .returned r∧Below w.heap.size w w') :
 ∀ args v,p args=some v→∀ (K:Cx) (base:Nat) (h:AW) (cargs:Array Value),BW K base h→VRels K args cargs.toList→∀ N,CallsIn Fence.wide N P g cargs K.w (De K base h K.c v):=fun args v hp K base h cargs H hr N=>by
 obtain⟨a,k,c,r,rfl,rfl,hc⟩:=hf args v hp
 obtain⟨cl,rfl⟩:∃ l:List Value,cargs=l.toArray:=⟨cargs.toList,by simp⟩
 match cl,hr with
 | [x,y],hr=>
  simp only[VRels,As] at hr
  obtain⟨rfl,rfl,_⟩:=hr
  refine callsIn_wide.2 ((hc K.w).mono ?_)
  rintro e w' ⟨rfl,hb⟩
  exact PW H hb fun K'=>by simp[As]
 | [],hr=>simp[VRels] at hr
 | [_],hr=>simp[VRels] at hr
 | _ :: _ :: _ :: _,hr=>simp[VRels] at hr
def xZ:List (List AV)→Option (List ByteArray)
 | []=>some []
 | [.s (.string b)] :: rs=>(xZ rs).map fun l=>b :: l
 | _=>none
theorem xI:∀ {rows:List (List AV)} {l:List Str},X9 rows=some l→∃ xs,xZ rows=some xs∧xs.map (·.data.toList)=l∧xs.length=rows.length
 | [],l,h=>by cases h; exact⟨[],rfl,rfl,rfl⟩
 | r :: rs,l,h=>by
  unfold X9 at h
  split at h
  · rename_i e; cases e
  · rename_i b rs' e
    cases e
    obtain⟨l2,h1,rfl⟩:=Option.map_eq_some_iff.1 h
    obtain⟨xs,h2,h3,h4⟩:=xI h1
    exact⟨b :: xs,by simp only[xZ,h2,Option.map_some],by simp[h3],by simp[h4]⟩
  · cases h
theorem VP {K:Cx} {b:Nat}:∀ {rows:List (List AV)} {xs:List ByteArray} {o:Nat},xZ rows=some xs→RRel K.frz b o 1 rows→∀ (j:Nat) x,xs[j]? = some x→K.w.cell? ⟨b,o + j,none⟩=some (.string x)∧b < K.w.heap.size
 | [],xs,o,h,_,j,x,hx=>by cases h; simp at hx
 | r :: rs,xs,o,h,hr,j,x,hx=>by
  unfold xZ at h
  split at h
  · rename_i e; cases e
  · rename_i b' rs' e
    cases e
    obtain⟨l2,h1,rfl⟩:=Option.map_eq_some_iff.1 h
    simp only[RRel] at hr
    obtain⟨_,hc,hrest⟩:=hr
    cases j with
    | zero=>
     simp only[List.getElem?_cons_zero,Option.some.injEq] at hx
     subst hx
     simp only[CRel,As,and_true] at hc
     obtain⟨v,h2,h3,h4,h5⟩:=hc
     subst h5
     exact⟨h3,h2.1⟩
    | succ j=>
     have:=VP h1 hrest j x (by simpa using hx)
     rw[show o + (j + 1)=o + 1 + j by omega]
     exact this
  · cases h
theorem ABu {P:Program} {g:FuncId} (h0:∀ (a:Option Addr) (c:Nat) (sep:ByteArray) (w:World),Calls P g #[.slice a 0 c,.string sep] w fun e w'=>e = .returned (.string ⟨#[]⟩)∧w' = w)
 (h1:∀ (bk o c:Nat) (xs:List ByteArray) (sep:ByteArray) (w:World),(∀ (j:Nat) x,xs[j]? = some x→w.cell? ⟨bk,o + j,none⟩=some (.string x))→bk < w.heap.size→xs.length≤140737488355328→xs.length≤c→(Lib.join (xs.map (·.data.toList)) sep.data.toList).length≤140737488355328 →
  Calls P g #[.slice (some ⟨bk,o,none⟩) xs.length c,.string sep] w fun e w'=>e = .returned (.string ⟨(Lib.join (xs.map (·.data.toList)) sep.data.toList).toArray⟩)∧Below w.heap.size w w') :
 ∀ args v,YO args=some v→∀ (K:Cx) (base:Nat) (h:AW) (cargs:Array Value),BW K base h→VRels K args cargs.toList→∀ N,CallsIn Fence.wide N P g cargs K.w (De K base h K.c v):=fun args v hp K base h cargs H hr N=>by
 unfold YO at hp
 split at hp
 · rename_i x sep
   split at hp
   · rename_i l hl
     split at hp
     · rename_i hbound
       cases hp
       obtain⟨cl,rfl⟩:∃ l:List Value,cargs=l.toArray:=⟨cargs.toList,by simp⟩
       match cl,hr with
       | [y,z],hr=>
        simp only[VRels] at hr
        obtain⟨hx,hz,_⟩:=hr
        simp only[As] at hz
        subst hz
        have empty:∀ (a:Option Addr) (c:Nat),l=[]→CallsIn Fence.wide N P g #[.slice a 0 c,.string sep] K.w (De K base h K.c (.s (.string ⟨(Lib.join l sep.data.toList).toArray⟩))):=fun a c e=>by
         subst e
         refine callsIn_wide.2 ((h0 a c sep K.w).mono ?_)
         rintro e w' ⟨rfl,rfl⟩
         exact PW H (Below.refl _ _) fun K'=>by simp[As,Lib.join_nil]
        unfold AAU at hl
        split at hl
        · cases hl
          simp only[As] at hx
          subst hx
          exact empty none 0 rfl
        · cases hl
          simp only[As] at hx
          obtain⟨A,rfl,_⟩:=hx
          exact empty A 0 rfl
        · rename_i rows
          obtain⟨xs,e1,e2,e3⟩:=xI hl
          simp only[As] at hx
          obtain⟨A,cap,rfl,_,hcap,hcells⟩:=hx
          rcases hcells with hc | ⟨b,o,rfl,hc⟩
          · subst hc
            have:l=[]:=by cases hl; rfl
            exact empty A cap this
          · cases hxs:xs with
            | nil=>
             rw[hxs] at e2 e3
             have hrl:rows.length=0:=e3.symm
             rw[hrl]
             exact empty _ cap e2.symm
            | cons x0 xs0=>
             have hb:b < K.w.heap.size:=(VP e1 hc 0 x0 (by rw[hxs]; rfl)).2
             rw[← e2] at hbound ⊢
             rw[← e3] at hcap ⊢
             refine callsIn_wide.2 ((h1 b o cap xs sep K.w (fun j x hj=>(VP e1 hc j x hj).1) hb (by have:=hbound.1; simp at this; omega) hcap hbound.2).mono ?_)
             rintro e w' ⟨rfl,hbl⟩
             exact PW H hbl fun K'=>by simp[As]
        · cases hl
       | [],hr=>simp[VRels] at hr
       | [_],hr=>simp[VRels] at hr
       | _ :: _ :: _ :: _,hr=>simp[VRels] at hr
     · cases hp
   · cases hp
 · cases hp
theorem tL {a:List UInt8} (h:bD a=true):∀ (j:Nat) b,a[j]? = some b→b.toNat < 128:=fun j b hb=>by
 have:=List.all_eq_true.1 h b (List.mem_of_getElem? hb)
 simpa using this
theorem ABv {P:Program} {g:FuncId} {p:List AV→Option AV} (hf:∀ args v,p args=some v→∀ (K:Cx) (base:Nat) (h:AW) (cargs:Array Value),BW K base h→VRels K args cargs.toList→∀ N,CallsIn Fence.wide N P g cargs K.w (De K base h K.c v)) :
 ∀ args h n v h' n',uG p args h n=some (v,h',n')→∀ (K:Cx) (base:Nat) (cargs:Array Value),BW K base h→K.c=n→VRels K args cargs.toList→∀ N,CallsIn Fence.wide N P g cargs K.w (De K base h' n' v):=fun args h n v h' n' hp K base cargs H hc hr N=>by
 unfold uG at hp
 obtain⟨v2,h1,h2⟩:=Option.map_eq_some_iff.1 hp
 cases h2
 subst hc
 exact hf args v h1 K base h cargs H hr N
end Go.Vm
set_option maxRecDepth 100000
namespace Go.Proofs
open Go.Shelf
def Tryz.z213f:Nat→Nat
 | 213=>131
 | 265=>135
 | n=>n
def Tryz.z213t:Nat→Nat
 | 9=>9
 | 3=>3
 | n=>n
def Tryz.z213g:Nat→Nat
 | n=>n
def Tryz.z213r:Ren:=⟨Tryz.z213f,Tryz.z213t,Tryz.z213g⟩
theorem Tryz.z213:Lays.n213 Tryz.prog Tryz.z213r where
 mixed:=by kernel_rfl
 f213:=by kernel_rfl
 f265:=by kernel_rfl
 t3:=Tryz.underlying3
 a3:=Tryz.isAgg3
 z3:=Tryz.sizeOf3
 v3:=Tryz.zeroValue3
 t9:=Tryz.underlying9
 a9:=Tryz.isAgg9
 z9:=Tryz.sizeOf9
 v9:=Tryz.zeroValue9
def Tryz.z137f:Nat→Nat
 | 137=>123
 | 217=>132
 | 266=>136
 | n=>n
def Tryz.z137t:Nat→Nat
 | 9=>9
 | 5=>5
 | 3=>3
 | n=>n
def Tryz.z137g:Nat→Nat
 | n=>n
def Tryz.z137r:Ren:=⟨Tryz.z137f,Tryz.z137t,Tryz.z137g⟩
theorem Tryz.z137:Lays.n137 Tryz.prog Tryz.z137r where
 mixed:=by kernel_rfl
 f137:=by kernel_rfl
 f217:=by kernel_rfl
 f266:=by kernel_rfl
 t3:=Tryz.underlying3
 a3:=Tryz.isAgg3
 z3:=Tryz.sizeOf3
 v3:=Tryz.zeroValue3
 t5:=Tryz.underlying5
 a5:=Tryz.isAgg5
 z5:=Tryz.sizeOf5
 v5:=Tryz.zeroValue5
 t9:=Tryz.underlying9
 a9:=Tryz.isAgg9
 z9:=Tryz.sizeOf9
 v9:=Tryz.zeroValue9
def Tryz.z150f:Nat→Nat
 | 150=>53
 | 153=>82
 | 152=>104
 | 226=>105
 | 227=>106
 | 228=>107
 | 137=>123
 | 119=>124
 | 224=>125
 | 225=>126
 | 217=>132
 | 266=>136
 | n=>n
def Tryz.z150t:Nat→Nat
 | 9=>9
 | 4=>4
 | 3=>3
 | 5=>5
 | 21=>21
 | 117=>111
 | 116=>110
 | 0=>0
 | 46=>125
 | 124=>126
 | n=>n
def Tryz.z150g:Nat→Nat
 | n=>n
def Tryz.z150r:Ren:=⟨Tryz.z150f,Tryz.z150t,Tryz.z150g⟩
theorem Tryz.z150:Lays.n150 Tryz.prog Tryz.z150r where
 mixed:=by kernel_rfl
 f119:=by kernel_rfl
 f137:=by kernel_rfl
 f150:=by kernel_rfl
 f152:=by kernel_rfl
 f153:=by kernel_rfl
 f217:=by kernel_rfl
 f224:=by kernel_rfl
 f225:=by kernel_rfl
 f226:=by kernel_rfl
 f227:=by kernel_rfl
 f228:=by kernel_rfl
 f266:=by kernel_rfl
 t0:=Tryz.underlying0
 a0:=Tryz.isAgg0
 z0:=Tryz.sizeOf0
 v0:=Tryz.zeroValue0
 t3:=Tryz.underlying3
 a3:=Tryz.isAgg3
 z3:=Tryz.sizeOf3
 v3:=Tryz.zeroValue3
 t4:=Tryz.underlying4
 a4:=Tryz.isAgg4
 z4:=Tryz.sizeOf4
 v4:=Tryz.zeroValue4
 t5:=Tryz.underlying5
 a5:=Tryz.isAgg5
 z5:=Tryz.sizeOf5
 v5:=Tryz.zeroValue5
 t9:=Tryz.underlying9
 a9:=Tryz.isAgg9
 z9:=Tryz.sizeOf9
 v9:=Tryz.zeroValue9
 t21:=Tryz.underlying21
 a21:=Tryz.isAgg21
 z21:=Tryz.sizeOf21
 v21:=Tryz.zeroValue21
 t46:=Tryz.underlying125
 a46:=Tryz.isAgg125
 z46:=Tryz.sizeOf125
 v46:=Tryz.zeroValue125
 t116:=Tryz.underlying110
 a116:=Tryz.isAgg110
 z116:=Tryz.sizeOf110
 t117:=Tryz.underlying111
 a117:=Tryz.isAgg111
 z117:=Tryz.sizeOf111
 v117:=Tryz.zeroValue111
 t124:=Tryz.underlying126
 a124:=Tryz.isAgg126
 z124:=Tryz.sizeOf126
 v124:=Tryz.zeroValue126
def Tryz.z156f:Nat→Nat
 | 156=>44
 | 165=>74
 | 166=>75
 | 169=>76
 | 240=>101
 | 241=>102
 | 276=>121
 | 277=>122
 | n=>n
def Tryz.z156t:Nat→Nat
 | 31=>32
 | 9=>9
 | 3=>3
 | 4=>4
 | 0=>0
 | 20=>20
 | 72=>89
 | 76=>93
 | 70=>87
 | 37=>74
 | 75=>92
 | 127=>107
 | 164=>119
 | 5=>5
 | 80=>56
 | n=>n
def Tryz.z156g:Nat→Nat
 | n=>n
def Tryz.z156r:Ren:=⟨Tryz.z156f,Tryz.z156t,Tryz.z156g⟩
theorem Tryz.z156:Lays.n156 Tryz.prog Tryz.z156r where
 mixed:=by kernel_rfl
 f156:=by kernel_rfl
 f165:=by kernel_rfl
 f166:=by kernel_rfl
 f169:=by kernel_rfl
 f240:=by kernel_rfl
 f241:=by kernel_rfl
 f276:=by kernel_rfl
 f277:=by kernel_rfl
 t0:=Tryz.underlying0
 a0:=Tryz.isAgg0
 z0:=Tryz.sizeOf0
 v0:=Tryz.zeroValue0
 t3:=Tryz.underlying3
 a3:=Tryz.isAgg3
 z3:=Tryz.sizeOf3
 v3:=Tryz.zeroValue3
 t4:=Tryz.underlying4
 a4:=Tryz.isAgg4
 z4:=Tryz.sizeOf4
 v4:=Tryz.zeroValue4
 t9:=Tryz.underlying9
 a9:=Tryz.isAgg9
 z9:=Tryz.sizeOf9
 v9:=Tryz.zeroValue9
 t20:=Tryz.underlying20
 a20:=Tryz.isAgg20
 z20:=Tryz.sizeOf20
 v20:=Tryz.zeroValue20
 t31:=Tryz.underlying32
 a31:=Tryz.isAgg32
 z31:=Tryz.sizeOf32
 v31:=Tryz.zeroValue32
 t37:=Tryz.underlying74
 a37:=Tryz.isAgg74
 z37:=Tryz.sizeOf74
 v37:=Tryz.zeroValue74
 t70:=Tryz.underlying87
 a70:=Tryz.isAgg87
 z70:=Tryz.sizeOf87
 v70:=Tryz.zeroValue87
 t72:=Tryz.underlying89
 a72:=Tryz.isAgg89
 z72:=Tryz.sizeOf89
 v72:=Tryz.zeroValue89
 t75:=Tryz.underlying92
 a75:=Tryz.isAgg92
 z75:=Tryz.sizeOf92
 v75:=Tryz.zeroValue92
 t76:=Tryz.underlying93
 a76:=Tryz.isAgg93
 z76:=Tryz.sizeOf93
 v76:=Tryz.zeroValue93
 t127:=Tryz.underlying107
 a127:=Tryz.isAgg107
 z127:=Tryz.sizeOf107
 v127:=Tryz.zeroValue107
 t164:=Tryz.underlying119
 a164:=Tryz.isAgg119
 z164:=Tryz.sizeOf119
 v164:=Tryz.zeroValue119
theorem Tryz.z156x:Builder.Extra Tryz.prog Tryz.z156r where
 sizeBuilder:=by kernel_rfl
 liesBuilder:=by kernel_rfl
 t5:=by kernel_rfl
 a5:=Tryz.isAgg5
 z5:=Tryz.sizeOf5
 v5:=Tryz.zeroValue5
 infoByte:=by kernel_rfl
 cellsByte:=by kernel_rfl
 sizeByte:=by kernel_rfl
 neB5:=by decide
end Go.Proofs
namespace Go.Vm
open Go Go.RowKit Go.Proofs
def oC (fn:Func):Bool:=!(fn.name == "runtime.NumGoroutine") && (match fn.body with | some c=>Eq c | none=>true)
theorem AEF:E.P.funcs.toList.all oC=true:=by kernel_rfl
theorem NT:∀ args v,AD5 args=some v→∀ (K:Cx) (base:Nat) (h:AW) (cargs:Array Value),BW K base h→VRels K args cargs.toList→∀ N,CallsIn Fence.wide N E.P 131 cargs K.w (De K base h K.c v):=AAv fun args v hv=>by
 unfold AD5 at hv
 split at hv
 · rename_i a b
   cases hv
   exact⟨a,b,_,rfl,rfl,fun w=>(Go.Proofs.Any.bytealg_CompareString Go.Proofs.Tryz.z213 a b w).mono fun e w' ⟨h1,h2⟩=>⟨h1,h2 ▸ Below.refl _ _⟩⟩
 · cases hv
theorem R9:∀ args v,AFM args=some v→∀ (K:Cx) (base:Nat) (h:AW) (cargs:Array Value),BW K base h→VRels K args cargs.toList→∀ N,CallsIn Fence.wide N E.P 123 cargs K.w (De K base h K.c v):=AEh fun args v hv=>by
 unfold AFM at hv
 split at hv
 · rename_i a c
   cases hv
   exact⟨a,.u8,c,_,rfl,rfl,fun w=>(Go.Proofs.Any.strings_IndexByte Go.Proofs.Tryz.z137 a c w).mono fun e w' ⟨h1,h2⟩=>⟨h1,h2 ▸ Below.refl _ _⟩⟩
 · cases hv
theorem PU:∀ args v,ACg args=some v→∀ (K:Cx) (base:Nat) (h:AW) (cargs:Array Value),BW K base h→VRels K args cargs.toList→∀ N,CallsIn Fence.wide N E.P 53 cargs K.w (De K base h K.c v):=AAv fun args v hv=>by
 unfold ACg at hv
 split at hv
 · rename_i a b
   split at hv
   · rename_i h
     cases hv
     simp only[Bool.and_eq_true,decide_eq_true_eq] at h
     have z:=zero_of_info (P:=E.P) (t:=Go.Proofs.Tryz.z150r.t 116) (v:=.agg (Array.replicate 256 (.bool false))) (n:=256) (by kernel_rfl)
     exact⟨a,b,_,rfl,rfl,fun w=>Go.Proofs.Any.strings_ContainsAny Go.Proofs.Tryz.z150 z.1 z.2 a b w (by rw[Lib.size_eq]; exact h.1.2) (by rw[Lib.size_eq]; exact h.2) (tL h.1.1.1) (tL h.1.1.2)⟩
   · cases hv
 · cases hv
theorem Yw:∀ args v,YO args=some v→∀ (K:Cx) (base:Nat) (h:AW) (cargs:Array Value),BW K base h→VRels K args cargs.toList→∀ N,CallsIn Fence.wide N E.P 44 cargs K.w (De K base h K.c v):=ABu (fun a c sep w=>Go.Proofs.Any.strings_Join_none Go.Proofs.Tryz.z156 Go.Proofs.Tryz.z156x a c sep w) (fun bk o c xs sep w h1 h2 h3 h4 h5=>Go.Proofs.Any.strings_Join Go.Proofs.Tryz.z156 Go.Proofs.Tryz.z156x bk o c xs sep w h1 h2 h3 h4 h5)
theorem AFg:T0 E:=by
 have key:∀ (f:FuncId) (fn:Func),E.P.funcs[f]? = some fn→oC fn=true:=fun f fn hf=>by
  have:=List.all_eq_true.1 AEF fn (by
   obtain⟨h1,h2⟩:=Array.getElem?_eq_some_iff.1 hf
   rw[← h2]
   simp)
  exact this
 refine⟨fun f fn hf=>?_,fun f fn c hf hc=>?_,fun g p hp=>?_,fun g p hp=>?_⟩
 · have:=key f fn hf
   unfold oC at this
   rw[Bool.and_eq_true] at this
   simpa using this.1
 · have:=key f fn hf
   unfold oC at this
   rw[Bool.and_eq_true,hc] at this
   exact this.2
 · simp only[E] at hp
   split at hp
   · rename_i hg
     subst hg
     cases hp
     exact⟨⟨Go.Proofs.Tryz.f131,by kernel_rfl,by kernel_rfl⟩,NT⟩
   · skip
     split at hp
     · rename_i hg
       subst hg
       cases hp
       exact⟨⟨Go.Proofs.Tryz.f123,by kernel_rfl,by kernel_rfl⟩,R9⟩
     · skip
       split at hp
       · rename_i hg
         subst hg
         cases hp
         exact⟨⟨Go.Proofs.Tryz.f53,by kernel_rfl,by kernel_rfl⟩,PU⟩
       · skip
         cases hp
 · simp only[E] at hp
   split at hp
   · rename_i hg
     subst hg
     cases hp
     exact⟨⟨Go.Proofs.Tryz.f44,by kernel_rfl,by kernel_rfl⟩,ABv Yw⟩
   · skip
     cases hp
theorem ADE {g:FuncId} {vs vs':List AV} {m:Option Bool} (hc:Ct E g vs m (fun r=>bv r)) (hm:m=some true) (hp:E.prim g=none) (hpf:E.pf g=true) (hv:AI (VLe Rn.nil) vs vs') (hs:B4 (CC AW.nil depth) vs' = some (vs',false)) (w:World) (hG:∀ q,q∈glb→q.1 < w.heap.size∧∃ cs T fz,w.heap[q.1]? = some (.cells cs T fz)∧q.2 cs) {cargs:Array Value}
 (hr:VRels { w:=w,ι:=fun _=>(0,0,0),L:=fun _=>False,X:=fun _=>False,c:=0 } vs' cargs.toList) :
 Calls E.P g cargs w fun e w'=>e = .returned (.bool true)∧w'.os=w.os∧w'.tape=w.tape∧w'.output=w.output∧w.heap.size≤w'.heap.size∧(∀ b,b < w.heap.size→w'.heap[b]? = w.heap[b]?):=by
 obtain⟨u,h1,h2⟩:=hc true hm vs' hv AW.nil 0
 have hu:=h2.s_inv
 subst hu
 unfold C1 at h1
 rw[hp] at h1
 simp only[hpf,if_true,hs] at h1
 cases hcl:(FW E).call g vs' AW.nil 0 with
 | none=>rw[hcl] at h1; cases h1
 | some q=>
  obtain⟨v,h3,n3⟩:=q
  rw[hcl] at h1
  simp only at h1
  cases hsn:CC h3 depth v with
  | none=>rw[hsn] at h1; cases h1
  | some q2=>
   obtain⟨v',b2⟩:=q2
   rw[hsn] at h1
   simp only[Bool.false_and,Bool.false_eq_true,if_false,Option.some.injEq,Prod.mk.injEq] at h1
   obtain⟨k,hk⟩:=Jp.1 hcl
   have hpc:AAt E k g vs' = some (bv true):=by
    unfold AAt
    rw[hk]
    simp only[hsn,h1.1]
   refine (uX AFg (fun r=>yP r) hpc w hG hr).mono ?_
   rintro e w' ⟨cv,h4,h5,h6,h7,h8,h9,h10⟩
   simp only[As] at h10
   subst h10
   exact⟨h4,h5,h6,h7,h8,h9⟩
end Go.Vm
namespace Go.Vm
open Go
structure Ox {H:Type} (f:DataW H→Nat) (g:List (DataW H)→Nat):Prop where
 nil:g []=0
 cons:∀ d r,g (d :: r)=f d + g r
 pos:∀ d,1≤f d
 str:∀ l,f (.lit (.string l))=l.length + 1
 slice:∀ e s,f (.slice e s)=g e + g s + 1
 agg:∀ p,f (.agg p)=g p + 1
theorem Ox.sum {H:Type} {f:DataW H→Nat} {g:List (DataW H)→Nat} (B:Ox f g):∀ l,g l=(l.map f).sum
 | []=>B.nil
 | d :: r=>by rw[B.cons,B.sum r]; rfl
def Kw (W:World):Cx:={ w:=W,ι:=fun _=>(0,0,0),L:=fun _=>False,X:=fun _=>False,c:=0 }
def nB:AV→Bool
 | .s _=>true
 | .fsl ..=>true
 | .esl=>true
 | _=>false
theorem fT {h:AW} {k:Nat} {c:AV} (hc:nB c=true):CC h k c=some (c,false):=by
 cases c <;> first | (cases k <;> rfl) | cases hc
theorem Ye {h:AW} {k:Nat}:∀ {cs:List AV},cs.all nB=true→B4 (CC h k) cs=some (cs,false)
 | [],_=>rfl
 | c :: cs,hc=>by
  simp only[List.all_cons,Bool.and_eq_true] at hc
  simp only[B4,fT hc.1,Ye hc.2,Bool.or_self]
def xS:AV→Bool
 | .agg cs=>cs.all nB
 | c=>nB c
theorem AAR {h:AW} {k:Nat} {c:AV} (hc:xS c=true):CC h (k + 1) c=some (c,false):=by
 unfold xS at hc
 split at hc
 · simp only[CC,Ye hc,Option.map_some]
 · exact fT hc
theorem AAQ (h:AW):B4 (CC h depth) []=some ([],false):=rfl
theorem Yd {h:AW} {c:AV} {cs:List AV} (hc:xS c=true) (hs:B4 (CC h depth) cs=some (cs,false)):B4 (CC h depth) (c :: cs)=some (c :: cs,false):=by
 have h1:CC h depth c=some (c,false):=AAR hc
 simp only[B4,h1,hs,Bool.or_self]
section
variable {H:Type} {P:Program} {f:DataW H→Nat} {g:List (DataW H)→Nat}
structure Rd (P:Program) (f:DataW H→Nat) (t:TypeId) (n:Nat) {α:Type} (en:α→List AV) (ok:α→Prop) (μ:α→Nat):Prop where
 read:∀ {enc:TypeId × Value→H} {W:World} {fuel:Nat} {cs:List Value} {d:DataW H} {pl:List MemPlace},DataW.trod enc P W 0 (fun _=>true) true fuel t cs=some (d,pl) →
  ∃ x a,VRels (Kw W) a cs∧AI (VLe Rn.nil) (en x) a∧a.all nB=true∧ok x∧μ x≤f d∧cs.length=n∧(∀ v∈cs,v.oneCell' = true)
theorem Rd.str (B:Ox f g) {t:TypeId} (ht:P.underlying t=some .string):Rd P f t 1 (fun x:Str=>[bs x]) (fun _=>True) (fun x=>x.length + 1) where
 read h:=by
  obtain⟨s,rfl,e,_⟩:=DataW.trod_string ht h
  obtain⟨rfl,rfl⟩:=Prod.mk.inj e
  exact⟨s.data.toList,[.s (.string s)],by simp[VRels,As],⟨VLe.s_refl _,trivial⟩,rfl,trivial,by rw[B.str]; exact Nat.le_refl _,rfl,by simp; rfl⟩
theorem Rd.int (B:Ox f g) {t:TypeId} {k:IntKind} (ht:P.underlying t=some (.int k)):Rd P f t 1 (fun x:Int=>[.s (.int k x)]) (fun x=>(Lit.int k x).wf=true) (fun _=>1) where
 read h:=by
  obtain⟨n,rfl,e,w⟩:=DataW.trod_int ht h
  obtain⟨rfl,rfl⟩:=Prod.mk.inj e
  exact⟨n,[.s (.int k n)],by simp[VRels,As],⟨VLe.s_refl _,trivial⟩,rfl,w,B.pos _,rfl,by simp; rfl⟩
theorem Rd.bool (B:Ox f g) {t:TypeId} (ht:P.underlying t=some .bool):Rd P f t 1 (fun x:Bool=>[bv x]) (fun _=>True) (fun _=>1) where
 read h:=by
  obtain⟨n,rfl,e⟩:=DataW.trod_bool ht h
  obtain⟨rfl,rfl⟩:=Prod.mk.inj e
  exact⟨n,[bv n],by simp[VRels,As],⟨VLe.s_refl _,trivial⟩,rfl,trivial,B.pos _,rfl,by simp; rfl⟩
theorem VRels.len {K:Cx}:∀ {a:List AV} {x:List Value},VRels K a x→a.length=x.length
 | [],[],_=>rfl
 | _ :: a,_ :: x,h=>by simp only[List.length_cons]; rw[VRels.len (a:=a) (x:=x) (by simp only[VRels] at h; exact h.2)]
 | [],_ :: _,h=>by simp[VRels] at h
 | _ :: _,[],h=>by simp[VRels] at h
theorem AAe {W:World} {b:Nat}:∀ {a:List AV} {cs:List Value} {o:Nat},VRels (Kw W) a cs→(∀ i,i < cs.length→W.cell? ⟨b,o + i,none⟩=cs[i]?)→(∀ v∈cs,v.oneCell' = true)→CRel (Kw W) b o a
 | [],_,_,_,_,_=>by simp[CRel]
 | c :: a,[],_,h,_,_=>by simp[VRels] at h
 | c :: a,v :: cs,o,h,hc,h1=>by
  simp only[VRels] at h
  have h0:=hc 0 (by simp)
  simp only[Nat.add_zero,List.getElem?_cons_zero] at h0
  refine⟨⟨v,⟨?_,id,id⟩,h0,h1 v List.mem_cons_self,h.1⟩,AAe h.2 (fun i hi=>?_) fun u hu=>h1 u (List.mem_cons_of_mem _ hu)⟩
  · unfold World.cell? at h0
    split at h0
    · rename_i e
      exact (Array.getElem?_eq_some_iff.1 e).1
    · cases h0
  · have:=hc (i + 1) (by simp; omega)
    rw[Nat.add_assoc,Nat.add_comm 1 i,this]
    rfl
theorem Rd.slice (B:Ox f g) {t e:TypeId} {n:Nat} {α:Type} {en:α→List AV} {ok:α→Prop} {μ:α→Nat} (R:Rd P f e n en ok μ) (ht:P.underlying t=some (.slice e)) (hn:P.cellsOf e=n) (h0:0 < n) :
 Rd P f t 1 (fun x:List α=>[.fsl n (x.map en)]) (fun x=>∀ y∈x,ok y) (fun x=>(x.map μ).sum + 1) where
 read {enc W fuel cs d pl} h:=by
  rcases Deep.open_slice ht h with ⟨rfl,e'⟩ | ⟨a,len,cap,m,k,D,Pl,rfl,_,hl,_,hm,e',hx⟩
  · obtain⟨rfl,rfl⟩:=Prod.mk.inj e'
    exact⟨[],[AQ],by simp[VRels,As],⟨VLe.fsl_iff.2 (.inr ⟨rfl,.inl rfl⟩),trivial⟩,rfl,by simp,by simpa using B.pos _,rfl,by simp; rfl⟩
  · obtain⟨rfl,rfl⟩:=Prod.mk.inj e'
    have hlm:len≤m:=by rw[hm]; simpa using hl
    subst hn
    have hspot:0 < len→a.spot=none:=fun hp=>by
     obtain⟨cs',h1,h2⟩:=hx 0 (by omega)
     obtain⟨_,hlen,hc⟩:=World.cells?_some h1
     have:=hc 0 h0
     rw[List.getElem?_eq_getElem (by omega)] at this
     simp only[Nat.zero_mul,Addr.add,if_true] at this
     unfold World.cell? at this
     split at this
     · split at this
       · cases this
       · rename_i q; simpa using q
     · cases this
    obtain⟨ab,ao,sp⟩:=a
    have key:∀ j i,i + j=len→∃ (xs:List α) (rows:List (List AV)),RRel (Kw W) ab (ao + i * P.cellsOf e) (P.cellsOf e) rows∧AI (AI (VLe Rn.nil)) (xs.map en) rows∧xs.length=j∧(∀ x∈xs,ok x)∧(xs.map μ).sum≤((List.range' i j).map fun q=>f (D q)).sum:=by
     intro j
     induction j with
     | zero=>intro i _; exact⟨[],[],by simp[RRel],trivial,rfl,by simp,by simp⟩
     | succ j ih=>
      intro i hij
      obtain rfl:sp=none:=hspot (by omega)
      obtain⟨xs,rows,r1,r0,r2,r3,r4⟩:=ih (i + 1) (by omega)
      obtain⟨cs',h1,h2⟩:=hx i (by omega)
      obtain⟨x,a,x1,x0,_,x2,x3,x4,x5⟩:=R.read h2
      obtain⟨_,hlen,hc⟩:=World.cells?_some h1
      refine⟨x :: xs,a :: rows,?_,⟨x0,r0⟩,by simp[r2],by simpa using ⟨x2,r3⟩,?_⟩
      · simp only[RRel]
        refine⟨by rw[x1.len,x4],AAe x1 (fun q hq=>?_) x5,?_⟩
        · have:=hc q (by omega)
          rw[WideShapes.add_plain,WideShapes.add_plain] at this
          exact this
        · rw[Nat.add_assoc,show i * P.cellsOf e + P.cellsOf e=(i + 1) * P.cellsOf e by rw[Nat.add_mul,Nat.one_mul]]
          exact r1
      · simp only[List.map_cons,List.sum_cons,List.range'_succ]
        omega
    obtain⟨xs,rows,r1,r0,r2,r3,r4⟩:=key len 0 (by omega)
    have rl:rows.length=len:=by rw[r0.length,List.length_map,r2]
    refine⟨xs,[.fsl (P.cellsOf e) rows],?_,⟨VLe.fsl_iff.2 (.inl ⟨rows,rfl,r0⟩),trivial⟩,rfl,r3,?_,rfl,by simp; rfl⟩
    · simp only[VRels,As,and_true,rl]
      refine⟨some ⟨ab,ao,sp⟩,cap,rfl,by simp,hl,?_⟩
      rcases Nat.eq_zero_or_pos len with hz | hp
      · left
        exact List.length_eq_zero_iff.1 (by omega)
      · right
        obtain rfl:sp=none:=hspot hp
        exact⟨ab,ao,rfl,by rw[Nat.zero_mul,Nat.add_zero] at r1; exact r1⟩
    · rw[B.slice,B.sum,List.map_map,List.range_eq_range']
      have:(List.map (f ∘ D) (List.range' 0 len)).sum=((List.range' 0 len).map fun q=>f (D q)).sum:=rfl
      omega
structure Rds (P:Program) (f:DataW H→Nat) (g:List (DataW H)→Nat) (fs:List Field) (o n:Nat) {α:Type} (en:α→List AV) (ok:α→Prop) (μ:α→Nat):Prop where
 read:∀ {enc:TypeId × Value→H} {W:World} {fuel:Nat} {cs:List Value} {xs:List (DataW H × List MemPlace)},xs.length=fs.length→o + n≤cs.length →
  (∀ (i:Nat) (fd:Field),fs[i]? = some fd→DataW.trod enc P W 0 (fun _=>true) true fuel fd.type ((cs.drop fd.offset).take (P.cellsOf fd.type))=xs[i]?) →
  ∃ x a,VRels (Kw W) a ((cs.drop o).take n)∧AI (VLe Rn.nil) (en x) a∧a.all nB=true∧ok x∧μ x≤g (xs.map (·.1))∧(∀ v∈(cs.drop o).take n,v.oneCell' = true)
theorem Rds.nil (o:Nat):Rds P f g [] o 0 (fun _:Unit=>[]) (fun _=>True) (fun _=>0) where
 read _ _ _:=⟨(),[],by simp[VRels],trivial,rfl,trivial,Nat.zero_le _,by simp⟩
theorem Rds.cons (B:Ox f g) {fd:Field} {fs:List Field} {o n1 n2:Nat} {α β:Type} {e1:α→List AV} {ok1:α→Prop} {μ1:α→Nat} {e2:β→List AV} {ok2:β→Prop} {μ2:β→Nat} (R1:Rd P f fd.type n1 e1 ok1 μ1) (R2:Rds P f g fs (o + n1) n2 e2 ok2 μ2) (ho:fd.offset=o) (hn:P.cellsOf fd.type=n1) :
 Rds P f g (fd :: fs) o (n1 + n2) (fun x:α × β=>e1 x.1 ++ e2 x.2) (fun x=>ok1 x.1∧ok2 x.2) (fun x=>μ1 x.1 + μ2 x.2) where
 read {enc W fuel cs xs} hl hc h:=by
  cases xs with
  | nil=>simp at hl
  | cons y xs=>
   have h0:=h 0 fd rfl
   simp only[List.getElem?_cons_zero,ho,hn] at h0
   obtain⟨x1,l1,a1,a0,az,a2,a3,a4,a5⟩:=R1.read (d:=y.1) (pl:=y.2) h0
   obtain⟨x2,l2,b1,b0,bz,b2,b3,b5⟩:=R2.read (enc:=enc) (W:=W) (fuel:=fuel) (cs:=cs) (xs:=xs) (by simpa using hl) (by omega) (fun i fd' h'=>by have:=h (i + 1) fd' (by simpa using h'); simpa using this)
   have e:(cs.drop o).take (n1 + n2)=(cs.drop o).take n1 ++ (cs.drop (o + n1)).take n2:=by rw[List.take_add,List.drop_drop]
   refine⟨(x1,x2),l1 ++ l2,?_,a0.append b0,by rw[List.all_append,az,bz]; rfl,⟨a2,b2⟩,?_,?_⟩
   · rw[e]; exact a1.append b1
   · simp only[List.map_cons]; rw[B.cons]; omega
   · rw[e]
     intro v hv
     rcases List.mem_append.1 hv with hv | hv
     · exact a5 v hv
     · exact b5 v hv
theorem Rd.struct (B:Ox f g) {t:TypeId} {fs:Array Field} {n:Nat} {α β:Type} {en:α→List AV} {ok:α→Prop} {μ:α→Nat} (R:Rds P f g fs.toList 0 n en ok μ) (ht:P.underlying t=some (.struct fs)) (hn:P.cellsOf t=n) (mk:α→β) (hs:∀ y,∃ x,mk x=y) {en':β→List AV} (he:∀ x,en' (mk x)=en x) {ok':β→Prop} (hk:∀ x,ok x→ok' (mk x)) {μ':β→Nat} (hm:∀ x,μ' (mk x)≤μ x + 1) :
 Rd P f t n en' ok' μ' where
 read {enc W fuel cs d pl} h:=by
  obtain⟨xs,k,_,e,hl,hx,hf⟩:=DataW.trod_struct ht h
  obtain⟨rfl,rfl⟩:=Prod.mk.inj e
  obtain⟨x,a,h1,h0,hz,h2,h3,h4⟩:=R.read (enc:=enc) (W:=W) (fuel:=k) (cs:=cs) (xs:=xs) (by simpa using hx) (by omega) (fun i fd h'=>hf i fd (by simpa using h'))
  rw[List.drop_zero,List.take_of_length_le (by omega)] at h1 h4
  refine⟨mk x,a,h1,by rw[he]; exact h0,hz,hk x h2,?_,by omega,h4⟩
  rw[B.agg]
  have:=hm x
  omega
theorem Rd.arg1 {t:TypeId} {α:Type} {c:α→AV} {ok:α→Prop} {μ:α→Nat} (R:Rd P f t 1 (fun x=>[c x]) ok μ) {enc:TypeId × Value→H} {W:World} {v:Value} {d:DataW H} {pl:List MemPlace} (hv:v.cells = #[v]) (h:DataW.Trod enc P W 0 (fun _=>true) true t v d pl) :
 ∃ x b,As (Kw W) b v∧ok x∧μ x≤f d∧VLe Rn.nil (c x) b∧xS b=true:=by
 obtain⟨fuel,h⟩:=h
 obtain⟨x,a,h1,h0,hz,h2,h3,_⟩:=R.read h
 rw[hv] at h1
 match a,h0 with
 | [b],h0=>
  simp only[VRels,and_true] at h1
  simp only[List.all_cons,List.all_nil,Bool.and_true] at hz
  refine⟨x,b,h1,h2,h3,h0.1,?_⟩
  unfold xS
  split
  · cases hz
  · exact hz
 | [],h0=>exact h0.elim
 | _ :: _ :: _,h0=>exact h0.2.elim
theorem VZ {P:Program} {W:World} {r:Reach} {b:Nat} {t:TypeId} {v:Value} (ht:P.underlying t=some .string) (h:Value.okWide P W r b t v):v.cells = #[v]:=by
 unfold Value.okWide Cell.okWide Cell.ok at h
 rw[ht] at h
 cases v <;> first | rfl | simp at h
theorem lN {enc:TypeId × Value→H} (hl:laidOutB P=true) {W W':World} (hb:RowKit.Below W.heap.size W W') {sp:Nat→Bool}:∀ {ts:List TypeId} {vs:List Value} {ds:List (DataW H)} {ps:List MemPlace},(∀ t∈ts,P.readableRec t=true∧t < P.types.size)→DataW.TrodAll enc P W 0 (fun _=>true) true ts vs ds ps→(∀ x∈ps,x.block < W.heap.size)→(∀ x∈ps,sp x.block=true) →
 DataW.TrodAll enc P W' 0 sp true ts vs ds ps
 | [],[],[],_,_,h,_,_=>h
 | t :: ts,v :: vs,d :: ds,ps,hr,h,h1,h2=>by
  obtain⟨p,q,h3,h4,rfl⟩:=h
  exact⟨p,q,WideElems.Trod_stays hl (hr t List.mem_cons_self).1 (hr t List.mem_cons_self).2 h3 (fun x hx=>hb.same (h1 x (List.mem_append_left _ hx))) (fun x hx=>h2 x (List.mem_append_left _ hx)),
   lN hl hb (fun u hu=>hr u (List.mem_cons_of_mem _ hu)) h4 (fun x hx=>h1 x (List.mem_append_right _ hx)) (fun x hx=>h2 x (List.mem_append_right _ hx)),rfl⟩
 | [],_ :: _,_,_,_,h,_,_=>h.elim
 | [],[],_ :: _,_,_,h,_,_=>h.elim
 | _ :: _,[],_,_,_,h,_,_=>h.elim
 | _ :: _,_ :: _,[],_,_,h,_,_=>h.elim
end
end Go.Vm
namespace Go.Vm
open Go
section
variable {σ τ:Type} {f:σ→Option (Step σ τ)}
theorem HP {x y:σ} (h:f x=some (.next y)):CD f x=CD f y:=by rw[uK,h]; rfl
theorem Da {x:σ} {t:τ} (h:f x=some (.done t)):CD f x=some t:=by rw[uK,h]; rfl
theorem D7 (I:σ→Prop) (μ:σ→Nat) (g:σ→τ) (h:∀ x,I x→f x=some (.done (g x))∨∃ y,f x=some (.next y)∧I y∧μ y < μ x∧g y=g x) {x:σ} (hx:I x):CD f x=some (g x):=by
 have key:∀ n x,I x→μ x≤n→CD f x=some (g x):=by
  intro n
  induction n with
  | zero=>
   intro x hx hn
   rcases h x hx with h1 | ⟨y,_,_,h3,_⟩
   · exact Da h1
   · omega
  | succ n ih=>
   intro x hx hn
   rcases h x hx with h1 | ⟨y,h1,h2,h3,h4⟩
   · exact Da h1
   · rw[HP h1,ih y h2 (by omega),h4]
 exact key _ x hx (Nat.le_refl _)
theorem ABf (I:σ→Prop) (μ:σ→Nat) (P:τ→Prop) (h:∀ x,I x→(∃ t,f x=some (.done t)∧P t)∨∃ y,f x=some (.next y)∧I y∧μ y < μ x) {x:σ} (hx:I x):∃ t,CD f x=some t∧P t:=by
 have key:∀ n x,I x→μ x≤n→∃ t,CD f x=some t∧P t:=by
  intro n
  induction n with
  | zero=>
   intro x hx hn
   rcases h x hx with ⟨t,h1,h2⟩ | ⟨y,_,_,h3⟩
   · exact⟨t,Da h1,h2⟩
   · omega
  | succ n ih=>
   intro x hx hn
   rcases h x hx with ⟨t,h1,h2⟩ | ⟨y,h1,h2,h3⟩
   · exact⟨t,Da h1,h2⟩
   · rw[HP h1]
     exact ih y h2 (by omega)
 exact key _ x hx (Nat.le_refl _)
end
theorem CR {x:Int} (h1 : -9223372036854775808≤x) (h2:x≤9223372036854775807):w64 x=x:=AFK h1 h2
theorem Mr {s:Str} {i:Nat} (h:i < s.length):idx s (i:Int)=some (s[i].toNat:Int):=by
 unfold idx
 rw[if_pos (by omega),Int.toNat_natCast,List.getElem?_eq_getElem h]
 rfl
theorem E6 {α:Type} {l:List α} {i:Nat} (h:i < l.length):ixl l (i:Int)=some l[i]:=by
 unfold ixl
 rw[if_pos (by omega),Int.toNat_natCast,List.getElem?_eq_getElem h]
theorem Ot {α:Type} {l:List α} {i j:Nat} (h1:i≤j) (h2:j≤l.length):E0 l (i:Int) (j:Int)=some ((l.drop i).take (j - i)):=by
 unfold E0
 rw[if_pos ⟨by omega,by omega,by omega⟩]
 rfl
theorem TK {α:Type} {l:List α} {i:Nat} (h:i≤l.length):E0 l (i:Int) (l.length:Int)=some (l.drop i):=by
 rw[Ot h (Nat.le_refl _),List.take_of_length_le (by simp)]
theorem YA {α:Type} {l:List α} {j:Nat} (h:j≤l.length):E0 l 0 (j:Int)=some (l.take j):=by
 have:=Ot (l:=l) (i:=0) (j:=j) (Nat.zero_le _) h
 simpa using this
theorem HK (a c:UInt8):((a.toNat:Int) == (c.toNat:Int))=(a == c):=AFZ
theorem ACb {a b:Str} (h:a.length + b.length≤9223372036854775807):cat a b=some (a ++ b):=by
 unfold cat; rw[if_pos h]
theorem ADk {s:Str} (h:s.length≤9223372036854775807):tob s=some (s.map fun c=>(c.toNat:Int)):=by
 unfold tob; rw[if_pos h]
theorem UM {α:Type} {b:Nat} {l m:List α} (h1:(l.length + m.length) * b≤140737488355328) (h2:l.length + m.length≤9223372036854775807):app b l m=some (l ++ m):=by
 unfold app; rw[if_pos ⟨h1,h2⟩]
def Ci (p:UInt8→Bool) (s:Str) (i:Nat):Nat:=i + ((s.drop i).takeWhile p).length
theorem Wc {p:UInt8→Bool} {s:Str} {i:Nat} (h:i≤s.length):Ci p s i≤s.length:=by
 unfold Ci
 have:=(List.takeWhile_prefix p (l:=s.drop i)).length_le
 simp only[List.length_drop] at this
 omega
theorem aV (p:UInt8→Bool) (s:Str) (i:Nat):i≤Ci p s i:=by unfold Ci; omega
theorem wQ (p:UInt8→Bool) (s:Str):Ci p s s.length=s.length:=by simp[Ci]
theorem wR {p:UInt8→Bool} {s:Str} {i:Nat} (h:i < s.length) (hp:p s[i]=true):Ci p s i=Ci p s (i + 1):=by
 unfold Ci
 rw[List.drop_eq_getElem_cons h,List.takeWhile_cons_of_pos hp,List.length_cons]
 omega
theorem AAz {p:UInt8→Bool} {s:Str} {i:Nat} (h:i < s.length) (hp:p s[i]=false):Ci p s i=i:=by
 unfold Ci
 rw[List.drop_eq_getElem_cons h,List.takeWhile_cons_of_neg (by simp[hp])]
 simp
theorem X3 {f:Int→Option (Step Int Int)} {p:UInt8→Bool} {s:Str} (hend:f (s.length:Int)=some (.done (s.length:Int))) (hstep:∀ (i:Nat) (h:i < s.length),f (i:Int)=if p s[i]=true then some (.next ((i + 1:Nat):Int)) else some (.done (i:Int))) {i:Nat} (hi:i≤s.length) :
 CD f (i:Int)=some (Ci p s i:Int):=by
 have:=D7 (f:=f) (fun x=>∃ i:Nat,x=i∧i≤s.length) (fun x=>s.length - x.toNat) (fun x=>(Ci p s x.toNat:Int)) (fun x hx=>by
  obtain⟨i,rfl,hi⟩:=hx
  simp only[Int.toNat_natCast]
  rcases Nat.lt_or_ge i s.length with h | h
  · cases hp:p s[i] with
    | true=>
     right
     refine⟨((i + 1:Nat):Int),by rw[hstep i h,if_pos hp],⟨i + 1,rfl,h⟩,by rw[Int.toNat_natCast]; omega,?_⟩
     rw[Int.toNat_natCast,wR h hp]
    | false=>left; rw[hstep i h,hp,AAz h hp]; rfl
  · have:i=s.length:=by omega
    subst this
    left
    rw[hend,wQ]) (x:=(i:Int)) ⟨i,rfl,hi⟩
 simpa using this
end Go.Vm
namespace Go.Vm
open Go
def Ee (c:UInt8):Bool:=c == 48
def Dz (s:Str):Str:=if s.dropWhile Ee=[] then [48] else s.dropWhile Ee
theorem aG (s:Str) (hs:s.length≤4611686018427387904):DB s 48=some (s.dropWhile Ee):=by
 unfold DB
 rw[D7 (fun x=>x.length≤4611686018427387904) (fun x=>x.length) (fun x=>x.dropWhile Ee) (fun x hx=>?_) hs]
 · rfl
 · cases x with
   | nil=>left; simp[DC]
   | cons c x=>
    have h0:idx (c :: x) 0=some (c.toNat:Int):=Mr (s:=c :: x) (i:=0) (by simp)
    have h1:E0 (c :: x) 1 ((c :: x).length:Int)=some x:=by
     have:=TK (l:=c :: x) (i:=1) (by simp)
     simpa using this
    have h2:((c.toNat:Int) == 48)=Ee c:=HK c 48
    cases hc:Ee c with
    | true=>
     right
     refine⟨x,?_,by simp only[List.length_cons] at hx; omega,by simp,by rw[List.dropWhile_cons_of_pos hc]⟩
     unfold DC
     rw[h0,h1]
     simp only[List.length_cons,Option.bind_some,h2,hc]
     rw[if_pos (by simp; try omega)]
     rfl
    | false=>
     left
     unfold DC
     rw[h0]
     simp only[List.length_cons,Option.bind_some,h2,hc,List.dropWhile_cons]
     rw[if_pos (by simp; try omega)]
     rfl
theorem Gt (s:Str) (hs:s.length≤4611686018427387904):ES s=some (Dz s):=by
 unfold ES D3
 have h1:(if ((s == []) && true)=true then some s else Option.bind (DB s 48) (fun x1=>some x1))=some (s.dropWhile Ee):=by
  cases s with
  | nil=>simp
  | cons c s=>
   rw[if_neg (by simp),aG _ hs]
   rfl
 rw[h1]
 simp only[Option.bind_some,Dz,beq_iff_eq]
 split <;> rfl
theorem Wu (p:UInt8→Bool) (s:Str):s.drop (Ci p s 0)=s.dropWhile p:=by
 unfold Ci
 simp only[List.drop_zero,Nat.zero_add]
 induction s with
 | nil=>rfl
 | cons c s ih=>
  cases hc:p c with
  | true=>rw[List.takeWhile_cons_of_pos hc,List.dropWhile_cons_of_pos hc,List.length_cons,List.drop_succ_cons,ih]
  | false=>rw[List.takeWhile_cons_of_neg (by simp[hc]),List.dropWhile_cons_of_neg (by simp[hc])]; rfl
theorem UD (s:Str) (hs:s.length≤4611686018427387904):HU s=some (Dz s):=by
 unfold HU
 have hl:CD (HD s) 0=some (Ci Ee s 0:Int):=by
  refine X3 (p:=Ee) (s:=s) (i:=0) ?_ ?_ (Nat.zero_le _)
  · unfold HD
    rw[if_neg (by simp)]
    rfl
  · intro i h
    unfold HD
    rw[if_pos (by simp; omega),Mr h]
    simp only[Option.bind_some]
    rw[show ((s[i].toNat:Int) == 48)=Ee s[i] from HK _ 48,CR (by omega) (by omega)]
    cases Ee s[i] <;> rfl
 rw[hl]
 simp only[Option.bind_some]
 have hle:Ci Ee s 0≤s.length:=Wc (Nat.zero_le _)
 rw[TK hle]
 simp only[Option.bind_some,Wu,Dz]
 by_cases h:s.dropWhile Ee=[]
 · have:Ci Ee s 0=s.length:=by
    have:=congrArg List.length (Wu Ee s)
    rw[h] at this
    simp only[List.length_drop,List.length_nil] at this
    omega
   rw[if_pos h,if_pos (by rw[this]; simp)]
 · have:Ci Ee s 0≠s.length:=by
    intro e
    have:=congrArg List.length (Wu Ee s)
    rw[e] at this
    simp only[List.length_drop,Nat.sub_self] at this
    exact h (List.length_eq_zero_iff.1 this.symm)
   rw[if_neg h,if_neg (by simp; omega)]
theorem nJ (s:Str):(Dz s).length≤s.length + 1:=by
 unfold Dz
 split
 · simp
 · exact Nat.le_succ_of_le (List.dropWhile_suffix _).length_le
def LR (a b:Int):Int:=if a < b then -1 else if b < a then 1 else 0
theorem HM (a b:Int):Dq a b=some (LR a b):=by
 have h:∀ x:Int,Fs x=some false:=fun x=>by simp[Fs]
 unfold Dq LR
 rw[h,h]
 simp only[Option.bind_some,Bool.false_eq_true,if_false,decide_eq_true_eq,gt_iff_lt]
 split
 · rfl
 · split <;> rfl
theorem T3 (l:List Int) (hl:l.length≤4611686018427387904):JO l=some ((l.find? (· != 0)).getD 0):=by
 unfold JO
 have:=D7 (f:=G3 l) (fun x=>∃ i:Nat,x=i∧i≤l.length) (fun x=>l.length - x.toNat) (fun x=>match (l.drop x.toNat).find? (· != 0) with | some y=>Sum.inl y | none=>Sum.inr ()) (fun x hx=>by
  obtain⟨i,rfl,hi⟩:=hx
  simp only[Int.toNat_natCast]
  rcases Nat.lt_or_ge i l.length with h | h
  · unfold G3
    rw[if_pos (by simp; omega),E6 h,List.drop_eq_getElem_cons h]
    simp only[Option.bind_some,List.find?_cons]
    cases hc:l[i] != 0 with
    | true=>left; rfl
    | false=>
     right
     refine⟨((i + 1:Nat):Int),by rw[if_neg (by simp),CR (by omega) (by omega)]; rfl,⟨i + 1,rfl,h⟩,by rw[Int.toNat_natCast]; omega,by rw[Int.toNat_natCast]⟩
  · have:i=l.length:=by omega
    subst this
    left
    unfold G3
    rw[if_neg (by simp)]
    simp) (x:=0) ⟨0,rfl,Nat.zero_le _⟩
 rw[this]
 simp only[Option.bind_some,Int.toNat_zero,List.drop_zero]
 cases l.find? (· != 0) <;> rfl
theorem MJ (a b:Str):Fq a b=some (Lib.compareBytes a b):=rfl
def Wr (a b:Str):Int:=if LR (Dz a).length (Dz b).length≠0 then LR (Dz a).length (Dz b).length else Lib.compareBytes (Dz a) (Dz b)
theorem AFh (x y:Int):(([x,y].find? (· != 0)).getD 0)=if x≠0 then x else y:=by
 by_cases h:x=0
 · subst h
   by_cases h2:y=0
   · subst h2; rfl
   · simp[h2]
 · simp[h]
theorem HZ (a b:Str) (ha:a.length≤4611686018427387904) (hb:b.length≤4611686018427387904):HE a b=some (Wr a b):=by
 unfold HE
 rw[Gt a ha,Gt b hb]
 simp only[Option.bind_some,HM,MJ]
 rw[T3 _ (by simp),AFh]
 rfl
def isB (c k:Int):Bool:=
 if k=1 then decide (48≤c) && decide (c≤57)
 else if k=2 then decide (97≤c) && decide (c≤122)
 else if k=3 then decide (65≤c) && decide (c≤90)
 else if k=4 then decide (97≤c) && decide (c≤122) || decide (65≤c) && decide (c≤90)
 else if k=5 then decide (48≤c) && decide (c≤57) || decide (97≤c) && decide (c≤122) || decide (65≤c) && decide (c≤90)
 else if k=6 then c == 32 || c == 9
 else if k=7 then c == 32 || c == 9 || c == 10 || c == 13
 else false
theorem FG (c k:Int):Ep c k=some (isB c k):=by
 unfold Ep isB
 simp only[beq_iff_eq,ge_iff_le]
 repeat (split; first | rfl | skip)
 rfl
theorem M1 (c k:Int):MF c k=some (isB c k):=by
 unfold MF isB
 simp only[beq_iff_eq,ge_iff_le]
 repeat (split; first | rfl | (simp only[Option.some.injEq]; rw[Bool.eq_iff_iff]; simp only[Bool.or_eq_true,Bool.and_eq_true,decide_eq_true_eq,beq_iff_eq]; omega) | skip)
 rfl
def isP (k:Int) (c:UInt8):Bool:=isB c.toNat k
def wS (s:Str) (at' k:Int):Int:=if at' < 0∨s.length < at' then at' else (Ci (isP k) s at'.toNat:Int)
theorem rA (s:Str) (at' k:Int) (hs:s.length≤4611686018427387904):Fw s at' k=some (wS s at' k):=by
 unfold Fw wS
 simp only[Bool.or_eq_true,decide_eq_true_eq,gt_iff_lt]
 split
 · rfl
 · rename_i h
   obtain⟨i,rfl⟩:∃ i:Nat,at' = i:=⟨at'.toNat,by omega⟩
   rw[X3 (p:=isP k) (s:=s) (i:=i) ?_ ?_ (by omega)]
   · simp
   · unfold LY
     rw[if_neg (by simp)]
     rfl
   · intro j hj
     unfold LY
     rw[if_pos (by simp; omega),Mr hj]
     simp only[Option.bind_some,M1]
     rw[CR (by omega) (by omega)]
     show _=if isB _ k=true then _ else _
     cases isB s[j].toNat k <;> rfl
theorem Sj (s:Str) (at' k:Int) (hs:s.length≤4611686018427387904):Dy s at' k=some (wS s at' k):=by
 unfold Dy wS
 simp only[Bool.or_eq_true,decide_eq_true_eq,gt_iff_lt]
 split
 · rfl
 · rename_i h
   obtain⟨i,rfl⟩:∃ i:Nat,at' = i:=⟨at'.toNat,by omega⟩
   have:=D7 (f:=Kk s i k) (fun x=>∃ j:Nat,x=j∧i + j≤s.length) (fun x=>s.length - x.toNat) (fun x=>if Ci (isP k) s (i + x.toNat)=s.length then Sum.inr () else Sum.inl (Ci (isP k) s (i + x.toNat):Int)) (fun x hx=>by
    obtain⟨j,rfl,hj⟩:=hx
    simp only[Int.toNat_natCast]
    rcases Nat.lt_or_ge (i + j) s.length with h | h
    · have hi:=Mr h
      have e:w64 ((i:Int) + (j:Int))=((i + j:Nat):Int):=by rw[CR (by omega) (by omega)]; omega
      unfold Kk
      rw[if_pos (by rw[CR (by omega) (by omega)]; simp; omega),e,hi]
      simp only[Option.bind_some,FG]
      cases hc:isB s[i + j].toNat k with
      | true=>
       right
       have e2:w64 ((j:Int) + 1)=((j + 1:Nat):Int):=by rw[CR (by omega) (by omega)]; omega
       refine⟨((j + 1:Nat):Int),by rw[e2]; rfl,⟨j + 1,rfl,by omega⟩,by rw[Int.toNat_natCast]; omega,?_⟩
       rw[Int.toNat_natCast,← Nat.add_assoc,← wR h hc]
      | false=>
       left
       rw[AAz h hc,if_neg (show ¬ (i + j=s.length) by omega)]
       rfl
    · have:i + j=s.length:=by omega
      left
      unfold Kk
      rw[if_neg (by rw[CR (by omega) (by omega)]; simp; omega),this,wQ]
      simp) (x:=0) ⟨0,rfl,by omega⟩
   rw[this]
   simp only[Option.bind_some,Int.toNat_zero,Nat.add_zero,Int.toNat_natCast]
   by_cases he:Ci (isP k) s i=s.length
   · rw[if_pos he,he]
   · rw[if_neg he]
end Go.Vm
namespace Go.Vm
open Go
def AAj (s:Str):Prop:=∀ c∈s,48≤c.toNat∧c.toNat≤57
def val:Str→Nat
 | []=>0
 | c :: s=>(c.toNat - 48) * 10 ^ s.length + val s
theorem ACh {s:Str} (h:AAj s):AAj (Dz s):=by
 unfold Dz
 split
 · intro c hc
   simp only[List.mem_singleton] at hc
   subst hc
   decide
 · intro c hc
   exact h c ((List.dropWhile_suffix _).subset hc)
theorem fI (s:Str):Dz s=[48]∨∃ c t,Dz s=c :: t∧c≠48:=by
 unfold Dz
 split
 · left; rfl
 · rename_i h
   right
   obtain⟨c,t,e⟩:=List.exists_cons_of_ne_nil h
   refine⟨c,t,e,fun hc=>?_⟩
   have:Ee c=false:=by
    have:=List.head_dropWhile_not Ee h
    simpa[e] using this
   subst hc
   exact absurd this (by decide)
theorem AEy {x:Int} (h1:0≤x) (h2:x≤255):IntKind.wrap .u8 x=x:=by
 unfold IntKind.wrap
 simp[IntKind.bits,IntKind.signed]
 omega
end Go.Vm
namespace Go.Vm
open Go
def AFn (c:Int):Bool:=((((isB c 5 || (c == 46)) || (c == 95)) || (c == 43)) || (c == 126)) || (c == 94)
def AFo (c:UInt8):Bool:=AFn c.toNat
end Go.Vm
namespace Go.Vm
open Go
theorem C2 {p:UInt8→Bool} (l:Str):(l.dropWhile p).length≤l.length:=(List.dropWhile_suffix p).length_le
theorem AAg {p:UInt8→Bool}:∀ l:Str,l.drop (l.takeWhile p).length=l.dropWhile p
 | []=>rfl
 | c :: l=>by
  cases h:p c with
  | true=>rw[List.takeWhile_cons_of_pos h,List.dropWhile_cons_of_pos h,List.length_cons,List.drop_succ_cons,AAg l]
  | false=>rw[List.takeWhile_cons_of_neg (by simp[h]),List.dropWhile_cons_of_neg (by simp[h])]; rfl
theorem AA2 {p:UInt8→Bool}:∀ l:Str,l.take (l.takeWhile p).length=l.takeWhile p
 | []=>rfl
 | c :: l=>by
  cases h:p c with
  | true=>rw[List.takeWhile_cons_of_pos h,List.length_cons,List.take_succ_cons,AA2 l]
  | false=>rw[List.takeWhile_cons_of_neg (by simp[h])]; rfl
theorem YH {α β γ:Type} (a:Option α) (f:α→Option β) (g:β→Option γ):Option.bind (Option.bind a f) g=Option.bind a fun x=>Option.bind (f x) g:=by cases a <;> rfl
end Go.Vm
namespace Go.Vm
open Go
structure Ls {α:Type} (c:α→α→Int):Prop where
 lo:∀ x y, -1≤c x y
 hi:∀ x y,c x y≤1
 refl:∀ x,c x x=0
 anti:∀ x y,c y x = -c x y
 trans:∀ x y z,c x y≤0→c y z≤0→c x z≤0
theorem Ls.eq_left {α:Type} {c:α→α→Int} (h:Ls c) {x y:α} (e:c x y=0) (z:α):c x z=c y z:=by
 have e':c y x=0:=by rw[h.anti,e]; rfl
 have h1:=h.lo x z
 have h2:=h.hi x z
 have h3:=h.lo y z
 have h4:=h.hi y z
 have a1:=h.trans x y z (by omega)
 have a2:=h.trans y x z (by omega)
 have b1:=h.trans z x y
 have b2:=h.trans z y x
 rw[h.anti x z,h.anti y z] at b1 b2
 have b1':=b1
 omega
theorem cV:Ls (fun x y:Int=>LR x y) where
 lo x y:=by unfold LR; split <;> (try split) <;> omega
 hi x y:=by unfold LR; split <;> (try split) <;> omega
 refl x:=by unfold LR; simp
 anti x y:=by simp only[LR]; split <;> split <;> (try split) <;> omega
 trans x y z:=by simp only[LR]; repeat (split <;> try omega)
theorem Ls.map {α β:Type} {c:β→β→Int} (h:Ls c) (f:α→β):Ls (fun x y=>c (f x) (f y)):=
 ⟨fun _ _=>h.lo _ _,fun _ _=>h.hi _ _,fun _=>h.refl _,fun _ _=>h.anti _ _,fun _ _ _=>h.trans _ _ _⟩
def lex2 {α:Type} (c d:α→α→Int) (x y:α):Int:=if c x y≠0 then c x y else d x y
theorem Ls.lex2 {α:Type} {c d:α→α→Int} (h:Ls c) (k:Ls d):Ls (lex2 c d) where
 lo x y:=by unfold Vm.lex2; split; exact h.lo _ _; exact k.lo _ _
 hi x y:=by unfold Vm.lex2; split; exact h.hi _ _; exact k.hi _ _
 refl x:=by unfold Vm.lex2; rw[if_neg (by simp[h.refl])]; exact k.refl _
 anti x y:=by
  unfold Vm.lex2
  rw[h.anti x y,k.anti x y]
  by_cases e:c x y=0
  · rw[if_neg (by omega),if_neg (by omega)]
  · rw[if_pos (by omega),if_pos e]
 trans x y z:=by
  unfold Vm.lex2
  intro h1 h2
  by_cases e1:c x y=0
  · rw[if_neg (by omega)] at h1
    have:=h.eq_left e1 z
    rw[this]
    by_cases e2:c y z=0
    · rw[if_neg (by omega)] at h2 ⊢
      exact k.trans _ _ _ h1 h2
    · rw[if_pos e2] at h2 ⊢
      exact h2
  · rw[if_pos e1] at h1
    have e1':=h.lo x y
    by_cases e2:c y z=0
    · have h3:=h.anti y z
      have:=h.eq_left (x:=z) (y:=y) (by omega) x
      have a1:=h.anti x z
      have a2:=h.anti x y
      rw[if_pos (by omega)]
      omega
    · rw[if_pos e2] at h2
      have h3:=h.trans x y z h1 h2
      by_cases e3:c x z=0
      · exfalso
        have:=h.eq_left e3 y
        have a1:=h.anti y z
        omega
      · rw[if_pos e3]; exact h3
def Et {α:Type} (c:α→α→Int):List α→List α→Int
 | [],[]=>0
 | [],_ :: _=> -1
 | _ :: _,[]=>1
 | x :: xs,y :: ys=>if c x y≠0 then c x y else Et c xs ys
theorem oR {α:Type} {c:α→α→Int} (h:Ls c):∀ x y, -1≤Et c x y
 | [],[]=>by simp[Et]
 | [],_ :: _=>by simp[Et]
 | _ :: _,[]=>by simp[Et]
 | x :: xs,y :: ys=>by simp only[Et]; split; exact h.lo _ _; exact oR h xs ys
theorem oQ {α:Type} {c:α→α→Int} (h:Ls c):∀ x y,Et c x y≤1
 | [],[]=>by simp[Et]
 | [],_ :: _=>by simp[Et]
 | _ :: _,[]=>by simp[Et]
 | x :: xs,y :: ys=>by simp only[Et]; split; exact h.hi _ _; exact oQ h xs ys
theorem Sz {α:Type} {c:α→α→Int} (h:Ls c):∀ x,Et c x x=0
 | []=>rfl
 | x :: xs=>by simp only[Et]; rw[if_neg (by simp[h.refl])]; exact Sz h xs
theorem W1 {α:Type} {c:α→α→Int} (h:Ls c):∀ x y,Et c y x = -Et c x y
 | [],[]=>by simp[Et]
 | [],_ :: _=>by simp[Et]
 | _ :: _,[]=>by simp[Et]
 | x :: xs,y :: ys=>by
  simp only[Et]
  rw[h.anti x y,W1 h xs ys]
  by_cases e:c x y=0
  · rw[if_neg (by omega),if_neg (by omega)]
  · rw[if_pos (by omega),if_pos e]
theorem Uf {α:Type} {c:α→α→Int} (h:Ls c):∀ x y z,Et c x y≤0→Et c y z≤0→Et c x z≤0
 | [],_,[],_,_=>by simp[Et]
 | [],_,_ :: _,_,_=>by simp[Et]
 | _ :: _,[],_,h1,_=>by simp[Et] at h1
 | _ :: _,_ :: _,[],_,h2=>by simp[Et] at h2
 | x :: xs,y :: ys,z :: zs,h1,h2=>by
  simp only[Et] at h1 h2 ⊢
  have ih:=Uf h xs ys zs
  by_cases e1:c x y=0
  · rw[if_neg (by omega)] at h1
    have:=h.eq_left e1 z
    rw[this]
    by_cases e2:c y z=0
    · rw[if_neg (by omega)] at h2 ⊢
      exact ih h1 h2
    · rw[if_pos e2] at h2 ⊢
      exact h2
  · rw[if_pos e1] at h1
    have e1':=h.lo x y
    by_cases e2:c y z=0
    · have h3:=h.anti y z
      have:=h.eq_left (x:=z) (y:=y) (by omega) x
      have a1:=h.anti x z
      have a2:=h.anti x y
      rw[if_pos (by omega)]
      omega
    · rw[if_pos e2] at h2
      have h3:=h.trans x y z h1 h2
      by_cases e3:c x z=0
      · exfalso
        have:=h.eq_left e3 y
        have a1:=h.anti y z
        omega
      · rw[if_pos e3]; exact h3
theorem cW {α:Type} {c:α→α→Int} (h:Ls c):Ls (Et c):=⟨oR h,oQ h,Sz h,W1 h,Uf h⟩
theorem lO:∀ a b:Str,Lib.compareBytes a b=Et (fun x y:UInt8=>LR x.toNat y.toNat) a b
 | [],[]=>rfl
 | [],_ :: _=>rfl
 | _ :: _,[]=>rfl
 | x :: a,y :: b=>by
  simp only[Lib.compareBytes,Et,lO a b,UInt8.lt_iff_toNat_lt]
  unfold LR
  by_cases h1:x.toNat < y.toNat
  · rw[if_pos h1,if_pos (show (x.toNat:Int) < y.toNat by omega)]; simp
  · rw[if_neg h1,if_neg (show ¬ (x.toNat:Int) < y.toNat by omega)]
    by_cases h2:y.toNat < x.toNat
    · rw[if_pos h2,if_pos (show (y.toNat:Int) < x.toNat by omega)]; simp
    · rw[if_neg h2,if_neg (show ¬ (y.toNat:Int) < x.toNat by omega)]; simp
theorem mS:Ls Lib.compareBytes:=by
 have h:=cW (cV.map fun x:UInt8=>(x.toNat:Int))
 have e:Lib.compareBytes=Et (fun x y:UInt8=>LR x.toNat y.toNat):=by funext a b; exact lO a b
 rw[e]
 exact h
theorem ADN:Ls Wr:=by
 have h:=(cV.map fun x:Str=>((Dz x).length:Int)).lex2 (mS.map Dz)
 exact h
theorem ABH {a b:Int} (h:LR a b=0):a=b:=by
 unfold LR at h
 split at h
 · omega
 · split at h <;> omega
end Go.Vm
namespace Go.Vm
open Go
def AFr (s:Str):Prop:=s≠[]∧∀ c∈s,AFo c=true
instance (s:Str):Decidable (AFr s):=inferInstanceAs (Decidable (_∧_))
theorem ADL {p:UInt8→Bool} {c:UInt8}:∀ {l:Str},c∈l.takeWhile p→p c=true
 | [],h=>by cases h
 | x :: l,h=>by
  cases hx:p x with
  | true=>
   rw[List.takeWhile_cons_of_pos hx] at h
   rcases List.mem_cons.1 h with rfl | h
   · exact hx
   · exact ADL h
  | false=>rw[List.takeWhile_cons_of_neg (by simp[hx])] at h; cases h
theorem ACF (s:Str):Dz (Dz s)=Dz s:=by
 rcases fI s with h | ⟨c,t,h,hc⟩
 · rw[h]; rfl
 · rw[h]
   have:Ee c=false:=by simpa[Ee] using hc
   unfold Dz
   rw[List.dropWhile_cons_of_neg (by simp[this])]
   simp
theorem AEu (s:Str):Dz s≠[]:=by
 rcases fI s with h | ⟨c,t,h,hc⟩ <;> rw[h] <;> simp
theorem l8 {s:Str}:AAj s↔∀ c∈s,isP 1 c=true:=by
 unfold AAj
 refine⟨fun h c hc=>?_,fun h c hc=>?_⟩
 · have:=h c hc; simp[isP,isB]; omega
 · have:=h c hc; simp[isP,isB] at this; omega
end Go.Vm
namespace Go.Vm
open Go
theorem yQ (p:UInt8→Bool) (s:Str) (i:Nat):s.drop (Ci p s i)=(s.drop i).dropWhile p:=by
 unfold Ci
 rw[← List.drop_drop,AAg]
end Go.Vm
set_option linter.unusedSectionVars false
namespace Go.Vm
open Go
def Suf (a:Str) (i:Nat) (r:Str):Prop:=i≤a.length∧a.drop i=r
theorem Suf.pos {a:Str} {i:Nat} {r:Str} (h:Suf a i r):i=a.length - r.length∧r.length≤a.length:=by
 have:=congrArg List.length h.2
 simp only[List.length_drop] at this
 have:=h.1
 omega
theorem Suf.cons {a:Str} {i:Nat} {c:UInt8} {q:Str} (h:Suf a i (c :: q)):i < a.length∧idx a i=some (c.toNat:Int)∧Suf a (i + 1) q:=by
 have hl:i < a.length:=by
  rcases Nat.lt_or_ge i a.length with h' | h'
  · exact h'
  · have:=h.2; rw[List.drop_eq_nil_of_le h'] at this; cases this
 have:=h.2
 rw[List.drop_eq_getElem_cons hl] at this
 have h2:=List.cons.inj this
 refine⟨hl,?_,hl,h2.2⟩
 rw[Mr hl,h2.1]
theorem Suf.nil {a:Str} {i:Nat} (h:Suf a i []):i=a.length:=by
 have:=h.pos
 simp only[List.length_nil] at this
 omega
theorem Suf.run {a:Str} {i:Nat} {r:Str} (h:Suf a i r) (p:UInt8→Bool):Suf a (Ci p a i) (r.dropWhile p)∧E0 a i (Ci p a i:Int)=some (r.takeWhile p)∧i≤Ci p a i:=by
 have hle:Ci p a i≤a.length:=Wc h.1
 have hge:=aV p a i
 refine⟨⟨hle,by rw[yQ,h.2]⟩,?_,hge⟩
 rw[Ot hge hle]
 unfold Ci
 rw[Nat.add_sub_cancel_left,h.2,AA2]
theorem Suf.drop {a:Str} {i k:Nat} {r:Str} (h:Suf a i r) (hk:k≤r.length):Suf a (i + k) (r.drop k):=by
 have:=h.pos
 refine⟨?_,by rw[← List.drop_drop,h.2]⟩
 have:=h.1
 omega
theorem Suf.eq {a:Str} {i j:Nat} {r:Str} (h:Suf a i r) (k:Suf a j r):i=j:=by
 have:=h.pos
 have:=k.pos
 omega
theorem Suf.start (a:Str):Suf a 0 a:=⟨Nat.zero_le _,rfl⟩
def posR (n:Nat) (r:Str):Int:=((n - r.length:Nat):Int)
theorem Suf.posR {a:Str} {i:Nat} {r:Str} (h:Suf a i r):posR a.length r=(i:Int):=by
 have:=h.pos
 unfold Vm.posR
 omega
def hdP (p:UInt8→Bool):Str→Bool
 | []=>false
 | c :: _=>p c
def Kv (r:Str):Str:=Dz (r.takeWhile (isP 1))
def Hg (r:Str):Str:=r.dropWhile (isP 1)
theorem sT {p:UInt8→Bool} {r:Str}:r.takeWhile p=[]↔hdP p r=false:=by
 cases r with
 | nil=>simp[hdP]
 | cons c q=>cases h:p c <;> simp[hdP,h]
section
variable {a:Str} (ha:a.length≤64)
include ha
theorem rX {i:Nat} {r:Str} (h:Suf a i r) (k:Int):Dy a i k=some (Ci (isP k) a i:Int):=by
 rw[Sj _ _ _ (by omega)]
 unfold wS
 have:=h.1
 rw[if_neg (by omega),Int.toNat_natCast]
theorem AAu {i:Nat} {r:Str} (h:Suf a i r) (e f k:Int):∃ j:Nat,Ex a i e f k=some (r.takeWhile (isP k),(j:Int))∧Suf a j (r.dropWhile (isP k)):=by
 obtain⟨h1,h2,_⟩:=h.run (isP k)
 refine⟨Ci (isP k) a i,?_,h1⟩
 unfold Ex
 rw[rX ha h]
 simp only[Option.bind_some,h2]
theorem PN {i:Nat} {r:Str} (h:Suf a i r) (e f:Int):∃ j:Nat,Cr a i e f=some (Kv r,(j:Int))∧Suf a j (Hg r):=by
 obtain⟨j,h1,h2⟩:=AAu ha h e f 1
 refine⟨j,?_,h2⟩
 unfold Cr
 rw[h1]
 simp only[Option.bind_some]
 rw[Gt]
 · rfl
 · have:=(List.takeWhile_prefix (isP 1) (l:=r)).length_le
   have:=h.pos
   omega
theorem ADP {i:Nat} {r:Str} (h:Suf a i r) (e f k:Int):DN a i e f k=some (hdP (isP k) r):=by
 unfold DN
 cases r with
 | nil=>rw[h.nil]; simp[hdP]
 | cons c q=>
  obtain⟨h1,h2,_⟩:=h.cons
  rw[if_pos (by simp; omega),h2]
  simp only[Option.bind_some,FG]
  rfl
def F6 (n:Nat) (k:Int) (r:Str):Int × Int:=if hdP (isP k) r=true then (0,0) else if r=[] then (11,posR n r) else (10,posR n r)
theorem Vy {i:Nat} {r:Str} (h:Suf a i r) (k:Int):EQ a i 0 0 k=some (hdP (isP k) r,F6 a.length k r):=by
 unfold EQ F6
 rw[ADP ha h,h.posR]
 cases hp:hdP (isP k) r with
 | true=>simp
 | false=>
  by_cases hr:r=[]
  · subst hr
    have:=h.nil
    simp[this]
  · have:(i:Int)≠(a.length:Int):=by
     obtain⟨c,q,rfl⟩:=List.exists_cons_of_ne_nil hr
     have:=h.cons.1
     omega
    simp[hr,this]
def Dh (r:Str):Str × Str:=match Hg r with
 | []=>([48],r)
 | c :: q=>if hdP (isP 1) r=true∧c=33 then (Kv r,q) else ([48],r)
theorem ABs {i:Nat} {r:Str} (h:Suf a i r):∃ j:Nat,Ev a i 0 0=some ((Dh r).1,(j:Int))∧Suf a j (Dh r).2:=by
 obtain⟨h1,h2,h3⟩:=h.run (isP 1)
 unfold Ev
 rw[rX ha h]
 simp only[Option.bind_some]
 generalize Ci (isP 1) a i=e at h1 h2 h3
 have hd:hdP (isP 1) r=false↔e=i:=by
  rw[← sT]
  constructor
  · intro q
    have h4:r.dropWhile (isP 1)=r:=by
     have:=List.takeWhile_append_dropWhile (p:=isP 1) (l:=r)
     rw[q] at this
     exact this
    rw[h4] at h1
    exact (h1.eq h)
  · intro q
    subst q
    have h5:r.dropWhile (isP 1)=r:=h1.2.symm.trans h.2
    have:=List.takeWhile_append_dropWhile (p:=isP 1) (l:=r)
    rw[h5] at this
    have:=congrArg List.length this
    simp only[List.length_append] at this
    exact List.length_eq_zero_iff.1 (by omega)
 unfold Dh
 cases hb:Hg r with
 | nil=>
  have hb':r.dropWhile (isP 1)=[]:=hb
  rw[hb'] at h1
  have:=h1.nil
  rw[if_pos (by simp[this])]
  exact⟨i,rfl,h⟩
 | cons c q=>
  have hb':r.dropWhile (isP 1)=c :: q:=hb
  rw[hb'] at h1
  obtain⟨h4,h5,h6⟩:=h1.cons
  by_cases hz:e=i
  · have:=hd.2 hz
    rw[if_pos (by simp[hz])]
    simp only[this]
    exact⟨i,rfl,h⟩
  · have hd':hdP (isP 1) r=true:=by
     cases hh:hdP (isP 1) r with
     | true=>rfl
     | false=>exact absurd (hd.1 hh) hz
    rw[if_neg (by simp; omega),h5]
    simp only[Option.bind_some,hd',true_and]
    by_cases hc:c=33
    · subst hc
      obtain⟨j,g1,g2⟩:=PN ha h 0 0
      have:j=e:=by
       have g3:Suf a j (33 :: q):=by rw[← hb]; exact g2
       exact g3.eq h1
      subst this
      rw[g1]
      refine⟨j + 1,?_,h6⟩
      rw[if_neg (by decide)]
      simp only[Option.bind_some,if_true]
      rw[CR (by omega) (by omega)]
      rfl
    · have hne:((c.toNat:Int) != 33)=true:=by
       rw[bne,show ((c.toNat:Int) == 33)=(c == 33) from HK c 33]
       simp[hc]
      rw[if_pos hne,if_neg hc]
      exact⟨i,rfl,h⟩
def Jo:Nat→Str→List Str × Str
 | 0,r=>([],r)
 | n + 1,r=>match Hg r with
  | 46 :: q=>if hdP (isP 1) q=true then ((Kv r) :: (Jo n q).1,(Jo n q).2) else ([Kv r],46 :: q)
  | q=>([Kv r],q)
def EM (n:Nat) (r:Str):List Str × Str × (Int × Int):=if hdP (isP 1) r=true then ((Jo r.length r).1,(Jo r.length r).2,(0,0)) else ([],r,F6 n 1 r)
omit ha in
theorem nZ {r:Str} (h:hdP (isP 1) r=true):(Hg r).length < r.length:=by
 cases r with
 | nil=>cases h
 | cons c q=>
  have:Hg (c :: q)=q.dropWhile (isP 1):=by
   unfold Hg
   rw[List.dropWhile_cons_of_pos (show isP 1 c=true from h)]
  rw[this]
  have:=C2 (p:=isP 1) q
  simp only[List.length_cons]
  omega
theorem wJ:∀ (n:Nat) (i:Nat) (r:Str) (acc:List Str),r.length≤n→Suf a i r→hdP (isP 1) r=true→acc.length≤i→∃ j:Nat,CD (B9 a) ((i:Int),0,0,acc)=some (Sum.inl (acc ++ (Jo n r).1,(j:Int),0,0))∧Suf a j (Jo n r).2
 | 0,i,r,acc,hn,h,hd,hacc=>by
  have:r=[]:=List.length_eq_zero_iff.1 (by omega)
  subst this
  cases hd
 | n + 1,i,r,acc,hn,h,hd,hacc=>by
  obtain⟨j,g1,g2⟩:=PN ha h 0 0
  have hlt:=nZ hd
  have hij:i < j:=by have:=h.pos; have:=g2.pos; omega
  have hjl:j≤a.length:=g2.1
  have hm:F6 a.length 1 r=(0,0):=by unfold F6; rw[if_pos hd]
  have hstep:B9 a ((i:Int),0,0,acc)=Option.bind (if (decide ((w64 ((j:Int) + 1))≥(List.length a:Int)))=true then some true else Option.bind (idx a j) (fun x89=>some (x89 != 46)):Option (Bool)) (fun x88=>Option.bind (if x88=true then some true else Option.bind (idx a (w64 ((j:Int) + 1))) (fun x93=>Option.bind (Ep x93 1) (fun x94=>some (!x94))):Option (Bool)) (fun x92=>(if x92=true then some (Step.done (Sum.inl (acc ++ [Kv r],(j:Int),0,0))) else some (Step.next ((w64 ((j:Int) + 1)),0,0,acc ++ [Kv r]))))):=by
   unfold B9
   simp only[]
   rw[Vy ha h,hd,hm]
   simp only[Option.bind_some,if_true]
   rw[g1]
   simp only[Option.bind_some]
   rw[UM (by simp; omega) (by simp; omega)]
   rfl
  have hw:w64 ((j:Int) + 1)=((j + 1:Nat):Int):=by rw[CR (by omega) (by omega)]; rfl
  rw[hw] at hstep
  have hdone:∀ (q:Str),Hg r=q→(match q with | 46 :: q2=>hdP (isP 1) q2=false | _=>True)→B9 a ((i:Int),0,0,acc)=some (.done (Sum.inl (acc ++ [Kv r],(j:Int),0,0))):=by
   intro q hq hc
   rw[hstep]
   rw[hq] at g2
   cases q with
   | nil=>
    have:=g2.nil
    rw[if_pos (by simp; omega)]
    rfl
   | cons c q2=>
    obtain⟨e1,e2,e3⟩:=g2.cons
    cases q2 with
    | nil=>
     have:=e3.nil
     rw[if_pos (by simp; omega)]
     rfl
    | cons c2 q3=>
     obtain⟨e4,e5,e6⟩:=e3.cons
     rw[if_neg (by simp; omega),e2]
     simp only[Option.bind_some]
     have e7:((c.toNat:Int) != 46) = !(c == 46):=by rw[bne,show ((c.toNat:Int) == 46)=(c == 46) from HK c 46]
     rw[e7,e5]
     simp only[Option.bind_some,FG]
     by_cases h46:c=46
     · subst h46
       have hc':isB (c2.toNat:Int) 1=false:=hc
       rw[hc']
       rfl
     · simp[h46]
  cases hq:Hg r with
  | nil=>
   refine⟨j,?_,?_⟩
   · rw[Da (hdone _ hq trivial)]
     simp only[Jo,hq]
   · simp only[Jo,hq]
     rw[hq] at g2
     exact g2
  | cons c q=>
   by_cases hc:c=46∧hdP (isP 1) q=true
   · obtain⟨rfl,hq2⟩:=hc
     rw[hq] at g2 hlt
     obtain⟨e1,e2,e3⟩:=g2.cons
     simp only[List.length_cons] at hlt
     obtain⟨j2,k1,k2⟩:=wJ n (j + 1) q (acc ++ [Kv r]) (by omega) e3 hq2 (by simp; omega)
     refine⟨j2,?_,?_⟩
     · rw[HP (y:=(((j + 1:Nat):Int),0,0,acc ++ [Kv r]))]
       · rw[k1]
         simp only[Jo,hq,hq2,if_true,List.append_assoc,List.singleton_append]
       · rw[hstep]
         cases q with
         | nil=>cases hq2
         | cons c2 q3=>
          obtain⟨e4,e5,e6⟩:=e3.cons
          have hc':isB (c2.toNat:Int) 1=true:=hq2
          rw[if_neg (by simp; omega),e2]
          simp only[Option.bind_some]
          rw[if_neg (by decide),e5]
          simp only[Option.bind_some,FG,hc']
          rfl
     · simp only[Jo,hq,hq2,if_true]
       exact k2
   · have hz:(Jo (n + 1) r)=([Kv r],c :: q):=by
      simp only[Jo,hq]
      split
      · rename_i q2 e
        cases e
        rw[if_neg (fun z=>hc ⟨rfl,z⟩)]
      · rfl
     refine⟨j,?_,?_⟩
     · rw[Da (hdone _ hq ?_),hz]
       split
       · rename_i q2 e
         cases e
         cases hh:hdP (isP 1) q with
         | true=>exact absurd ⟨rfl,hh⟩ hc
         | false=>rfl
       · trivial
     · rw[hz,← hq]
       exact g2
theorem vJ {i:Nat} {r:Str} (h:Suf a i r):∃ j:Nat,EA a i 0 0=some ((EM a.length r).1,(j:Int),(EM a.length r).2.2)∧Suf a j (EM a.length r).2.1:=by
 unfold EA EM
 cases hd:hdP (isP 1) r with
 | true=>
  obtain⟨j,h1,h2⟩:=wJ ha r.length i r [] (Nat.le_refl _) h hd (Nat.zero_le _)
  refine⟨j,?_,h2⟩
  rw[h1]
  rfl
 | false=>
  refine⟨i,?_,h⟩
  have:B9 a ((i:Int),0,0,[])=some (.done (Sum.inr ([],(i:Int),F6 a.length 1 r))):=by
   unfold B9
   simp only[]
   rw[Vy ha h,hd]
   rfl
  rw[Da this]
  rfl
end
end Go.Vm
namespace Go.Vm
open Go
theorem uO {F:List Int × Int→Option (Step (List Int × Int) (List Int))} {f:Int→Int} {N:Nat} (h1:∀ (l:List Int) (i:Nat) (h:i < l.length),l.length=N→F (l,(i:Int))=some (.next (l.set i (f l[i]),((i + 1:Nat):Int)))) (h2:∀ l:List Int,l.length=N→F (l,(N:Int))=some (.done l)) {l:List Int} (hl:l.length=N) :
 CD F (l,0)=some (l.map f):=by
 have:=D7 (f:=F) (fun x=>∃ i:Nat,x.2=i∧i≤N∧x.1.length=N) (fun x=>N - x.2.toNat) (fun x=>x.1.take x.2.toNat ++ (x.1.drop x.2.toNat).map f) (fun x hx=>by
  obtain⟨l,z⟩:=x
  obtain⟨i,e,hi,hl⟩:=hx
  simp only at e hl
  subst e
  simp only[Int.toNat_natCast]
  rcases Nat.lt_or_ge i N with h | h
  · right
    have hi:i < l.length:=by omega
    refine⟨_,h1 l i hi hl,⟨i + 1,rfl,h,by simp[hl]⟩,by simp only[Int.toNat_natCast]; omega,?_⟩
    simp only[Int.toNat_natCast]
    rw[List.drop_eq_getElem_cons hi,List.drop_set_of_lt (by omega),List.take_add_one,List.take_set_of_le (Nat.le_refl _)]
    simp only[List.getElem?_set_self hi,Option.toList_some,List.append_assoc,List.map_cons,List.singleton_append]
  · have:i=N:=by omega
    subst this
    left
    rw[h2 l hl]
    simp[← hl]) (x:=(l,0)) ⟨0,rfl,Nat.zero_le _,hl⟩
 simpa using this
def Vp (c:Int):Int:=if isB c 3=true then IntKind.wrap .u8 (c + 32) else c
theorem J6 (s:Str) (hs:s.length≤4611686018427387904):Gh s=some (ofb ((s.map fun c:UInt8=>(c.toNat:Int)).map Vp)):=by
 unfold Gh
 rw[ADk (by omega)]
 simp only[Option.bind_some]
 rw[uO (N:=s.length) (f:=Vp) ?_ ?_ (by simp)]
 · rfl
 · intro l i hi hl
   unfold J7 Vp
   simp only[List.length_map]
   rw[if_pos (by simp; omega),E6 hi,CR (by omega) (by omega),Int.toNat_natCast]
   simp only[Option.bind_some,FG]
   cases isB l[i] 3 with
   | true=>rfl
   | false=>simp
 · intro l hl
   unfold J7
   simp only[List.length_map]
   rw[if_neg (by simp)]
theorem eH (s:Str) (hs:s.length≤4611686018427387904):Kd s=some (ofb ((s.map fun c:UInt8=>(c.toNat:Int)).map Vp)):=by
 unfold Kd
 rw[ADk (by omega)]
 simp only[Option.bind_some]
 rw[uO (N:=s.length) (f:=Vp) ?_ ?_ (by simp)]
 · rfl
 · intro l i hi hl
   unfold H9 Vp
   simp only[]
   rw[if_pos (by simp; omega),E6 hi,CR (by omega) (by omega),Int.toNat_natCast]
   simp only[Option.bind_some,M1]
   cases isB l[i] 3 with
   | true=>rfl
   | false=>simp
 · intro l hl
   unfold H9
   simp only[]
   rw[if_neg (by simp[hl])]
def stM (s:Str) (at':Int) (w:Str):Bool:=decide (0≤at'∧at'≤s.length) && ((s.drop at'.toNat).take w.length == w)
def Cd (s:Str) (at':Int) (b:Str × Bool) (w:Str):Str × Bool:=if (stM s at' w && (!b.2 || decide (b.1.length < w.length)))=true then (w,true) else b
theorem fX {l w:Str} (h:(l.take w.length == w)=true):w.length≤l.length:=by
 have:=congrArg List.length (eq_of_beq h)
 simp only[List.length_take] at this
 omega
theorem oJ (s w:Str):Eb s w=some (s.take w.length == w):=by
 unfold Eb EJ
 by_cases h:w.length≤s.length
 · rw[if_pos (by simp; omega),YA h]
   rfl
 · rw[if_neg (by simp; omega)]
   have:(s.take w.length == w)=false:=by
    rw[Bool.eq_false_iff]
    intro q
    exact h (fX q)
   rw[this]
   rfl
theorem AB9 (s:Str) (at':Int) (w:Str) (hs:s.length≤4611686018427387904):JA s at' w=some (stM s at' w):=by
 unfold JA stM
 by_cases h:0≤at'∧at'≤s.length
 · obtain⟨n,rfl⟩:∃ n:Nat,at' = n:=⟨at'.toNat,by omega⟩
   rw[decide_eq_true h,CR (x:=(s.length:Int) - n) (by omega) (by omega)]
   simp only[Bool.true_and,Int.toNat_natCast]
   by_cases h2:w.length≤s.length - n
   · rw[if_pos (by simp; omega),CR (by omega) (by omega),show (n:Int) + (w.length:Int)=((n + w.length:Nat):Int) by omega,Ot (by omega) (by omega),Nat.add_sub_cancel_left]
     rfl
   · rw[if_neg (by simp; omega)]
     have:((s.drop n).take w.length == w)=false:=by
      rw[Bool.eq_false_iff]
      intro q
      have:=fX q
      simp only[List.length_drop] at this
      omega
     rw[this]
     rfl
 · rw[decide_eq_false h,if_neg (by simp; omega)]
   rfl
theorem lY {F:Str × Bool × Int→Option (Step (Str × Bool × Int) (Str × Bool))} {st:Str × Bool→Str→Str × Bool} {ws:List Str} (h1:∀ (b:Str) (o:Bool) (i:Nat) (h:i < ws.length),F (b,o,(i:Int))=some (.next ((st (b,o) ws[i]).1,(st (b,o) ws[i]).2,((i + 1:Nat):Int)))) (h2:∀ (b:Str) (o:Bool),F (b,o,(ws.length:Int))=some (.done (b,o))) (b:Str) (o:Bool) :
 CD F (b,o,0)=some (ws.foldl st (b,o)):=by
 have:=D7 (f:=F) (fun x=>∃ i:Nat,x.2.2=i∧i≤ws.length) (fun x=>ws.length - x.2.2.toNat) (fun x=>(ws.drop x.2.2.toNat).foldl st (x.1,x.2.1)) (fun x hx=>by
  obtain⟨b,o,z⟩:=x
  obtain⟨i,e,hi⟩:=hx
  simp only at e
  subst e
  simp only[Int.toNat_natCast]
  rcases Nat.lt_or_ge i ws.length with h | h
  · right
    refine⟨_,h1 b o i h,⟨i + 1,rfl,h⟩,by simp only[Int.toNat_natCast]; omega,?_⟩
    simp only[Int.toNat_natCast]
    rw[List.drop_eq_getElem_cons h,List.foldl_cons]
  · have:i=ws.length:=by omega
    subst this
    left
    rw[h2]
    simp) (x:=(b,o,0)) ⟨0,rfl,Nat.zero_le _⟩
 simpa using this
theorem yF {s:Str} {at':Int} (h:¬(0≤at'∧at'≤s.length)):∀ ws:List Str,ws.foldl (Cd s at') ([],false)=([],false)
 | []=>rfl
 | w :: ws=>by
  rw[List.foldl_cons]
  have:Cd s at' ([],false) w=([],false):=by
   unfold Cd stM
   rw[decide_eq_false h]
   simp
  rw[this]
  exact yF h ws
theorem Wd (s:Str) (at':Int) (ws:List Str) (hs:s.length≤4611686018427387904) (hw:ws.length≤4611686018427387904):Gv s at' ws=some (ws.foldl (Cd s at') ([],false)):=by
 unfold Gv
 by_cases h:0≤at'∧at'≤s.length
 · rw[if_neg (by simp; omega),lY (ws:=ws) (st:=Cd s at') ?_ ?_]
   · rfl
   · intro b o i hi
     unfold Li
     obtain⟨n,rfl⟩:∃ n:Nat,at' = n:=⟨at'.toNat,by omega⟩
     simp only[]
     rw[if_pos (by simp; omega),E6 hi,CR (by omega) (by omega),TK (by omega)]
     simp only[Option.bind_some,oJ]
     unfold Cd stM
     rw[decide_eq_true h]
     simp only[Bool.true_and,Int.toNat_natCast,gt_iff_lt,Int.ofNat_lt]
     split <;> rfl
   · intro b o
     unfold Li
     simp only[]
     rw[if_neg (by simp)]
 · rw[if_pos (by simp; omega),yF h]
theorem kA (s:Str) (at':Int) (ws:List Str) (hs:s.length≤4611686018427387904) (hw:ws.length≤4611686018427387904):Jn s at' ws=some (ws.foldl (Cd s at') ([],false)):=by
 unfold Jn
 rw[lY (ws:=ws) (st:=Cd s at') ?_ ?_]
 · rfl
 · intro b o i hi
   unfold J5
   simp only[]
   rw[if_pos (by simp; omega),E6 hi,CR (by omega) (by omega)]
   simp only[Option.bind_some,AB9 _ _ _ hs]
   unfold Cd
   simp only[gt_iff_lt,Int.ofNat_lt]
   cases stM s at' ws[i] with
   | false=>simp
   | true=>
    cases o with
    | false=>simp
    | true=>
     simp
     split <;> rfl
 · intro b o
   unfold J5
   simp only[]
   rw[if_neg (by simp)]
end Go.Vm
namespace Go.Vm
open Go
def YS (c:UInt8):Bool:=((c == 45) || (c == 95)) || (c == 46)
theorem YZ (c:UInt8):Rr (c.toNat:Int)=some (YS c):=by
 unfold Rr YS
 rw[show ((c.toNat:Int) == 45)=(c == 45) from HK c 45,show ((c.toNat:Int) == 95)=(c == 95) from HK c 95,show ((c.toNat:Int) == 46)=(c == 46) from HK c 46]
def BI (ws:List Str) (r:Str):Str × Bool:=ws.foldl (Cd r 0) ([],false)
theorem ACK {a:Str} {i:Nat} {r:Str} (h:Suf a i r) (b:Str × Bool) (w:Str):Cd a i b w=Cd r 0 b w:=by
 have e:stM a i w=stM r 0 w:=by
  unfold stM
  have:=h.1
  rw[decide_eq_true (by omega),decide_eq_true (by omega),Int.toNat_natCast,h.2]
  rfl
 unfold Cd
 rw[e]
theorem Lk {a:Str} {i:Nat} {r:Str} (h:Suf a i r):∀ (ws:List Str) (b:Str × Bool),ws.foldl (Cd a i) b=ws.foldl (Cd r 0) b
 | [],_=>rfl
 | w :: ws,b=>by
  simp only[List.foldl_cons]
  rw[ACK h,Lk h ws]
theorem AA5:∀ (ws:List Str) (r:Str) (b:Str × Bool),(b.2=true→b.1.length≤r.length)→(ws.foldl (Cd r 0) b).2=true→((ws.foldl (Cd r 0) b).1∈ws∨(ws.foldl (Cd r 0) b)=b)∧(ws.foldl (Cd r 0) b).1.length≤r.length
 | [],r,b,hb,h=>⟨.inr rfl,hb h⟩
 | w :: ws,r,b,hb,h=>by
  simp only[List.foldl_cons] at h ⊢
  have hw:(Cd r 0 b w).2=true→(Cd r 0 b w).1.length≤r.length:=by
   unfold Cd
   split
   · rename_i q
     intro _
     simp only[Bool.and_eq_true] at q
     have:=q.1
     unfold stM at this
     simp only[Bool.and_eq_true,beq_iff_eq] at this
     have:=congrArg List.length this.2
     simp at this
     show w.length≤r.length
     omega
   · exact hb
  obtain⟨h1,h2⟩:=AA5 ws r _ hw h
  refine⟨?_,h2⟩
  rcases h1 with h1 | h1
  · exact .inl (List.mem_cons_of_mem _ h1)
  · rw[h1]
    unfold Cd
    split
    · exact .inl (by simp)
    · exact .inr rfl
theorem ET {ws:List Str} {r:Str} (h:(BI ws r).2=true):(BI ws r).1∈ws∧(BI ws r).1.length≤r.length:=by
 obtain⟨h1,h2⟩:=AA5 ws r ([],false) (fun q=>by cases q) h
 refine⟨?_,h2⟩
 rcases h1 with h1 | h1
 · exact h1
 · unfold BI at h
   rw[h1] at h
   cases h
def mkd:Str→Bool
 | []=>false
 | c :: _=>YS c
def DF (ws:List Str) (r:Str):Str × Bool × Str:=
 if (mkd r && (BI ws r.tail).2)=true then ((BI ws r.tail).1,true,r.tail.drop (BI ws r.tail).1.length)
 else if (BI ws r).2=true then ((BI ws r).1,true,r.drop (BI ws r).1.length) else ([],false,r)
def EX (r:Str):Str:=if (mkd r && hdP (isP 1) r.tail)=true then r.tail else r
def Dl (r:Str):Str × Str:=if hdP (isP 1) (EX r)=true then (Kv (EX r),Hg (EX r)) else ([48],EX r)
section
variable {a:Str} (ha:a.length≤64)
include ha
theorem Uo {i:Nat} {r:Str} (h:Suf a i r) (e f:Int):CE a i e f=some (mkd r):=by
 unfold CE
 cases r with
 | nil=>rw[h.nil]; simp[mkd]
 | cons c q=>
  obtain⟨h1,h2,_⟩:=h.cons
  rw[if_pos (by simp; omega),h2]
  simp only[Option.bind_some,YZ]
  rfl
theorem yH {i:Nat} {r:Str} (h:Suf a i r) {ws:List Str} (hw:ws.length≤100):Gv a i ws=some (BI ws r):=by
 rw[Wd _ _ _ (by omega) (by omega),Lk h]
 rfl
theorem dL {i:Nat} {r:Str} (h:Suf a i r) {ws:List Str} (hw:ws.length≤100):∃ j:Nat,CO a i 0 0 ws=some ((DF ws r).1,(DF ws r).2.1,(j:Int))∧Suf a j (DF ws r).2.2:=by
 have hi:=h.1
 have key:∃ j:Nat,Option.bind (Option.bind (Gv a i ws) (fun x26=>(if x26.2=true then some (Sum.inl ((w64 ((i:Int) + (List.length x26.1:Int))),x26.1)) else some (Sum.inr ()))):Option ((Int × Str) ⊕ (Unit))) (fun y=>match y with | Sum.inl (x24,x25)=>some (x25,true,x24) | Sum.inr _=>some (([]:Str),false,(i:Int)))=some ((if (BI ws r).2=true then ((BI ws r).1,true,r.drop (BI ws r).1.length) else ([],false,r)).1,(if (BI ws r).2=true then ((BI ws r).1,true,r.drop (BI ws r).1.length) else ([],false,r)).2.1,(j:Int))∧Suf a j (if (BI ws r).2=true then ((BI ws r).1,true,r.drop (BI ws r).1.length) else ([],false,r)).2.2:=by
  rw[yH ha h hw]
  simp only[Option.bind_some]
  cases hz:(BI ws r).2 with
  | true=>
   obtain⟨_,h2⟩:=ET hz
   have:=h.pos
   refine⟨i + (BI ws r).1.length,?_,h.drop h2⟩
   simp only[if_true,Option.bind_some]
   rw[CR (by omega) (by omega)]
   rfl
  | false=>exact⟨i,rfl,h⟩
 unfold CO DF Gq
 rw[if_neg (by decide),Uo ha h]
 simp only[Option.bind_some]
 cases hm:mkd r with
 | false=>
  simp only[Bool.false_eq_true,if_false,Bool.false_and,Option.bind_some]
  exact key
 | true=>
  obtain⟨c,q,rfl⟩:∃ c q,r=c :: q:=by
   cases r with
   | nil=>cases hm
   | cons c q=>exact⟨c,q,rfl⟩
  obtain⟨h1,h2,h3⟩:=h.cons
  have hw1:w64 ((i:Int) + 1)=((i + 1:Nat):Int):=by rw[CR (by omega) (by omega)]; rfl
  simp only[if_true,Bool.true_and,List.tail_cons]
  rw[hw1,yH ha h3 hw]
  simp only[Option.bind_some]
  cases hz:(BI ws q).2 with
  | true=>
   obtain⟨_,h4⟩:=ET hz
   have:=h3.pos
   refine⟨i + 1 + (BI ws q).1.length,?_,h3.drop h4⟩
   simp only[if_true,Option.bind_some]
   rw[CR (by omega) (by omega)]
   rfl
  | false=>
   simp only[Bool.false_eq_true,if_false,Option.bind_some]
   exact key
theorem NF {i:Nat} {r:Str} (h:Suf a i r):∃ j:Nat,Ca a i 0 0=some ((Dl r).1,(j:Int))∧Suf a j (Dl r).2:=by
 have hi:=h.1
 unfold Ca Dl
 rw[Uo ha h]
 simp only[Option.bind_some]
 have key:∃ j:Nat,Option.bind (if ((mkd r) && (decide ((w64 ((i:Int) + 1)) < (List.length a:Int))))=true then Option.bind (idx a (w64 ((i:Int) + 1))) (fun x20=>Option.bind (Ep x20 1) (fun x21=>some x21)) else some false:Option (Bool)) (fun x19=>(if x19=true then some (w64 ((i:Int) + 1)) else some (i:Int)))=some (j:Int)∧Suf a j (EX r):=by
  have hw1:w64 ((i:Int) + 1)=((i + 1:Nat):Int):=by rw[CR (by omega) (by omega)]; rfl
  rw[hw1]
  unfold EX
  cases hm:mkd r with
  | false=>exact⟨i,rfl,h⟩
  | true=>
   obtain⟨c,q,rfl⟩:∃ c q,r=c :: q:=by
    cases r with
    | nil=>cases hm
    | cons c q=>exact⟨c,q,rfl⟩
   obtain⟨h1,h2,h3⟩:=h.cons
   simp only[Bool.true_and,List.tail_cons]
   cases q with
   | nil=>
    have:=h3.nil
    rw[if_neg (by simp; omega)]
    exact⟨i,rfl,h⟩
   | cons c2 q2=>
    obtain⟨h4,h5,h6⟩:=h3.cons
    rw[if_pos (by simp; omega),h5]
    simp only[Option.bind_some,FG]
    have e:hdP (isP 1) (c2 :: q2)=isB (c2.toNat:Int) 1:=rfl
    rw[e]
    cases isB (c2.toNat:Int) 1 with
    | true=>exact⟨i + 1,rfl,h3⟩
    | false=>exact⟨i,rfl,h⟩
 obtain⟨j,k1,k2⟩:=key
 rw[k1]
 simp only[Option.bind_some]
 rw[ADP ha k2]
 simp only[Option.bind_some]
 cases hd:hdP (isP 1) (EX r) with
 | true=>
  obtain⟨j2,g1,g2⟩:=PN ha k2 0 0
  refine⟨j2,?_,g2⟩
  rw[if_pos rfl,g1]
  rfl
 | false=>exact⟨j,rfl,k2⟩
end
end Go.Vm
namespace Go.Vm
open Go
def My:List Str:=[[112,111,115,116],[114,101,118],[114]]
def UZ:List Str:=[[100,101,118]]
def LV:List Str:=[[97,108,112,104,97],[97],[98,101,116,97],[98],[112,114,101,118,105,101,119],[112,114,101],[99],[114,99]]
def RR:Str→Bool
 | 45 :: q=>hdP (isP 1) q
 | _=>false
def DU (r:Str):Bool × Str × Str:=
 if RR r=true then (true,Kv r.tail,Hg r.tail)
 else if (DF My r).2.1=true then (true,(Dl (DF My r).2.2).1,(Dl (DF My r).2.2).2) else (false,[],(DF My r).2.2)
def D6 (r:Str):Str:=r.takeWhile (isP 5)
def GI (r:Str):Str:=r.dropWhile (isP 5)
def G4 (p:Str):Str:=if Ci (isP 1) p 0=p.length then Dz p else p
def JV:Nat→Str→List Str × Str
 | 0,r=>([],r)
 | n + 1,r=>if (mkd (GI r) && hdP (isP 5) (GI r).tail)=true then (G4 (D6 r) :: (JV n (GI r).tail).1,(JV n (GI r).tail).2) else ([G4 (D6 r)],GI r)
def DR (n:Nat) (r:Str):List Str × Str × (Int × Int):=match r with
 | 43 :: q=>if hdP (isP 5) q=true then ((JV q.length q).1,(JV q.length q).2,(0,0)) else ([],q,F6 n 5 q)
 | _=>([],r,(0,0))
section
variable {a:Str} (ha:a.length≤64)
include ha
theorem ADQ {i:Nat} {r:Str} (h:Suf a i r) (x8:Str) (x10:List Str) (x24:Int) (x25:Str):∃ j:Nat,FS a i 0 0 x8 x10 x24 x25 false [] false [] ([]:List Str)=some ((j:Int),(DU r).1,(DU r).2.1)∧Suf a j (DU r).2.2:=by
 have hi:=h.1
 unfold FS
 have hw1:w64 ((i:Int) + 1)=((i + 1:Nat):Int):=by rw[CR (by omega) (by omega)]; rfl
 rw[hw1]
 have key:Option.bind (if (decide (((i + 1:Nat):Int) < (List.length a:Int)))=true then Option.bind (idx a i) (fun x18=>some (x18 == 45)) else some false:Option (Bool)) (fun x17=>(if x17=true then Option.bind (idx a ((i + 1:Nat):Int)) (fun x22=>Option.bind (Ep x22 1) (fun x23=>some x23)) else some false:Option (Bool)))=some (RR r):=by
  cases r with
  | nil=>have:=h.nil; rw[if_neg (by simp; omega)]; rfl
  | cons c q=>
   obtain⟨h1,h2,h3⟩:=h.cons
   cases q with
   | nil=>
    have:=h3.nil
    rw[if_neg (by simp; omega)]
    simp only[Option.bind_some,Bool.false_eq_true,if_false,Option.some.injEq]
    unfold RR
    split
    · rename_i q e; cases e; rfl
    · rfl
   | cons c2 q2=>
    obtain⟨h4,h5,h6⟩:=h3.cons
    rw[if_pos (by simp; omega),h2]
    simp only[Option.bind_some]
    rw[show ((c.toNat:Int) == 45)=(c == 45) from HK c 45,h5]
    simp only[Option.bind_some,FG]
    by_cases hc:c=45
    · subst hc; rfl
    · have:(c == 45)=false:=by simp[hc]
      rw[this]
      simp only[Bool.false_eq_true,if_false,Option.some.injEq]
      unfold RR
      split
      · rename_i q e; cases e; exact absurd rfl hc
      · rfl
 rw[← YH,key]
 simp only[Option.bind_some]
 unfold DU
 cases hd:RR r with
 | true=>
  obtain⟨q,rfl,hq⟩:∃ q,r=45 :: q∧hdP (isP 1) q=true:=by
   unfold RR at hd
   split at hd
   · rename_i q; exact⟨q,rfl,hd⟩
   · cases hd
  obtain⟨h1,h2,h3⟩:=h.cons
  obtain⟨j,g1,g2⟩:=PN ha h3 0 0
  refine⟨j,?_,g2⟩
  simp only[if_true]
  rw[g1]
  rfl
 | false=>
  simp only[Bool.false_eq_true,if_false]
  obtain⟨j,g1,g2⟩:=dL ha h (ws:=My) (by decide)
  rw[show ([[112,111,115,116],[114,101,118],[114]]:List Str)=My from rfl,g1]
  simp only[Option.bind_some]
  cases hz:(DF My r).2.1 with
  | true=>
   obtain⟨j2,k1,k2⟩:=NF ha g2
   refine⟨j2,?_,k2⟩
   simp only[if_true]
   rw[k1]
   rfl
  | false=>exact⟨j,rfl,g2⟩
omit ha in
theorem AAZ {r:Str} (h:hdP (isP 5) r=true):(GI r).length < r.length:=by
 cases r with
 | nil=>cases h
 | cons c q=>
  have:GI (c :: q)=q.dropWhile (isP 5):=by
   unfold GI
   rw[List.dropWhile_cons_of_pos (show isP 5 c=true from h)]
  rw[this]
  have:=C2 (p:=isP 5) q
  simp only[List.length_cons]
  omega
theorem uJ:∀ (n:Nat) (i:Nat) (r:Str) (acc:List Str),r.length≤n→Suf a i r→hdP (isP 5) r=true→acc.length≤i→∃ j:Nat,CD (Cl a) ((i:Int),0,0,acc)=some (Sum.inl (acc ++ (JV n r).1,(j:Int),0,0))∧Suf a j (JV n r).2
 | 0,i,r,acc,hn,h,hd,hacc=>by
  have:r=[]:=List.length_eq_zero_iff.1 (by omega)
  subst this
  cases hd
 | n + 1,i,r,acc,hn,h,hd,hacc=>by
  obtain⟨j,g1,g2⟩:=AAu ha h 0 0 5
  change Suf a j (GI r) at g2
  have hlt:=AAZ hd
  have hij:i < j:=by have:=h.pos; have:=g2.pos; omega
  have hjl:j≤a.length:=g2.1
  have hm:F6 a.length 5 r=(0,0):=by unfold F6; rw[if_pos hd]
  have hpl:(D6 r).length≤64:=by
   have:=(List.takeWhile_prefix (isP 5) (l:=r)).length_le
   have:=h.pos
   unfold D6
   omega
  have hw:w64 ((j:Int) + 1)=((j + 1:Nat):Int):=by rw[CR (by omega) (by omega)]; rfl
  have hnorm:Option.bind (Dy (D6 r) 0 1) (fun x102=>(if (x102 == (List.length (D6 r):Int))=true then Option.bind (ES (D6 r)) (fun x103=>some x103) else some (D6 r)))=some (G4 (D6 r)):=by
   have:=rX hpl (Suf.start (D6 r)) 1
   rw[show ((0:Nat):Int)=0 from rfl] at this
   rw[this]
   simp only[Option.bind_some]
   unfold G4
   by_cases hz:Ci (isP 1) (D6 r) 0=(D6 r).length
   · rw[if_pos (by simp[hz]),if_pos hz,Gt _ (by omega)]
     rfl
   · rw[if_neg (by simp; omega),if_neg hz]
  have hcont:Option.bind (if ((!(mkd (GI r))) || (decide (((j + 1:Nat):Int)≥(List.length a:Int))))=true then some true else Option.bind (idx a ((j + 1:Nat):Int)) (fun x109=>Option.bind (Ep x109 5) (fun x110=>some (!x110))):Option (Bool)) (fun x108=>(if x108=true then some (Step.done (Sum.inl (acc ++ [G4 (D6 r)],(j:Int),(0:Int),(0:Int)))) else some (Step.next (((j + 1:Nat):Int),(0:Int),(0:Int),acc ++ [G4 (D6 r)]))))=(if (mkd (GI r) && hdP (isP 5) (GI r).tail)=true then some (Step.next (((j + 1:Nat):Int),(0:Int),(0:Int),acc ++ [G4 (D6 r)])) else some (Step.done (Sum.inl (acc ++ [G4 (D6 r)],(j:Int),(0:Int),(0:Int)))):Option (Step (Int × Int × Int × List Str) ((List Str × Int × Int × Int) ⊕ (List Str × Int × Int × Int)))):=by
   cases hmk:mkd (GI r) with
   | false=>rfl
   | true=>
    generalize GI r=z at g2 hmk
    cases z with
    | nil=>cases hmk
    | cons c q=>
     obtain⟨e1,e2,e3⟩:=g2.cons
     simp only[Bool.not_true,Bool.false_or,Bool.true_and,List.tail_cons]
     cases q with
     | nil=>
      have:=e3.nil
      rw[if_pos (by simp; omega)]
      rfl
     | cons c2 q2=>
      obtain⟨e4,e5,e6⟩:=e3.cons
      rw[if_neg (by simp; omega),e5]
      simp only[Option.bind_some,FG]
      have e:hdP (isP 5) (c2 :: q2)=isB (c2.toNat:Int) 5:=rfl
      rw[e]
      cases isB (c2.toNat:Int) 5 <;> rfl
  have hstep:Cl a ((i:Int),0,0,acc)=(if (mkd (GI r) && hdP (isP 5) (GI r).tail)=true then some (Step.next (((j + 1:Nat):Int),(0:Int),(0:Int),acc ++ [G4 (D6 r)])) else some (Step.done (Sum.inl (acc ++ [G4 (D6 r)],(j:Int),(0:Int),(0:Int)))):Option (Step (Int × Int × Int × List Str) ((List Str × Int × Int × Int) ⊕ (List Str × Int × Int × Int)))):=by
   rw[← hcont]
   unfold Cl
   simp only[]
   rw[Vy ha h,hd,hm]
   simp only[Option.bind_some,if_true]
   rw[g1]
   simp only[Option.bind_some]
   change Option.bind (Option.bind (Dy (D6 r) 0 1) (fun x102=>(if (x102 == (List.length (D6 r):Int))=true then Option.bind (ES (D6 r)) (fun x103=>some x103) else some (D6 r)))) _=_
   rw[hnorm]
   simp only[Option.bind_some]
   rw[UM (by simp; omega) (by simp; omega)]
   simp only[Option.bind_some]
   rw[Uo ha g2]
   simp only[Option.bind_some,hw]
  cases hc:(mkd (GI r) && hdP (isP 5) (GI r).tail) with
  | false=>
   rw[hc] at hstep
   refine⟨j,?_,?_⟩
   · rw[Da hstep]
     simp only[JV,hc]
     rfl
   · simp only[JV,hc]
     exact g2
  | true=>
   rw[hc] at hstep
   simp only[Bool.and_eq_true] at hc
   obtain⟨c,q,hz⟩:∃ c q,GI r=c :: q:=by
    cases hp:GI r with
    | nil=>rw[hp] at hc; cases hc.1
    | cons c q=>exact⟨c,q,rfl⟩
   rw[hz] at g2 hlt
   simp only[List.length_cons] at hlt
   obtain⟨e1,e2,e3⟩:=g2.cons
   rw[hz,List.tail_cons] at hc
   obtain⟨j2,k1,k2⟩:=uJ n (j + 1) q (acc ++ [G4 (D6 r)]) (by omega) e3 hc.2 (by simp; omega)
   refine⟨j2,?_,?_⟩
   · rw[HP hstep,k1]
     simp only[JV,hz,List.tail_cons,hc.1,hc.2,Bool.and_self,if_true,List.append_assoc,List.singleton_append]
   · simp only[JV,hz,List.tail_cons,hc.1,hc.2,Bool.and_self,if_true]
     exact k2
theorem ABt {i:Nat} {r:Str} (h:Suf a i r):∃ j:Nat,Ew a i 0 0=some ((DR a.length r).1,(j:Int),(DR a.length r).2.2)∧Suf a j (DR a.length r).2.1:=by
 unfold Ew
 have hi:=h.1
 cases r with
 | nil=>
  have:=h.nil
  refine⟨i,?_,h⟩
  rw[if_pos (by simp; omega)]
  rfl
 | cons c q=>
  obtain⟨h1,h2,h3⟩:=h.cons
  rw[if_neg (by simp; omega),h2]
  simp only[Option.bind_some]
  have e7:((c.toNat:Int) != 43) = !(c == 43):=by rw[bne,show ((c.toNat:Int) == 43)=(c == 43) from HK c 43]
  rw[e7]
  by_cases hc:c=43
  · subst hc
    have hw:w64 ((i:Int) + 1)=((i + 1:Nat):Int):=by rw[CR (by omega) (by omega)]; rfl
    simp only[beq_self_eq_true,Bool.not_true,Bool.false_eq_true,if_false,hw]
    have e9:DR a.length (43 :: q)=if hdP (isP 5) q=true then ((JV q.length q).1,(JV q.length q).2,(0,0)) else ([],q,F6 a.length 5 q):=rfl
    rw[e9]
    cases hd:hdP (isP 5) q with
    | true=>
     obtain⟨j,g1,g2⟩:=uJ ha q.length (i + 1) q [] (Nat.le_refl _) h3 hd (Nat.zero_le _)
     refine⟨j,?_,g2⟩
     rw[g1]
     rfl
    | false=>
     refine⟨i + 1,?_,h3⟩
     have:Cl a (((i + 1:Nat):Int),0,0,[])=some (.done (Sum.inr ([],((i + 1:Nat):Int),F6 a.length 5 q))):=by
      unfold Cl
      simp only[]
      rw[Vy ha h3,hd]
      rfl
     rw[Da this]
     rfl
  · have e8:(c == 43)=false:=by simp[hc]
    have e9:DR a.length (c :: q)=([],c :: q,(0,0)):=by
     unfold DR
     split
     · rename_i e; cases e; exact absurd rfl hc
     · rfl
    rw[e8,e9]
    exact⟨i,rfl,h⟩
end
end Go.Vm
namespace Go.Vm
open Go
def Fz (s:Str):Str:=ofb ((s.map fun c:UInt8=>(c.toNat:Int)).map Vp)
theorem N0 (s:Str):(Fz s).length=s.length:=by simp[Fz,ofb]
def zP:Ac:=⟨[],[],0,[],false,[],false,[],[]⟩
def dM (w:Str):Int:=match w with
 | []=>0
 | c :: _=>if c=99∨c=112∨c=114 then 114 else (c.toNat:Int)
theorem ADV {w:Str} (h:w∈LV):Option.bind (idx w 0) (fun x29=>Option.bind (E0 w 0 1) (fun x33=>Option.bind (strings_ContainsAny x33 [99,112,114]) (fun x34=>(if x34=true then some 114 else some x29))))=some (dM w):=by
 simp only[LV,List.mem_cons,List.not_mem_nil,or_false] at h
 rcases h with rfl | rfl | rfl | rfl | rfl | rfl | rfl | rfl <;> decide
theorem AEg {β:Type} {w:Str} (h:w∈LV) (k:Int→Option β):Option.bind (idx w 0) (fun x29=>Option.bind (Option.bind (E0 w 0 1) (fun x33=>Option.bind (strings_ContainsAny x33 [99,112,114]) (fun x34=>(if x34=true then some 114 else some x29)))) k)=k (dM w):=by
 rw[← show Option.bind (some (dM w)) k=k (dM w) from rfl,← ADV h,YH]
theorem YC {ws:List Str} {r:Str} (h:(DF ws r).2.1=true):(DF ws r).1∈ws:=by
 unfold DF at h ⊢
 split at h
 · rename_i q
   rw[if_pos q]
   simp only[Bool.and_eq_true] at q
   exact (ET q.2).1
 · rename_i q
   rw[if_neg q]
   split at h
   · rename_i q2
     rw[if_pos q2]
     exact (ET q2).1
   · cases h
def v0M (a:Str):Str:=match a with
 | 118 :: q=>q
 | _=>a
def Dt (r:Str):Int × Str × Str:=if (DF LV r).2.1=true then (dM (DF LV r).1,(Dl (DF LV r).2.2).1,(Dl (DF LV r).2.2).2) else (0,[],(DF LV r).2.2)
def LS (r:Str):Bool × Str × Str:=if (DF UZ r).2.1=true then (true,(Dl (DF UZ r).2.2).1,(Dl (DF UZ r).2.2).2) else (false,[],(DF UZ r).2.2)
def bG (n:Nat) (ep:Str) (r:Str):Ac × C9:=
 let R:=EM n r
 if R.2.2.1≠0 then (zP,⟨R.2.2.1,R.2.2.2⟩) else
 let P:=Dt R.2.1
 let O:=DU P.2.2
 let D:=LS O.2.2
 let L:=DR n D.2.2
 if L.2.2.1≠0 then (zP,⟨L.2.2.1,L.2.2.2⟩) else
 if L.2.1≠[] then (zP,⟨10,posR n L.2.1⟩) else
 (⟨ep,R.1,P.1,P.2.1,O.1,O.2.1,D.1,D.2.1,L.1⟩,⟨0,0⟩)
def Au (s:Str):Ac × C9:=
 if 64 < s.length then (zP,⟨12,64⟩) else bG s.length (Dh (v0M (Fz s))).1 (Dh (v0M (Fz s))).2
theorem Rk (n:Nat) (k:Int) (r:Str):F6 n k r=(0,0)∨(F6 n k r).1≠0:=by
 unfold F6
 split
 · exact .inl rfl
 · split <;> exact .inr (by simp)
theorem ADZ (n:Nat) (r:Str):(EM n r).2.2=(0,0)∨(EM n r).2.2.1≠0:=by
 unfold EM
 split
 · exact .inl rfl
 · exact Rk n 1 r
theorem cJ (n:Nat) (r:Str):(DR n r).2.2=(0,0)∨(DR n r).2.2.1≠0:=by
 unfold DR
 split
 · split
   · exact .inl rfl
   · exact Rk n 5 _
 · exact .inl rfl
theorem Hq (s:Str):Gp s=some (Au s):=by
 unfold Gp Au
 by_cases hs:s.length≤64
 · rw[if_neg (by simp; omega),if_neg (by omega),J6 s (by omega)]
   simp only[Option.bind_some]
   rw[show ofb ((s.map fun c:UInt8=>(c.toNat:Int)).map Vp)=Fz s from rfl]
   have hl:(Fz s).length≤64:=by rw[N0]; exact hs
   have hn:s.length=(Fz s).length:=(N0 s).symm
   rw[hn]
   generalize Fz s=a at hl
   have hv:∃ i:Nat,Option.bind (if (decide (0 < (List.length a:Int)))=true then Option.bind (idx a 0) (fun x7=>some (x7 == 118)) else some false:Option (Bool)) (fun x6=>(if x6=true then some (w64 (0 + 1)) else some 0))=some (i:Int)∧Suf a i (v0M a):=by
    cases a with
    | nil=>exact⟨0,rfl,Suf.start _⟩
    | cons c q=>
     obtain⟨h1,h2,h3⟩:=(Suf.start (c :: q)).cons
     have h2':idx (c :: q) 0=some (c.toNat:Int):=h2
     rw[if_pos (by simp),h2']
     simp only[Option.bind_some]
     rw[show ((c.toNat:Int) == 118)=(c == 118) from HK c 118]
     by_cases hc:c=118
     · subst hc
       exact⟨1,rfl,h3⟩
     · have e8:(c == 118)=false:=by simp[hc]
       have e9:v0M (c :: q)=c :: q:=by
        unfold v0M
        split
        · rename_i e; cases e; exact absurd rfl hc
        · rfl
       rw[e8,e9]
       exact⟨0,rfl,Suf.start _⟩
   obtain⟨i0,e0,s0⟩:=hv
   rw[e0]
   simp only[Option.bind_some]
   obtain⟨i1,e1,s1⟩:=ABs hl s0
   rw[e1]
   simp only[Option.bind_some]
   generalize (Dh (v0M a)).1=ep
   generalize (Dh (v0M a)).2=r at s1
   obtain⟨i2,e2,s2⟩:=vJ hl s1
   rw[e2]
   simp only[Option.bind_some]
   unfold bG
   simp only[]
   rcases ADZ a.length r with herr | herr
   · rw[herr]
     simp only[ne_eq,not_true_eq_false,if_false]
     generalize (EM a.length r).1=rel
     generalize (EM a.length r).2.1=r2 at s2
     obtain⟨i3,e3,s3⟩:=dL hl s2 (ws:=LV) (by decide)
     have hp:∃ j:Nat,Option.bind (CO a (i2:Int) 0 0 LV) (fun (x26,x27,x28)=>(if x27=true then Option.bind (idx x26 0) (fun x29=>Option.bind (Option.bind (E0 x26 0 1) (fun x33=>Option.bind (strings_ContainsAny x33 [99,112,114]) (fun x34=>(if x34=true then some 114 else some x29))):Option (Int)) (fun x32=>Option.bind (Ca a x28 0 0) (fun (x35,x36)=>some (x36,x32,x35)))) else some (x28,0,[])))=some ((j:Int),(Dt r2).1,(Dt r2).2.1)∧Suf a j (Dt r2).2.2:=by
      rw[e3]
      simp only[Option.bind_some]
      unfold Dt
      cases hz:(DF LV r2).2.1 with
      | true=>
       obtain⟨i4,e4,s4⟩:=NF hl s3
       refine⟨i4,?_,s4⟩
       simp only[if_true]
       rw[AEg (YC hz),e4]
       rfl
      | false=>exact⟨i3,rfl,s3⟩
     obtain⟨i4,e4,s4⟩:=hp
     rw[show ([[97,108,112,104,97],[97],[98,101,116,97],[98],[112,114,101,118,105,101,119],[112,114,101],[99],[114,99]]:List Str)=LV from rfl,e4]
     simp only[Option.bind_some,beq_self_eq_true,if_true]
     obtain⟨i5,e5,s5⟩:=ADQ hl s4 ep rel (Dt r2).1 (Dt r2).2.1
     rw[e5]
     simp only[Option.bind_some]
     obtain⟨i6,e6,s6⟩:=dL hl s5 (ws:=UZ) (by decide)
     have hd:∃ j:Nat,Option.bind (CO a (i5:Int) 0 0 UZ) (fun (x55,x56,x57)=>(if x56=true then Option.bind (Ca a x57 0 0) (fun (x58,x59)=>some (x59,true,x58)) else some (x57,false,[])))=some ((j:Int),(LS (DU (Dt r2).2.2).2.2).1,(LS (DU (Dt r2).2.2).2.2).2.1)∧Suf a j (LS (DU (Dt r2).2.2).2.2).2.2:=by
      rw[e6]
      simp only[Option.bind_some]
      unfold LS
      cases hz:(DF UZ (DU (Dt r2).2.2).2.2).2.1 with
      | true=>
       obtain⟨i7,e7,s7⟩:=NF hl s6
       refine⟨i7,?_,s7⟩
       simp only[if_true]
       rw[e7]
       rfl
      | false=>exact⟨i6,rfl,s6⟩
     obtain⟨i7,e7,s7⟩:=hd
     rw[show ([[100,101,118]]:List Str)=UZ from rfl,e7]
     simp only[Option.bind_some]
     obtain⟨i8,e8,s8⟩:=ABt hl s7
     rw[e8]
     simp only[Option.bind_some]
     have hLe:=cJ a.length (LS (DU (Dt r2).2.2).2.2).2.2
     generalize DR a.length (LS (DU (Dt r2).2.2).2.2).2.2=L at s8 hLe
     rcases hLe with hL | hL
     · rw[hL]
       have hpos:=s8.posR
       have hps:=s8.pos
       by_cases hr:L.2.1=[]
       · have h9:¬ ((i8:Int) < (a.length:Int)):=by rw[hr] at hps; simp only[List.length_nil] at hps; omega
         simp[hr,h9]
       · have h9:(i8:Int) < (a.length:Int):=by
          have:=List.length_pos_iff.2 hr
          omega
         simp[hr,h9,hpos,zP]
     · simp[hL,zP]
   · rw[if_pos herr]
     have hw:∀ (i:Int) (ws:List Str),CO a i (EM a.length r).2.2.1 (EM a.length r).2.2.2 ws=some ([],false,i):=fun i ws=>by
      unfold CO
      rw[if_pos (by simpa using herr)]
     rw[hw]
     simp only[Option.bind_some,Bool.false_eq_true,if_false]
     have hb:((EM a.length r).2.2.1 == 0)=false:=by simpa using herr
     rw[hb]
     simp only[Bool.false_eq_true,if_false,Option.bind_some]
     rw[hw]
     simp[herr,zP]
 · rw[if_pos (by simp; omega),if_pos (by omega)]
   rfl
end Go.Vm
namespace Go.Vm
open Go
theorem M2 {p:UInt8→Bool}:∀ {s:Str},Ci p s 0=s.length↔∀ c∈s,p c=true:=by
 intro s
 unfold Ci
 simp only[List.drop_zero,Nat.zero_add]
 induction s with
 | nil=>simp
 | cons c s ih=>
  cases hc:p c with
  | true=>rw[List.takeWhile_cons_of_pos hc]; simp[hc,ih]
  | false=>rw[List.takeWhile_cons_of_neg (by simp[hc])]; simp[hc]
def b2i (b:Bool):Int:=if b=true then 1 else 0
theorem AD1 (a b:Bool):w64 (b2i a - b2i b)=LR (b2i a) (b2i b):=by cases a <;> cases b <;> decide
theorem uF {α:Type} (c:α→α→Int) (x y:α):Et c [x] [y]=c x y:=by
 simp only[Et]
 split
 · rfl
 · rename_i h; simp at h; exact h.symm
end Go.Vm
namespace Go.Vm
open Go
def PJ (d:Str):Bool:=!(d == []) && (Ci (isP 1) d 0 == d.length) && (Dz d == d)
def VX (b:Bool) (d:Str):Bool:=if b=true then PJ d else d == []
def RM (p:Str):Bool:=!(p == []) && (Ci (isP 5) p 0 == p.length) && (Fz p == p) && (!(Ci (isP 1) p 0 == p.length) || (Dz p == p))
def vO (p:Int):Bool:=((p == 97) || (p == 98)) || (p == 114)
def Ua (v:Ac):Bool:=PJ v.Epoch && !(v.Release == []) && ((v.Pre == 0) || vO v.Pre) && VX (vO v.Pre) v.PreNum && VX v.Post v.PostNum && VX v.Dev v.DevNum && v.Release.all PJ && v.Local.all RM
structure TO (v:Ac):Prop where
 e:v.Epoch.length≤1048576
 p:v.PreNum.length≤1048576
 o:v.PostNum.length≤1048576
 d:v.DevNum.length≤1048576
 r:v.Release.length≤1048576
 l:v.Local.length≤1048576
 rs:∀ x∈v.Release,x.length≤1048576
 ls:∀ x∈v.Local,x.length≤1048576
theorem AEo (s:Str) (k:Int) (hs:s.length≤1048576):Dy s 0 k=some (Ci (isP k) s 0:Int):=by
 rw[Sj _ _ _ (by omega)]
 unfold wS
 rw[if_neg (by omega)]
 rfl
theorem G7 (d:Str) (b:Bool) (hd:d.length≤1048576):E7 d b=some (VX b d):=by
 unfold E7 VX
 cases b with
 | false=>rfl
 | true=>
  rw[AEo d 1 hd,Gt d (by omega)]
  simp only[Bool.not_true,Bool.false_eq_true,if_false,if_true,Option.bind_some]
  unfold PJ
  have e:((Ci (isP 1) d 0:Int) == (d.length:Int))=(Ci (isP 1) d 0 == d.length):=by
   rw[Bool.eq_iff_iff]; simp; omega
  rw[e]
  cases (d == []) <;> cases (Ci (isP 1) d 0 == d.length) <;> rfl
theorem vC (p:Str) (hp:p.length≤1048576):Rs p=some (RM p):=by
 unfold Rs RM
 rw[AEo p 1 hp,AEo p 5 hp,Gt p (by omega),J6 p (by omega)]
 simp only[Option.bind_some]
 rw[show ofb ((p.map fun c:UInt8=>(c.toNat:Int)).map Vp)=Fz p from rfl]
 have e:∀ k,((Ci (isP k) p 0:Int) != (p.length:Int)) = !(Ci (isP k) p 0 == p.length):=fun k=>by
  rw[bne,Bool.not_inj_iff,Bool.eq_iff_iff]; simp; omega
 rw[e,e]
 cases (p == []) <;> cases (Ci (isP 5) p 0 == p.length) <;> cases (Fz p == p) <;> cases (Ci (isP 1) p 0 == p.length) <;> cases (Dz p == p) <;> rfl
theorem tH {α:Type} {l:List α} {p:α→Bool} {f:Int→Option (Step Int (Int ⊕ Unit))} (h1:∀ (i:Nat) (h:i < l.length),f (i:Int)=if p l[i]=true then some (.done (.inl (i:Int))) else some (.next ((i + 1:Nat):Int))) (h2:f (l.length:Int)=some (.done (.inr ()))) :
 ∃ t,CD f 0=some t∧(match t with | .inl k=>0≤k∧l.any p=true | .inr _=>l.any p=false):=by
 refine ABf (fun x:Int=>∃ i:Nat,x=i∧i≤l.length∧(l.take i).any p=false) (fun x:Int=>l.length - x.toNat) _ (fun x hx=>?_) (x:=0) ⟨0,rfl,Nat.zero_le _,rfl⟩
 obtain⟨i,rfl,hi,ht⟩:=hx
 rcases Nat.lt_or_ge i l.length with h | h
 · rw[h1 i h]
   cases hp:p l[i] with
   | true=>
    left
    refine⟨_,rfl,by simp,?_⟩
    exact List.any_eq_true.2 ⟨l[i],List.getElem_mem h,hp⟩
   | false=>
    right
    refine⟨_,rfl,⟨i + 1,rfl,h,?_⟩,by simp only[Int.toNat_natCast]; omega⟩
    rw[List.take_add_one,List.getElem?_eq_getElem h,List.any_append,ht]
    simp[hp]
 · have:i=l.length:=by omega
   subst this
   left
   refine⟨_,h2,?_⟩
   simpa using ht
theorem iV (l:List Str) (hl:l.length≤1048576) (hs:∀ x∈l,x.length≤1048576):Bh l=some (l.any fun d=>!PJ d):=by
 unfold Bh CB
 obtain⟨t,h1,h2⟩:=tH (l:=l) (p:=fun d=>!PJ d) (f:=Bj l) (fun i h=>by
  unfold Bj
  rw[if_pos (by simp; omega),E6 h]
  simp only[Option.bind_some,TC]
  rw[G7 _ _ (hs _ (List.getElem_mem h)),CR (by omega) (by omega)]
  rfl) (by
  unfold Bj
  rw[if_neg (by simp)])
 rw[h1]
 cases t with
 | inl k=>simp only at h2; rw[h2.2]; simp[h2.1]
 | inr u=>simp only at h2; rw[h2]; rfl
theorem iW (l:List Str) (hl:l.length≤1048576) (hs:∀ x∈l,x.length≤1048576):Bg l=some (l.any fun d=>!RM d):=by
 unfold Bg CA
 obtain⟨t,h1,h2⟩:=tH (l:=l) (p:=fun d=>!RM d) (f:=Bi l) (fun i h=>by
  unfold Bi
  rw[if_pos (by simp; omega),E6 h]
  simp only[Option.bind_some,TD]
  rw[vC _ (hs _ (List.getElem_mem h)),CR (by omega) (by omega)]
  rfl) (by
  unfold Bi
  rw[if_neg (by simp)])
 rw[h1]
 cases t with
 | inl k=>simp only at h2; rw[h2.2]; simp[h2.1]
 | inr u=>simp only at h2; rw[h2]; rfl
theorem nS {α:Type} (p:α→Bool):∀ l:List α,(l.any fun d=>!p d) = !l.all p
 | []=>rfl
 | x :: l=>by simp only[List.any_cons,List.all_cons,nS p l,Bool.not_and]
theorem dE (v:Ac) (h:TO v):TB v=some (Ua v):=by
 unfold TB Ua
 rw[G7 _ _ h.e,G7 _ _ h.p,G7 _ _ h.o,G7 _ _ h.d,iV _ h.r h.rs,iW _ h.l h.ls,nS,nS]
 simp only[Option.bind_some]
 have e1:VX true v.Epoch=PJ v.Epoch:=rfl
 have e2:((v.Release.length:Int) == 0)=(v.Release == []):=by
  cases v.Release <;> simp <;> omega
 rw[e1,e2]
 change (Option.bind (if (((!PJ v.Epoch) || (v.Release == [])) || ((v.Pre != 0) && (!vO v.Pre)))=true then some true else some (!VX (vO v.Pre) v.PreNum)) _)=_
 rw[bne]
 cases PJ v.Epoch <;> cases (v.Release == []) <;> cases (v.Pre == 0) <;> cases vO v.Pre <;> cases VX _ v.PreNum <;> cases VX v.Post v.PostNum <;> cases VX v.Dev v.DevNum <;> cases v.Release.all PJ <;> cases v.Local.all RM <;> rfl
end Go.Vm
namespace Go.Vm
open Go
def AB2 (m:Str) (c:Str→Str→Int):List Str→Int
 | []=>0
 | y :: b=>if c m y≠0 then c m y else AB2 m c b
def Ki (m:Str) (c:Str→Str→Int):List Str→List Str→Int
 | [],b=>AB2 m c b
 | x :: a,[]=>if c x m≠0 then c x m else Ki m c a []
 | x :: a,y :: b=>if c x y≠0 then c x y else Ki m c a b
theorem Gf {m:Str} {c:Str→Str→Int} (hc:Ls c):∀ (N:Nat) (a b:List Str),a.length≤N→b.length≤N→Ki m c a b=Et c (a ++ List.replicate (N - a.length) m) (b ++ List.replicate (N - b.length) m)
 | N,[],[],_,_=>by simp only[Ki,AB2,List.nil_append,List.length_nil]; exact (Sz hc _).symm
 | 0,x :: a,_,h,_=>by simp at h
 | 0,[],y :: b,_,h=>by simp at h
 | N + 1,x :: a,[],ha,hb=>by
  have ih:=Gf (m:=m) hc N a [] (by simpa using ha) (Nat.zero_le _)
  simp only[List.length_nil,Nat.sub_zero,List.nil_append] at ih
  simp only[Ki,List.length_cons,Nat.add_sub_add_right,List.length_nil,Nat.sub_zero,List.nil_append,List.replicate_succ,List.cons_append,Et,ih]
 | N + 1,[],y :: b,ha,hb=>by
  have ih:=Gf (m:=m) hc N [] b (Nat.zero_le _) (by simpa using hb)
  simp only[Ki,List.length_nil,Nat.sub_zero,List.nil_append] at ih
  simp only[Ki,AB2,List.length_cons,Nat.add_sub_add_right,List.length_nil,Nat.sub_zero,List.nil_append,List.replicate_succ,List.cons_append,Et,ih]
 | N + 1,x :: a,y :: b,ha,hb=>by
  have ih:=Gf (m:=m) hc N a b (by simpa using ha) (by simpa using hb)
  simp only[Ki,List.length_cons,Nat.add_sub_add_right,List.cons_append,Et,ih]
theorem ADO {m:Str} {c:Str→Str→Int} (hc:Ls c):Ls (Ki m c) where
 lo x y:=by rw[Gf hc (x.length + y.length) x y (by omega) (by omega)]; exact oR hc _ _
 hi x y:=by rw[Gf hc (x.length + y.length) x y (by omega) (by omega)]; exact oQ hc _ _
 refl x:=by rw[Gf hc x.length x x (by omega) (by omega)]; exact Sz hc _
 anti x y:=by
  rw[Gf hc (x.length + y.length) x y (by omega) (by omega),Gf hc (x.length + y.length) y x (by omega) (by omega)]
  exact W1 hc _ _
 trans x y z:=by
  rw[Gf hc (x.length + y.length + z.length) x y (by omega) (by omega),Gf hc (x.length + y.length + z.length) y z (by omega) (by omega),Gf hc (x.length + y.length + z.length) x z (by omega) (by omega)]
  exact Uf hc _ _ _
theorem AB1 {m:Str} {c:Str→Str→Int}:∀ (a b:List Str) (i:Nat),(i < a.length∨i < b.length)→Ki m c (a.drop i) (b.drop i)=if c (a.getD i m) (b.getD i m)≠0 then c (a.getD i m) (b.getD i m) else Ki m c (a.drop (i + 1)) (b.drop (i + 1)):=by
 intro a b i h
 rcases Nat.lt_or_ge i a.length with h1 | h1 <;> rcases Nat.lt_or_ge i b.length with h2 | h2
 · rw[List.drop_eq_getElem_cons h1,List.drop_eq_getElem_cons h2]
   simp only[Ki,List.getD_eq_getElem?_getD,List.getElem?_eq_getElem h1,List.getElem?_eq_getElem h2,Option.getD_some]
 · rw[List.drop_eq_getElem_cons h1,List.drop_eq_nil_of_le h2,List.drop_eq_nil_of_le (by omega:b.length≤i + 1)]
   simp only[Ki,List.getD_eq_getElem?_getD,List.getElem?_eq_getElem h1,List.getElem?_eq_none h2,Option.getD_some,Option.getD_none]
 · rw[List.drop_eq_getElem_cons h2,List.drop_eq_nil_of_le h1,List.drop_eq_nil_of_le (by omega:a.length≤i + 1)]
   simp only[Ki,AB2,List.getD_eq_getElem?_getD,List.getElem?_eq_getElem h2,List.getElem?_eq_none h1,Option.getD_some,Option.getD_none]
 · omega
theorem wN {m:Str} {c:Str→Str→Int} {a b:List Str} {f:Int→Option (Step Int (Int ⊕ Unit))} (h1:∀ i:Nat,(i < a.length∨i < b.length)→f (i:Int)=if c (a.getD i m) (b.getD i m)≠0 then some (.done (.inl (c (a.getD i m) (b.getD i m)))) else some (.next ((i + 1:Nat):Int))) (h2:∀ i:Nat,a.length≤i→b.length≤i→f (i:Int)=some (.done (.inr ()))) :
 CD f 0=some (if Ki m c a b≠0 then .inl (Ki m c a b) else .inr ()):=by
 have:=D7 (f:=f) (fun x:Int=>∃ i:Nat,x=i) (fun x:Int=>(a.length + b.length) - x.toNat) (fun x=>if Ki m c (a.drop x.toNat) (b.drop x.toNat)≠0 then .inl (Ki m c (a.drop x.toNat) (b.drop x.toNat)) else .inr ()) (fun x hx=>by
  obtain⟨i,rfl⟩:=hx
  simp only[Int.toNat_natCast]
  by_cases h:i < a.length∨i < b.length
  · rw[h1 i h,AB1 a b i h]
    by_cases z:c (a.getD i m) (b.getD i m)≠0
    · left
      rw[if_pos z,if_pos z,if_pos z]
    · right
      rw[if_neg z,if_neg z]
      exact⟨_,rfl,⟨i + 1,rfl⟩,by simp only[Int.toNat_natCast]; omega,by simp only[Int.toNat_natCast]⟩
  · left
    rw[h2 i (by omega) (by omega),List.drop_eq_nil_of_le (by omega),List.drop_eq_nil_of_le (by omega)]
    simp[Ki,AB2]) (x:=0) ⟨0,rfl⟩
 simpa using this
theorem AET (a b:List Str) (i:Nat):decide ((i:Int) < (if (List.length b:Int) > (List.length a:Int) then (List.length b:Int) else (List.length a:Int)))=decide (i < a.length∨i < b.length):=by
 rw[Bool.eq_iff_iff]
 simp only[decide_eq_true_eq]
 split <;> omega
theorem AEG (a:List Str) (i:Nat) (m:Str):(if (decide ((i:Int) < (List.length a:Int)))=true then Option.bind (ixl a i) (fun x22=>some x22) else some m:Option Str)=some (a.getD i m):=by
 rcases Nat.lt_or_ge i a.length with h | h
 · rw[if_pos (by simp; omega),E6 h]
   simp[List.getD_eq_getElem?_getD,h]
 · rw[if_neg (by simp; omega)]
   simp[List.getD_eq_getElem?_getD,List.getElem?_eq_none h]
theorem Vg {a:List Str} {m:Str} (h:∀ x∈a,x.length≤1048576) (hm:m.length≤1048576) (i:Nat):(a.getD i m).length≤1048576:=by
 rw[List.getD_eq_getElem?_getD]
 cases e:a[i]? with
 | none=>exact hm
 | some x=>exact h x (List.mem_of_getElem? e)
theorem ADR (a b:List Str) (ha:a.length≤1048576) (hb:b.length≤1048576) (hsa:∀ x∈a,x.length≤1048576) (hsb:∀ x∈b,x.length≤1048576):Dj a b=some (Ki [48] Wr a b):=by
 unfold Dj
 rw[wN (m:=[48]) (c:=Wr) (a:=a) (b:=b) (fun i hi=>by
  unfold Dn
  rw[AET,if_pos (by simpa using hi)]
  simp only[KJ,Option.bind_some]
  rw[AEG,AEG]
  simp only[Option.bind_some]
  rw[HZ _ _ (by have:=Vg hsa (m:=[48]) (by simp) i; omega) (by have:=Vg hsb (m:=[48]) (by simp) i; omega)]
  simp only[Option.bind_some]
  rw[CR (by omega) (by omega)]
  generalize a.getD i [48]=u
  generalize b.getD i [48]=v
  by_cases z:Wr u v=0
  · rw[if_neg (by simp[z]),if_neg (by simp[z])]; rfl
  · rw[if_pos (by simp[z]),if_pos z]) (fun i h1 h2=>by
  unfold Dn
  rw[AET,if_neg (by simp; omega)])]
 by_cases z:Ki [48] Wr a b=0 <;> simp[z]
def bM (p:Str):Bool:=!(p == []) && (Ci (isP 1) p 0 == p.length)
def QR (p:Str):Int:=if p=[] then 0 else if bM p=true then 2 else 1
def kd (p:Str):List Str:=if bM p=true then [p] else []
def kn (p:Str):List Str:=if bM p=true then [] else [p]
def lpM:Str→Str→Int:=lex2 (fun x y=>LR (QR x) (QR y)) (lex2 (fun x y=>Et Wr (kd x) (kd y)) (fun x y=>Et Lib.compareBytes (kn x) (kn y)))
theorem AEa:Ls lpM:=(cV.map QR).lex2 (((cW ADN).map kd).lex2 ((cW mS).map kn))
theorem UB (p:Str) (hp:p.length≤1048576):EP p=some (bM p):=by
 unfold EP bM
 rw[AEo p 1 hp]
 have e:((Ci (isP 1) p 0:Int) == (p.length:Int))=(Ci (isP 1) p 0 == p.length):=by
  rw[Bool.eq_iff_iff]; simp; omega
 simp only[Option.bind_some]
 rw[e]
 cases (p == []) <;> cases (Ci (isP 1) p 0 == p.length) <;> rfl
theorem u7 (p:Str) (hp:p.length≤1048576):Cz p=some (QR p):=by
 unfold Cz QR
 rw[UB p hp]
 by_cases h:p=[]
 · simp[h]
 · cases hd:bM p <;> simp[h,hd]
theorem XC (x y:Str) (hx:x.length≤1048576) (hy:y.length≤1048576):G5 x y=some (lpM x y):=by
 unfold G5
 rw[u7 x hx,u7 y hy,UB x hx,HZ x y (by omega) (by omega)]
 simp only[Option.bind_some,HM,MJ]
 unfold lpM lex2
 simp only[]
 by_cases h:LR (QR x) (QR y)=0
 · have e:=ABH h
   rw[if_neg (show ¬ ((LR (QR x) (QR y) != 0)=true) by simp[h]),if_neg (show ¬ (LR (QR x) (QR y)≠0) by simp[h])]
   have hdy:bM x=bM y:=by
    unfold QR at e
    by_cases hx0:x=[]
    · by_cases hy0:y=[]
      · rw[hx0,hy0]
      · rw[if_pos hx0,if_neg hy0] at e
        split at e <;> simp at e
    · by_cases hy0:y=[]
      · rw[if_neg hx0,if_pos hy0] at e
        split at e <;> simp at e
      · rw[if_neg hx0,if_neg hy0] at e
        cases h1:bM x <;> cases h2:bM y <;> simp[h1,h2] at e <;> rfl
   unfold kd kn
   rw[← hdy]
   cases hd:bM x with
   | true=>
    simp only[if_true,uF]
    by_cases z:Wr x y=0 <;> simp[z,Et]
   | false=>
    simp only[Bool.false_eq_true,if_false,uF]
    simp[Et]
 · rw[if_pos (by simp[h]),if_pos h]
theorem ADS (a b:List Str) (ha:a.length≤1048576) (hb:b.length≤1048576) (hsa:∀ x∈a,x.length≤1048576) (hsb:∀ x∈b,x.length≤1048576):Di a b=some (Ki [] lpM a b):=by
 unfold Di
 rw[wN (m:=[]) (c:=lpM) (a:=a) (b:=b) (fun i hi=>by
  unfold Dm
  rw[AET,if_pos (by simpa using hi)]
  simp only[KK,Option.bind_some]
  rw[AEG,AEG]
  simp only[Option.bind_some]
  rw[XC _ _ (Vg hsa (by simp) i) (Vg hsb (by simp) i)]
  simp only[Option.bind_some]
  rw[CR (by omega) (by omega)]
  generalize a.getD i []=u
  generalize b.getD i []=v
  by_cases z:lpM u v=0
  · rw[if_neg (by simp[z]),if_neg (by simp[z])]; rfl
  · rw[if_pos (by simp[z]),if_pos z]) (fun i h1 h2=>by
  unfold Dm
  rw[AET,if_neg (by simp; omega)])]
 by_cases z:Ki [] lpM a b=0 <;> simp[z]
def sP (v:Ac):Int:=if (((v.Pre == 0) && (!v.Post)) && v.Dev)=true then 0 else if (v.Pre == 0)=true then 4 else if (v.Pre == 97)=true then 1 else if (v.Pre == 98)=true then 2 else 3
theorem V5 (v:Ac):Lq v=some (sP v):=by
 unfold Lq sP
 split
 · rfl
 · split
   · rfl
   · split
     · rfl
     · split <;> rfl
theorem qD (b:Bool):Jd b=some (b2i b):=by cases b <;> rfl
def AFT:Ac→Ac→Int:=
 lex2 (fun x y=>Wr x.Epoch y.Epoch) (lex2 (fun x y=>Ki [48] Wr x.Release y.Release) (lex2 (fun x y=>LR (sP x) (sP y)) (lex2 (fun x y=>Wr x.PreNum y.PreNum) (lex2 (fun x y=>LR (b2i x.Post) (b2i y.Post)) (lex2 (fun x y=>Wr x.PostNum y.PostNum) (lex2 (fun x y=>LR (-b2i x.Dev) (-b2i y.Dev)) (lex2 (fun x y=>Wr x.DevNum y.DevNum) (fun x y=>Ki [] lpM x.Local y.Local))))))))
theorem ACY (a b:Bool):w64 (b2i b - b2i a)=LR (-b2i a) (-b2i b):=by cases a <;> cases b <;> decide
theorem AFG (x y:Int) (l:List Int):(((x :: y :: l).find? (· != 0)).getD 0)=if x≠0 then x else (((y :: l).find? (· != 0)).getD 0):=by
 by_cases h:x=0 <;> simp[h]
theorem AFF (x:Int):(([x].find? (· != 0)).getD 0)=x:=by
 by_cases h:x=0 <;> simp[h]
theorem pB (a b:Ac) (ha:TO a) (hb:TO b):Fu a b=some (if Ua a=true∧Ua b=true then AFT a b else 0):=by
 unfold Fu
 have ae:=ha.e; have ap:=ha.p; have ao:=ha.o; have ad:=ha.d
 have be:=hb.e; have bp:=hb.p; have bo:=hb.o; have bd:=hb.d
 rw[dE a ha,dE b hb,HZ _ _ (by omega) (by omega),HZ _ _ (by omega) (by omega),HZ _ _ (by omega) (by omega),HZ _ _ (by omega) (by omega),ADR _ _ ha.r hb.r ha.rs hb.rs,ADS _ _ ha.l hb.l ha.ls hb.ls,V5,V5]
 simp only[Option.bind_some,qD,HM]
 rw[T3 _ (by simp)]
 simp only[AFG,AFF,Option.bind_some]
 rw[AD1,ACY]
 cases h1:Ua a <;> cases h2:Ua b <;> simp[AFT,lex2]
end Go.Vm
namespace Go.Vm
open Go
theorem uP {d:Str}:PJ d=true↔d≠[]∧(∀ c∈d,isP 1 c=true)∧Dz d=d:=by
 unfold PJ
 simp only[Bool.and_eq_true,Bool.not_eq_true',beq_eq_false_iff_ne,beq_iff_eq,M2,and_assoc]
theorem ADl {p:UInt8→Bool} (r:Str):∀ c∈r.takeWhile p,p c=true:=fun c hc=>ADL hc
theorem mQ {d:Str} (h:∀ c∈d,isP 1 c=true):PJ (Dz d)=true:=
 uP.2 ⟨AEu _,l8.1 (ACh (l8.2 h)),ACF _⟩
theorem Ln (r:Str):PJ (Kv r)=true:=mQ (ADl r)
theorem W7:PJ [48]=true:=by decide
theorem yT (r:Str):PJ (Dh r).1=true:=by
 unfold Dh
 split
 · exact W7
 · split
   · exact Ln r
   · exact W7
theorem wE:∀ (n:Nat) (r:Str),(Jo n r).1.all PJ=true
 | 0,_=>rfl
 | n + 1,r=>by
  simp only[Jo]
  split
  · split
    · simp only[List.all_cons,Ln,Bool.true_and]
      exact wE n _
    · simp[Ln]
  · simp[Ln]
theorem AEm (n:Nat) (r:Str):(Jo (n + 1) r).1≠[]:=by
 simp only[Jo]
 split
 · split <;> simp
 · simp
theorem Rm (r:Str):PJ (Dl r).1=true:=by
 unfold Dl
 split
 · exact Ln _
 · exact W7
theorem AEf {w:Str} (h:w∈LV):vO (dM w)=true:=by
 simp only[LV,List.mem_cons,List.not_mem_nil,or_false] at h
 rcases h with rfl | rfl | rfl | rfl | rfl | rfl | rfl | rfl <;> decide
theorem AEe (r:Str):(((Dt r).1 == 0) || vO (Dt r).1)=true∧VX (vO (Dt r).1) (Dt r).2.1=true:=by
 unfold Dt
 split
 · rename_i h
   have:=AEf (YC h)
   simp only[this,Bool.or_true,VX,if_true,Rm,and_self]
 · exact⟨rfl,rfl⟩
theorem ADU (r:Str):VX (DU r).1 (DU r).2.1=true:=by
 unfold DU
 split
 · exact Ln _
 · split
   · exact Rm _
   · rfl
theorem AD9 (r:Str):VX (LS r).1 (LS r).2.1=true:=by
 unfold LS
 split
 · exact Rm _
 · rfl
def cK (c:UInt8):UInt8:=UInt8.ofNat (Vp (c.toNat:Int)).toNat
theorem cM (s:Str):Fz s=s.map cK:=by
 simp only[Fz,ofb,List.map_map]
 rfl
theorem cL (c:UInt8):(65≤c.toNat∧c.toNat≤90∧Vp (c.toNat:Int)=(c.toNat:Int) + 32)∨(¬(65≤c.toNat∧c.toNat≤90)∧Vp (c.toNat:Int)=(c.toNat:Int)):=by
 have hc:=c.toNat_lt
 unfold Vp
 by_cases h:65≤c.toNat∧c.toNat≤90
 · left
   refine⟨h.1,h.2,?_⟩
   rw[if_pos (by simp[isB]; omega),AEy (by omega) (by omega)]
 · right
   refine⟨h,?_⟩
   rw[if_neg (by simp[isB]; omega)]
theorem Vo {c:UInt8} (h:¬(65≤c.toNat∧c.toNat≤90)):cK c=c:=by
 unfold cK
 rcases cL c with ⟨h1,h2,_⟩ | ⟨_,h2⟩
 · exact absurd ⟨h1,h2⟩ h
 · rw[h2]; simp
theorem ADH (c:UInt8):cK (cK c)=cK c:=by
 have hc:=c.toNat_lt
 by_cases h:65≤c.toNat∧c.toNat≤90
 · have e:(cK c).toNat=c.toNat + 32:=by
    unfold cK
    rcases cL c with ⟨_,_,h2⟩ | ⟨h1,_⟩
    · rw[h2,show ((c.toNat:Int) + 32).toNat=c.toNat + 32 by omega,UInt8.toNat_ofNat']
      omega
    · exact absurd h h1
   exact Vo (by rw[e]; omega)
 · rw[Vo h,Vo h]
def gB (r:Str):Prop:=∀ c∈r,cK c=c
theorem uL {r:Str} (h:gB r):Fz r=r:=by
 rw[cM]
 conv=>rhs; rw[← List.map_id r]
 exact List.map_congr_left h
theorem AES (s:Str):gB (Fz s):=by
 rw[cM]
 intro c hc
 obtain⟨d,_,rfl⟩:=List.mem_map.1 hc
 exact ADH d
theorem gB.sfx {r q:Str} (h:gB r) (hq:q <:+ r):gB q:=fun c hc=>h c (hq.subset hc)
theorem zE {d:Str} (h:∀ c∈d,isP 1 c=true):gB d:=fun c hc=>Vo (by
 have:=h c hc
 simp[isP,isB] at this
 omega)
theorem RS (r:Str):Hg r <:+ r:=List.dropWhile_suffix _
theorem tG (r:Str):GI r <:+ r:=List.dropWhile_suffix _
theorem sU (a:Str):v0M a <:+ a:=by
 unfold v0M
 split
 · exact List.suffix_cons _ _
 · exact List.suffix_rfl
theorem bQ (r:Str):(Dh r).2 <:+ r:=by
 unfold Dh
 split
 · exact List.suffix_rfl
 · rename_i c q e
   split
   · have:q <:+ Hg r:=by rw[e]; exact List.suffix_cons _ _
     exact this.trans (RS r)
   · exact List.suffix_rfl
theorem wG:∀ (n:Nat) (r:Str),(Jo n r).2 <:+ r
 | 0,_=>List.suffix_rfl
 | n + 1,r=>by
  simp only[Jo]
  have h:=RS r
  split
  · rename_i q e
    rw[e] at h
    split
    · exact (wG n q).trans ((List.suffix_cons _ _).trans h)
    · exact h
  · exact h
theorem wH (n:Nat) (r:Str):(EM n r).2.1 <:+ r:=by
 unfold EM
 split
 · exact wG _ _
 · exact List.suffix_rfl
theorem Gy (ws:List Str) (r:Str):(DF ws r).2.2 <:+ r:=by
 unfold DF
 split
 · exact (List.drop_suffix _ _).trans (List.tail_suffix _)
 · split
   · exact List.drop_suffix _ _
   · exact List.suffix_rfl
theorem Ro (r:Str):(Dl r).2 <:+ r:=by
 have h:EX r <:+ r:=by
  unfold EX
  split
  · exact List.tail_suffix _
  · exact List.suffix_rfl
 unfold Dl
 split
 · exact (RS _).trans h
 · exact h
theorem vQ (r:Str):(Dt r).2.2 <:+ r:=by
 unfold Dt
 split
 · exact (Ro _).trans (Gy _ _)
 · exact Gy _ _
theorem mV (r:Str):(DU r).2.2 <:+ r:=by
 unfold DU
 split
 · exact (RS _).trans (List.tail_suffix _)
 · split
   · exact (Ro _).trans (Gy _ _)
   · exact Gy _ _
theorem tU (r:Str):(LS r).2.2 <:+ r:=by
 unfold LS
 split
 · exact (Ro _).trans (Gy _ _)
 · exact Gy _ _
theorem ABJ {c:UInt8} (h:isP 1 c=true):isP 5 c=true:=by
 simp[isP,isB] at h ⊢
 omega
theorem AAp {r:Str} (h:gB r) (hd:hdP (isP 5) r=true):RM (G4 (D6 r))=true:=by
 have h1:D6 r≠[]:=fun q=>by
  have:=(sT (p:=isP 5) (r:=r)).1 q
  rw[hd] at this
  cases this
 have h2:∀ c∈D6 r,isP 5 c=true:=ADl r
 have h3:gB (D6 r):=fun c hc=>h c ((List.takeWhile_prefix _).subset hc)
 unfold G4
 split
 · rename_i hz
   have hz':=M2.1 hz
   obtain⟨g1,g2,g3⟩:=uP.1 (mQ hz')
   unfold RM
   have e5:Ci (isP 5) (Dz (D6 r)) 0=(Dz (D6 r)).length:=M2.2 fun c hc=>ABJ (g2 c hc)
   rw[e5,uL (zE g2),g3]
   simp[g1]
 · rename_i hz
   unfold RM
   have e5:Ci (isP 5) (D6 r) 0=(D6 r).length:=M2.2 h2
   rw[e5,uL h3]
   simp[h1,hz]
theorem AAm:∀ (n:Nat) (r:Str),gB r→hdP (isP 5) r=true→(JV n r).1.all RM=true
 | 0,_,_,_=>rfl
 | n + 1,r,h,hd=>by
  simp only[JV]
  split
  · rename_i q
    simp only[Bool.and_eq_true] at q
    simp only[List.all_cons,AAp h hd,Bool.true_and]
    exact AAm n _ (h.sfx ((List.tail_suffix _).trans (tG r))) q.2
  · simp[AAp h hd]
theorem ABd (n:Nat) (r:Str) (h:gB r):(DR n r).1.all RM=true:=by
 unfold DR
 split
 · rename_i q
   split
   · rename_i hq
     exact AAm _ _ (h.sfx (List.suffix_cons _ _)) hq
   · rfl
 · rfl
theorem dB {s:Str} (h:(Au s).2.Err=0):Ua (Au s).1=true∧(Au s).2=⟨0,0⟩:=by
 unfold Au at h ⊢
 split
 · rename_i q; rw[if_pos q] at h; cases h
 · rename_i q
   rw[if_neg q] at h
   have hlow:=((AES s).sfx (sU _)).sfx (bQ _)
   have hep:=yT (v0M (Fz s))
   generalize (Dh (v0M (Fz s))).1=ep at h hep
   generalize (Dh (v0M (Fz s))).2=r at h hlow
   unfold bG at h ⊢
   simp only[] at h ⊢
   split
   · rename_i e; rw[if_pos e] at h; exact absurd h e
   · rename_i e
     rw[if_neg e] at h
     split
     · rename_i e2; rw[if_pos e2] at h; exact absurd h e2
     · rename_i e2
       rw[if_neg e2] at h
       split
       · rename_i e3; rw[if_pos e3] at h; cases h
       · refine⟨?_,rfl⟩
         have hrel:(EM s.length r).1≠[]∧(EM s.length r).1.all PJ=true:=by
          unfold EM at e ⊢
          split
          · rename_i hd
            refine⟨?_,wE _ _⟩
            cases r with
            | nil=>cases hd
            | cons c q=>exact AEm _ _
          · rename_i hd
            rw[if_neg hd] at e
            exfalso
            apply e
            simp only[F6,if_neg hd]
            split <;> simp
         obtain⟨p1,p2⟩:=AEe (EM s.length r).2.1
         have p3:=ADU (Dt (EM s.length r).2.1).2.2
         have p4:=AD9 (DU (Dt (EM s.length r).2.1).2.2).2.2
         have p5:=ABd s.length (LS (DU (Dt (EM s.length r).2.1).2.2).2.2).2.2 ((((hlow.sfx (wH _ _)).sfx (vQ _)).sfx (mV _)).sfx (tU _))
         unfold Ua
         simp only[hep,p1,p2,p3,p4,p5,hrel.2,Bool.and_true,Bool.true_and]
         simp[hrel.1]
end Go.Vm
namespace Go.Vm
open Go
def okc (c:UInt8):Bool:=isP 5 c || c == 45 || c == 46 || c == 95 || c == 33 || c == 43
def EU (r q:Str):Prop:=∃ p,r=p ++ q∧∀ c∈p,okc c=true
theorem EU.refl (r:Str):EU r r:=⟨[],rfl,fun c h=>by cases h⟩
theorem EU.trans {a b c:Str} (h:EU a b) (k:EU b c):EU a c:=by
 obtain⟨p,rfl,h1⟩:=h
 obtain⟨q,rfl,h2⟩:=k
 exact⟨p ++ q,by rw[List.append_assoc],fun x hx=>(List.mem_append.1 hx).elim (h1 x) (h2 x)⟩
theorem EU.cons {c:UInt8} {r:Str} (h:okc c=true):EU (c :: r) r:=⟨[c],rfl,fun x hx=>by rw[List.mem_singleton.1 hx]; exact h⟩
theorem YB {p:UInt8→Bool}:∀ {r:Str} {c:UInt8},c∈r.takeWhile p→p c=true
 | [],c,h=>by cases h
 | d :: r,c,h=>by
  cases hd:p d with
  | true=>
   rw[List.takeWhile_cons_of_pos hd] at h
   rcases List.mem_cons.1 h with rfl | h
   · exact hd
   · exact YB h
  | false=>rw[List.takeWhile_cons_of_neg (by simp[hd])] at h; cases h
theorem EU.drop {p:UInt8→Bool} (hp:∀ c,p c=true→okc c=true) (r:Str):EU r (r.dropWhile p):=
 ⟨r.takeWhile p,(List.takeWhile_append_dropWhile ..).symm,fun c hc=>hp c (YB hc)⟩
theorem AEA {c:UInt8} (h:isP 1 c=true):okc c=true:=by
 have:isP 5 c=true:=by
  unfold isP isB at h ⊢
  rw[if_pos rfl] at h
  rw[if_neg (by decide),if_neg (by decide),if_neg (by decide),if_neg (by decide),if_pos rfl,h]
  rfl
 unfold okc
 rw[this]
 rfl
theorem ADt {c:UInt8} (h:isP 5 c=true):okc c=true:=by
 unfold okc
 rw[h]
 rfl
theorem cP {c:UInt8} (h:YS c=true):okc c=true:=by
 unfold YS at h
 unfold okc
 simp only[Bool.or_eq_true] at h ⊢
 rcases h with (h | h) | h
 · exact .inl (.inl (.inl (.inl (.inr h))))
 · exact .inl (.inl (.inr h))
 · exact .inl (.inl (.inl (.inr h)))
theorem Ve (r:Str):EU r (Hg r):=EU.drop (fun c h=>AEA h) r
theorem yR (r:Str):EU r (Dh r).2:=by
 unfold Dh
 cases h:Hg r with
 | nil=>exact EU.refl r
 | cons c q=>
  simp only
  split
  · rename_i hc
    have h1:=Ve r
    rw[h] at h1
    refine h1.trans (EU.cons ?_)
    rw[hc.2]; decide
  · exact EU.refl r
theorem tY:∀ (n:Nat) (r:Str),EU r (Jo n r).2
 | 0,r=>EU.refl r
 | n + 1,r=>by
  have h1:=Ve r
  unfold Jo
  split
  · rename_i q h
    rw[h] at h1
    split
    · exact (h1.trans (EU.cons (by decide))).trans (tY n q)
    · exact h1
  · exact h1
theorem ABL {n:Nat} {r:Str} (h:(EM n r).2.2.1=0):EU r (EM n r).2.1∧r≠[]:=by
 unfold EM at h ⊢
 split
 · rename_i hd
   exact⟨tY _ r,fun e=>by rw[e] at hd; cases hd⟩
 · rename_i hd
   rw[if_neg hd] at h
   unfold F6 at h
   rw[if_neg hd] at h
   split at h <;> simp at h
theorem yG:∀ (ws:List Str) (r:Str) (b:Str × Bool),(b.2=true→r.take b.1.length=b.1)→(ws.foldl (Cd r 0) b).2=true→r.take (ws.foldl (Cd r 0) b).1.length=(ws.foldl (Cd r 0) b).1
 | [],r,b,hb,h=>hb h
 | w :: ws,r,b,hb,h=>by
  simp only[List.foldl_cons] at h ⊢
  refine yG ws r _ (fun q=>?_) h
  unfold Cd at q ⊢
  split
  · rename_i g
    simp only[Bool.and_eq_true] at g
    have:=g.1
    unfold stM at this
    simp only[Bool.and_eq_true,beq_iff_eq] at this
    simpa using this.2
  · rename_i g
    rw[if_neg g] at q
    exact hb q
theorem ACJ {ws:List Str} {r:Str} (h:(BI ws r).2=true):r.take (BI ws r).1.length=(BI ws r).1:=yG ws r ([],false) (fun q=>by cases q) h
theorem bO {ws:List Str} {r:Str} (hw:∀ w∈ws,∀ c∈w,okc c=true) (h:(BI ws r).2=true):EU r (r.drop (BI ws r).1.length):=
 ⟨(BI ws r).1,by conv=>lhs; rw[← List.take_append_drop (BI ws r).1.length r,ACJ h],hw _ (ET h).1⟩
theorem JP {ws:List Str} (hw:∀ w∈ws,∀ c∈w,okc c=true) (r:Str):EU r (DF ws r).2.2:=by
 unfold DF
 split
 · rename_i h
   simp only[Bool.and_eq_true] at h
   cases r with
   | nil=>cases h.1
   | cons c q=>exact (EU.cons (cP h.1)).trans (bO hw h.2)
 · split
   · rename_i h; exact bO hw h
   · exact EU.refl r
theorem lR (r:Str):EU r (EX r):=by
 unfold EX
 split
 · rename_i h
   simp only[Bool.and_eq_true] at h
   cases r with
   | nil=>cases h.1
   | cons c q=>exact EU.cons (cP h.1)
 · exact EU.refl r
theorem bN (r:Str):EU r (Dl r).2:=by
 unfold Dl
 split
 · exact (lR r).trans (Ve _)
 · exact lR r
theorem Ow:(∀ w∈LV,∀ c∈w,okc c=true)∧(∀ w∈My,∀ c∈w,okc c=true)∧∀ w∈UZ,∀ c∈w,okc c=true:=by decide
theorem ACl (r:Str):EU r (Dt r).2.2:=by
 unfold Dt
 split
 · exact (JP Ow.1 r).trans (bN _)
 · exact JP Ow.1 r
theorem ABK (r:Str):EU r (DU r).2.2:=by
 unfold DU
 split
 · rename_i h
   cases r with
   | nil=>cases h
   | cons c q=>
    have hc:okc c=true:=by
     unfold RR at h
     split at h
     · rename_i e; cases e; decide
     · cases h
    exact (EU.cons hc).trans (Ve q)
 · split
   · exact (JP Ow.2.1 r).trans (bN _)
   · exact JP Ow.2.1 r
theorem ACk (r:Str):EU r (LS r).2.2:=by
 unfold LS
 split
 · exact (JP Ow.2.2 r).trans (bN _)
 · exact JP Ow.2.2 r
theorem tW (r:Str):EU r (GI r):=EU.drop (fun c h=>ADt h) r
theorem tX:∀ (n:Nat) (r:Str),EU r (JV n r).2
 | 0,r=>EU.refl r
 | n + 1,r=>by
  unfold JV
  split
  · rename_i h
    simp only[Bool.and_eq_true] at h
    refine (tW r).trans ?_
    cases hr:GI r with
    | nil=>rw[hr] at h; cases h.1
    | cons c q=>
     rw[hr] at h
     exact (EU.cons (cP h.1)).trans (tX n q)
  · exact tW r
theorem yS (n:Nat) (r:Str):EU r (DR n r).2.1:=by
 unfold DR
 split
 · split
   · exact (EU.cons (by decide)).trans (tX _ _)
   · exact EU.cons (by decide)
 · exact EU.refl _
theorem N5 {s:Str} (h:(Au s).2.Err=0):(∀ c∈s,okc c=true)∧s≠[]∧s.length≤64:=by
 have hlen:s.length≤64:=by
  unfold Au at h
  split at h
  · cases h
  · omega
 have key:(∀ c∈Fz s,okc c=true)∧Fz s≠[]:=by
  unfold Au at h
  rw[if_neg (by omega)] at h
  have hv:EU (Fz s) (v0M (Fz s)):=by
   unfold v0M
   split
   · rename_i q e; rw[e]; exact EU.cons (by decide)
   · exact EU.refl _
  have he:=hv.trans (yR (v0M (Fz s)))
  generalize (Dh (v0M (Fz s))).1=ep at h
  generalize (Dh (v0M (Fz s))).2=r at h he
  unfold bG at h
  simp only at h
  split at h
  · rename_i q; exact absurd h q
  · rename_i q1
    split at h
    · rename_i q; exact absurd h q
    · rename_i q2
      split at h
      · cases h
      · rename_i q3
        obtain⟨e1,e2⟩:=ABL (n:=s.length) (r:=r) (by simpa using q1)
        have e5:=(((he.trans e1).trans (ACl _)).trans (ABK _)).trans (ACk _)
        have e6:=e5.trans (yS s.length _)
        have hnil:(DR s.length (LS (DU (Dt (EM s.length r).2.1).2.2).2.2).2.2).2.1=[]:=by
         simpa using q3
        rw[hnil] at e6
        obtain⟨p,hp1,hp2⟩:=e6
        rw[List.append_nil] at hp1
        rw[hp1]
        refine⟨hp2,fun e=>e2 ?_⟩
        obtain⟨p',hp3,_⟩:=he
        rw[hp1,e] at hp3
        exact (List.append_eq_nil_iff.1 hp3.symm).2
 rw[cM] at key
 refine⟨fun c hc=>?_,fun e=>key.2 (by rw[e]; rfl),hlen⟩
 have:=key.1 (cK c) (List.mem_map_of_mem hc)
 revert this
 have all:∀ n:Fin 256,okc (cK (UInt8.ofNat n.val))=true→okc (UInt8.ofNat n.val)=true:=by decide +kernel
 have:=all ⟨c.toNat,c.toNat_lt⟩
 simpa using this
end Go.Vm
namespace Go.Vm
open Go
theorem UJ (i:Nat) (h:i≤9223372036854775806):w64 ((i:Int) + 1)=((i + 1:Nat):Int):=by rw[CR (by omega) (by omega)]; rfl
end Go.Vm
namespace Go.Vm
open Go
def Cs:List Str:=[[126,61],[61,61],[33,61],[60,61],[62,61],[60],[62],[61,61,61]]
def eqW:Str:=[61,61]
def neW:Str:=[33,61]
def teW:Str:=[126,61]
def QV:Str:=[61,61,61]
def Kx (s:Str) (i:Nat) (c:UInt8):Bool:=s[i]? == some c
def blk (s:Str) (i:Nat):Nat:=Ci (isP 6) s i
def VQ (s:Str) (i:Nat):Int × Int:=if s.length≤i then (11,(s.length:Int)) else (10,(i:Int))
def opE (s:Str) (i:Nat):Str × Nat × Int × Int:=
 let w:=Cs.foldl (Cd s i) ([],false)
 if w.2=true then (w.1,i + w.1.length,0,0)
 else
  let j:=if (Kx s i 126 || Kx s i 33 || Kx s i 61)=true then i + 1 else i
  (w.1,j + w.1.length,VQ s j)
def DS (c:UInt8):Bool:=!isP 6 c && !(c == 44)
def lH (s:Str) (f:Nat):Nat:=Ci DS s f
def UO (c:UInt8):Bool:=decide (c.toNat < 33) || decide (126 < c.toNat)
def Dd:Str:=[46,42]
def Mn (w:Str):Bool:=decide (2≤w.length) && (w.drop (w.length - 2) == Dd)
def bF (v:Ac):Bool:=(v.Pre == 0) && !v.Post && !v.Dev && v.Local.isEmpty
def LD (o:Str) (star:Bool) (v:Ac):Bool:=
 (star && !bF v) || ((o == teW) && decide (v.Release.length < 2)) || (!(o == eqW) && !(o == neW) && !v.Local.isEmpty)
def ML (o w:Str) (f:Nat):Str × Bool × Int × Int:=
 let st:=Mn w && ((o == eqW) || (o == neW))
 let b:=if st=true then w.take (w.length - 2) else w
 let p:=Au b
 (b,st,if p.2.Err≠0 then (p.2.Err,(f:Int) + p.2.At) else if LD o st p.1=true then (19,(f:Int)) else (0,0))
theorem AA4 {o w:Str} {f:Nat}:(ML o w f).2.2.1=0→(ML o w f).2.2.2=0:=by
 unfold ML
 simp only[]
 generalize (Mn w && ((o == eqW) || (o == neW)))=st
 generalize Au (if st=true then w.take (w.length - 2) else w)=p
 by_cases hp:p.2.Err=0
 · rw[if_neg (show ¬ p.2.Err≠0 by simp[hp])]
   cases LD o st p.1 <;> simp
 · rw[if_pos hp]
   intro q
   exact absurd q hp
def Gm (s:Str) (i:Nat) (o:Str):Str × Bool × Nat × Int × Int:=
 let f:=blk s i
 let e:=lH s f
 let w:=(s.drop f).take (e - f)
 if w=[] then ([],false,e,VQ s e)
 else if o=QV then (w,false,e,match w.findIdx? UO with
  | some k=>(10,((f + k:Nat):Int))
  | none=>(0,0))
 else ((ML o w f).1,(ML o w f).2.1,e,(ML o w f).2.2)
def D8:Nat→Str→Nat→Nat→List AK→List AK × Int × Int
 | 0,_,_,_,acc=>(acc,0,0)
 | k + 1,s,x,n,acc=>
  let x1:=blk s x
  if n=32∧x1 < s.length then (acc,12,(x1:Int))
  else
   let o:=opE s x1
   if o.2.2.1≠0 then (acc,o.2.2)
   else
    let w:=Gm s o.2.1 o.1
    if w.2.2.2.1≠0 then (acc,w.2.2.2)
    else
     let acc2:=acc ++ [⟨o.1,w.1,w.2.1⟩]
     let x2:=blk s w.2.2.1
     if s.length≤x2 then (acc2,0,0)
     else if Kx s x2 44=true then D8 k s (x2 + 1) (n + 1) acc2
     else (acc2,VQ s x2)
def Ul (s:Str):List AK × Int × Int:=
 if 256 < s.length then ([],12,256)
 else
  let x:=blk s 0
  if s.length≤x then ([],0,0)
  else
   let r:=D8 (s.length + 1) s x 0 []
   if r.2.1≠0 then ([],r.2) else (r.1,0,0)
section
variable (s:Str) (hs:s.length≤256)
include hs
theorem qK {i:Nat} (hi:i≤s.length) (e f:Int):CK s i e f=some (blk s i:Int):=by
 unfold CK
 rw[Sj _ _ _ (by omega)]
 unfold wS
 rw[if_neg (by omega),Int.toNat_natCast]
 try rfl
omit hs in
theorem Wp {i:Nat} (hi:i≤s.length):i≤blk s i∧blk s i≤s.length:=⟨aV _ _ _,Wc hi⟩
omit hs in
theorem vU (i:Nat) (c:UInt8) (e f:Int):Bv s i e f (c.toNat:Int)=some (Kx s i c):=by
 unfold Bv Kx
 by_cases h:i < s.length
 · rw[if_pos (by simpa using h),Mr h,List.getElem?_eq_getElem h]
   simp only[Option.bind_some]
   rw[HK]
   congr 1
 · rw[if_neg (by simpa using h),List.getElem?_eq_none (by omega)]
   rfl
omit hs in
theorem dP (i:Nat):Cn s i 0 0=some (VQ s i):=by
 unfold Cn VQ Bu Ba
 by_cases h:s.length≤i
 · rw[if_pos (by simpa using h),if_pos h]; rfl
 · rw[if_neg (by simpa using h),if_neg h]; rfl
omit hs in
theorem Or (i:Nat):(VQ s i).1≠0:=by
 unfold VQ
 split <;> simp
omit hs in
theorem AAq (i:Nat) (hi:i≤s.length):((Cs.foldl (Cd s i) ([],false)).2=true→(Cs.foldl (Cd s i) ([],false)).1∈Cs∧i + (Cs.foldl (Cd s i) ([],false)).1.length≤s.length)∧((Cs.foldl (Cd s i) ([],false)).2=false→(Cs.foldl (Cd s i) ([],false)).1=[]):=by
 have hS:Suf s i (s.drop i):=⟨hi,rfl⟩
 rw[Lk hS]
 refine⟨fun h=>?_,fun h=>?_⟩
 · obtain⟨h1,h2⟩:=ET (ws:=Cs) (r:=s.drop i) h
   refine⟨h1,?_⟩
   simp only[List.length_drop] at h2
   show i + (BI Cs (s.drop i)).1.length≤s.length
   omega
 · have key:∀ (ws:List Str) (r:Str) (b:Str × Bool),(ws.foldl (Cd r 0) b).2=false→(ws.foldl (Cd r 0) b)=b:=by
    intro ws
    induction ws with
    | nil=>intro r b _; rfl
    | cons w ws ih=>
     intro r b hb
     simp only[List.foldl_cons] at hb ⊢
     have:=ih r _ hb
     rw[this] at hb ⊢
     unfold Cd at hb ⊢
     split
     · rename_i q; rw[if_pos q] at hb; cases hb
     · rfl
   rw[key _ _ _ h]
theorem AFp {i:Nat} (hi:i≤s.length):DL s i 0 0=some ((opE s i).1,((opE s i).2.1:Int),(opE s i).2.2):=by
 unfold DL
 rw[Wd _ _ _ (by omega) (by simp)]
 simp only[Option.bind_some]
 obtain⟨h1,h2⟩:=AAq s i hi
 have hops:([[126,61],[61,61],[33,61],[60,61],[62,61],[60],[62],[61,61,61]]:List Str)=Cs:=rfl
 rw[hops]
 unfold opE
 generalize hW:Cs.foldl (Cd s i) ([],false)=W at h1 h2
 obtain⟨w,b⟩:=W
 cases b with
 | true=>
  obtain⟨_,h3⟩:=h1 rfl
  simp only[Bool.not_true,Bool.false_eq_true,if_false,Option.bind_some,if_true]
  simp only at h3
  rw[CR (by omega) (by omega)]
  rfl
 | false=>
  have h3:=h2 rfl
  simp only at h3
  subst h3
  simp only[Bool.not_false,if_true,Bool.false_eq_true,if_false]
  have e1:=vU s i 126 0 0
  have e2:=vU s i 33 0 0
  have e3:=vU s i 61 0 0
  simp only[show ((126:UInt8).toNat:Int)=126 from rfl,show ((33:UInt8).toNat:Int)=33 from rfl,show ((61:UInt8).toNat:Int)=61 from rfl] at e1 e2 e3
  rw[e1,e2,e3]
  have hj:Option.bind (some (Kx s i 126)) (fun x35=>Option.bind (if x35=true then some true else Option.bind (some (Kx s i 33)) (fun x38=>some x38):Option (Bool)) (fun x37=>Option.bind (if x37=true then some true else Option.bind (some (Kx s i 61)) (fun x41=>some x41):Option (Bool)) (fun x40=>(if x40=true then some (w64 ((i:Int) + 1)) else some (i:Int)))))=some (((if (Kx s i 126 || Kx s i 33 || Kx s i 61)=true then i + 1 else i:Nat)):Int):=by
   rw[UJ i (by omega)]
   cases Kx s i 126 <;> cases Kx s i 33 <;> cases Kx s i 61 <;> rfl
  rw[hj]
  simp only[Option.bind_some]
  have hle:(if (Kx s i 126 || Kx s i 33 || Kx s i 61)=true then i + 1 else i:Nat)≤257:=by split <;> omega
  generalize (if (Kx s i 126 || Kx s i 33 || Kx s i 61)=true then i + 1 else i:Nat)=j at hle
  rw[dP]
  simp only[Option.bind_some,List.length_nil,Nat.add_zero]
  have hz:(([]:Str).length:Int)=0:=rfl
  rw[CR (by omega) (by omega)]
  try simp
theorem AFX {f:Nat} (hf:f≤s.length) (e g:Int):CD (DV s e g) f=some (lH s f:Int):=by
 refine X3 (p:=DS) (s:=s) (i:=f) ?_ ?_ hf
 · unfold DV
   rw[if_neg (by simp)]
   rfl
 · intro i h
   unfold DV
   have e3:=vU s i 44 e g
   simp only[show ((44:UInt8).toNat:Int)=44 from rfl] at e3
   rw[if_pos (by simp; omega),Mr h,e3,UJ i (by omega)]
   simp only[Option.bind_some,FG]
   unfold DS Kx
   rw[List.getElem?_eq_getElem h]
   show Option.bind (if (!isP 6 s[i])=true then _ else _) _=_
   have e4:(some s[i] == some (44:UInt8))=(s[i] == 44):=by rw[Bool.eq_iff_iff]; simp
   rw[e4]
   cases isP 6 s[i] <;> cases s[i] == 44 <;> rfl
theorem AFW (f x:Int) (w:Str) (hw:w.length≤256) (hf0:0≤f) (hf:f≤256):CD (DW s f x w) (0,0,0)=some (match w.findIdx? UO with
 | some k=>(10,f + (k:Int))
 | none=>(0,0)):=by
 have:=D7 (f:=DW s f x w) (fun z=>∃ i:Nat,z.2.2=(i:Int)∧i≤w.length∧((z.1=0∧z.2.1=0∧w.findIdx? UO=((w.drop i).findIdx? UO).map (· + i))∨(∃ k,w.findIdx? UO=some k∧z.1=10∧z.2.1=f + (k:Int)))) (fun z=>w.length - z.2.2.toNat) (fun _=>match w.findIdx? UO with
  | some k=>(10,f + (k:Int))
  | none=>(0,0)) (fun z hz=>by
  obtain⟨a,b,z⟩:=z
  obtain⟨i,e,hi,hI⟩:=hz
  simp only at e hI
  subst e
  unfold DW
  simp only[]
  rcases Nat.lt_or_ge i w.length with h | h
  · right
    rw[if_pos (by simpa using h),Mr h,UJ i (by omega)]
    simp only[Option.bind_some]
    have hbad:(Option.bind (if (decide ((w[i].toNat:Int) < 33))=true then some true else some (decide ((w[i].toNat:Int) > 126)):Option Bool) (fun x114=>(if x114=true then Option.bind (Bu s x a b 10 (w64 (f + (i:Int)))) (fun (x116,x117)=>some (x116,x117)) else some (a,b))))=some (if UO w[i]=true then (if a=0 then (10,f + (i:Int)) else (a,b)) else (a,b)):=by
     have hb:UO w[i]=(decide ((w[i].toNat:Int) < 33) || decide ((w[i].toNat:Int) > 126)):=by
      unfold UO
      rw[Bool.eq_iff_iff]
      simp
      omega
     rw[hb,CR (by omega) (by omega)]
     unfold Bu Ba
     by_cases ha:a=0
     · subst ha
       cases decide ((w[i].toNat:Int) < 33) <;> cases decide ((w[i].toNat:Int) > 126) <;> rfl
     · have:(a == 0)=false:=by simpa using ha
       rw[this,if_neg ha]
       cases decide ((w[i].toNat:Int) < 33) <;> cases decide ((w[i].toNat:Int) > 126) <;> rfl
    rw[hbad]
    simp only[Option.bind_some]
    refine⟨_,rfl,⟨i + 1,rfl,h,?_⟩,by simp only[Int.toNat_natCast]; omega,by first | trivial | rfl⟩
    rcases hI with ⟨rfl,rfl,hI⟩ | ⟨k,hk,rfl,rfl⟩
    · rw[List.drop_eq_getElem_cons h,List.findIdx?_cons] at hI
      cases hb:UO w[i] with
      | true=>
       rw[hb] at hI
       right
       exact⟨i,by simpa using hI,by simp,by simp⟩
      | false=>
       left
       rw[hb] at hI
       refine⟨by simp,by simp,?_⟩
       rw[hI]
       simp only[Bool.false_eq_true,if_false,Option.map_map]
       congr 1
       funext q
       simp only[Function.comp_apply]
       omega
    · right
      refine⟨k,hk,?_,?_⟩
      · split <;> rfl
      · split <;> rfl
  · left
    have:i=w.length:=by omega
    subst this
    rw[if_neg (by simp)]
    rcases hI with ⟨rfl,rfl,hI⟩ | ⟨k,hk,rfl,rfl⟩
    · rw[List.drop_length] at hI
      rw[hI]
      rfl
    · rw[hk]) (x:=((0:Int),(0:Int),(0:Int))) ⟨0,rfl,Nat.zero_le _,.inl ⟨rfl,rfl,by simp⟩⟩
 rw[this]
end
theorem AEs (w:Str) (hw:w.length≤256):Ec w [46,42]=some (Mn w):=by
 unfold Ec EK Mn
 by_cases h:2≤w.length
 · rw[if_pos (by simp; omega),CR (by simp; omega) (by simp; omega),show ((w.length:Int) - (([46,42]:Str).length:Int))=((w.length - 2:Nat):Int) by simp; omega,TK (by omega),decide_eq_true h]
   rfl
 · rw[if_neg (by simp; omega),decide_eq_false h]
   rfl
theorem qL (s:Str) (x:Int) (a b:Int):Bu s x 0 0 a b=some (a,b):=rfl
theorem ABy (v:Ac):HB v=some (bF v):=by
 unfold HB bF
 congr 2
 cases v.Local <;> rfl
theorem ABm (b:Str) (hb:b.length≤256) : -1≤(Au b).2.At∧(Au b).2.At≤1048576:=by
 unfold Au
 split
 · exact⟨by decide,by decide⟩
 · unfold bG EM DR F6 posR
   simp only
   repeat' split
   all_goals first
    | (constructor <;> (try simp only) <;> omega)
    | skip
section
variable (s:Str) (hs:s.length≤256)
include hs
theorem AEk {i:Nat} (hi:i≤s.length) (o:Str):EB s i 0 0 o=some ((Gm s i o).1,(Gm s i o).2.1,((Gm s i o).2.2.1:Int),(Gm s i o).2.2.2):=by
 obtain⟨b1,b2⟩:=Wp s hi
 unfold EB Gm
 rw[qK s hs hi]
 simp only[Option.bind_some]
 rw[AFX s hs b2]
 simp only[Option.bind_some]
 have e1:blk s i≤lH s (blk s i):=aV _ _ _
 have e2:lH s (blk s i)≤s.length:=Wc b2
 rw[Ot e1 e2]
 simp only[Option.bind_some]
 have hwl:(List.take (lH s (blk s i) - blk s i) (List.drop (blk s i) s)).length≤256:=by
  rw[List.length_take,List.length_drop]; omega
 generalize List.take (lH s (blk s i) - blk s i) (List.drop (blk s i) s)=w at hwl
 by_cases hw:w=[]
 · rw[if_pos (by simp[hw]),if_pos hw,dP]
   rfl
 · rw[if_neg (by simpa using hw),if_neg hw]
   by_cases ho:o=QV
   · rw[if_pos (by rw[ho]; rfl),if_pos ho,AFW s hs _ _ w hwl (by omega) (by omega)]
     simp only[Option.bind_some]
     cases w.findIdx? UO with
     | none=>rfl
     | some k=>simp
   · rw[if_neg (by simpa[QV] using ho),if_neg ho,AEs w hwl]
     simp only[Option.bind_some]
     unfold ML
     show Option.bind (if (Mn w && ((o == eqW) || (o == neW)))=true then _ else _) _=_
     have hb:(if (Mn w && ((o == eqW) || (o == neW)))=true then Option.bind (E0 w 0 (w64 ((List.length w:Int) - 2))) (fun x121=>some x121) else some w:Option Str)=some (if (Mn w && ((o == eqW) || (o == neW)))=true then w.take (w.length - 2) else w):=by
      split
      · rename_i q
        simp only[Bool.and_eq_true] at q
        have h2:=q.1
        unfold Mn at h2
        simp only[Bool.and_eq_true,decide_eq_true_eq] at h2
        rw[CR (by omega) (by omega),show (w.length:Int) - 2=((w.length - 2:Nat):Int) by omega,YA (by omega)]
        rfl
      · rfl
     rw[hb]
     simp only[Option.bind_some]
     have hbl:(if (Mn w && ((o == eqW) || (o == neW)))=true then w.take (w.length - 2) else w).length≤256:=by
      split
      · rw[List.length_take]; omega
      · exact hwl
     have hpa:=ABm _ hbl
     rw[Hq]
     simp only[Option.bind_some]
     show Option.bind _ _=_
     generalize hst:(Mn w && ((o == eqW) || (o == neW)))=st at hpa
     generalize Au (if st=true then w.take (w.length - 2) else w)=p at hpa
     by_cases hp:p.2.Err=0
     · rw[if_neg (show ¬ ((p.2.Err != 0)=true) by simp[hp]),if_neg (show ¬ (p.2.Err≠0) by simp[hp])]
       rw[ABy]
       have hx:(Option.bind (if (Mn w && ((o == [61,61]) || (o == [33,61])))=true then Option.bind (some (bF ⟨p.1.Epoch,p.1.Release,p.1.Pre,p.1.PreNum,p.1.Post,p.1.PostNum,p.1.Dev,p.1.DevNum,p.1.Local⟩)) (fun x139=>some (!x139)) else some false:Option (Bool)) (fun x138=>(if x138=true then some true else (if ((o == [126,61]) && (decide ((List.length p.1.Release:Int) < 2)))=true then some true else some (((!(o == [61,61])) && (!(o == [33,61]))) && (decide ((List.length p.1.Local:Int) > 0)))))))=some (LD o st p.1):=by
        rw[show (Mn w && ((o == [61,61]) || (o == [33,61])))=st from hst]
        unfold LD
        have hl:decide ((List.length p.1.Local:Int) > 0) = !p.1.Local.isEmpty:=by cases p.1.Local <;> simp
        have hr:decide ((List.length p.1.Release:Int) < 2)=decide (p.1.Release.length < 2):=by
         rw[decide_eq_decide]; omega
        rw[hl,hr]
        show Option.bind (if st=true then some (!bF p.1) else some false) _=_
        cases st with
        | false=>
         simp only[Bool.false_eq_true,if_false,Option.bind_some,Bool.false_and,Bool.false_or]
         show (if ((o == teW) && decide (p.1.Release.length < 2))=true then some true else some (((!(o == eqW)) && (!(o == neW))) && (!p.1.Local.isEmpty)))=_
         cases (o == teW) && decide (p.1.Release.length < 2) <;> rfl
        | true=>
         simp only[if_true,Option.bind_some,Bool.true_and]
         show (if (!bF p.1)=true then some true else if ((o == teW) && decide (p.1.Release.length < 2))=true then some true else some (((!(o == eqW)) && (!(o == neW))) && (!p.1.Local.isEmpty)))=_
         cases bF p.1 <;> cases (o == teW) && decide (p.1.Release.length < 2) <;> rfl
       rw[hx]
       simp only[Option.bind_some,qL]
       have hst2:(Mn w && ((o == [61,61]) || (o == [33,61])))=st:=hst
       rw[hst2]
       cases LD o st p.1 <;> rfl
     · rw[if_pos (show (p.2.Err != 0)=true by simpa using hp),if_pos (show p.2.Err≠0 from hp),qL]
       simp only[Option.bind_some]
       have hst2:(Mn w && ((o == [61,61]) || (o == [33,61])))=st:=hst
       rw[hst2,CR (by omega) (by omega)]
theorem ADp {i:Nat} (hi:i≤s.length) (o:Str):blk s i≤(Gm s i o).2.2.1∧(Gm s i o).2.2.1≤s.length:=by
 obtain⟨b1,b2⟩:=Wp s hi
 have e1:blk s i≤lH s (blk s i):=aV _ _ _
 have e2:lH s (blk s i)≤s.length:=Wc b2
 unfold Gm
 simp only[]
 split
 · exact⟨e1,e2⟩
 · split <;> exact⟨e1,e2⟩
theorem AFS {i:Nat} (hi:i≤s.length) (h:(opE s i).2.2.1=0):i < (opE s i).2.1∧(opE s i).2.1≤s.length∧(Cs.foldl (Cd s i) ([],false)).2=true:=by
 obtain⟨h1,h2⟩:=AAq s i hi
 unfold opE at h ⊢
 generalize hW:Cs.foldl (Cd s i) ([],false)=W at h1 h2 h
 obtain⟨w,b⟩:=W
 cases b with
 | true=>
  obtain⟨h3,h4⟩:=h1 rfl
  have hpos:0 < w.length:=by
   have all:∀ w∈Cs,0 < w.length:=by decide
   exact all _ h3
  exact⟨by simp only[if_true]; omega,h4,rfl⟩
 | false=>
  exfalso
  simp only[Bool.false_eq_true,if_false] at h
  exact Or s _ h
theorem AEi:∀ (k x n:Nat) (acc:List AK),s.length - x < k→x≤s.length→n≤x→acc.length=n →
 ∃ y:Int,CD (BS s) ((x:Int),0,0,(n:Int),acc)=some (Sum.inl (y,(D8 k s x n acc).2.1,(D8 k s x n acc).2.2,(D8 k s x n acc).1)):=by
 intro k
 induction k with
 | zero=>intro x n acc h; omega
 | succ k ih=>
  intro x n acc hk hx hn han
  obtain⟨b1,b2⟩:=Wp s hx
  have step:∃ r,BS s ((x:Int),0,0,(n:Int),acc)=some r∧((∃ y:Int,r = .done (Sum.inl (y,(D8 (k + 1) s x n acc).2.1,(D8 (k + 1) s x n acc).2.2,(D8 (k + 1) s x n acc).1))) ∨
   ∃ x2 acc2,r = .next (((x2:Nat):Int),0,0,((n + 1:Nat):Int),acc2)∧x < x2∧x2≤s.length∧acc2.length=n + 1∧D8 (k + 1) s x n acc=D8 k s x2 (n + 1) acc2):=by
   unfold BS
   simp only[Ba,Option.bind_some,beq_self_eq_true,if_true]
   rw[qK s hs hx]
   simp only[Option.bind_some]
   rw[D8]
   simp only[]
   by_cases h1:n=32∧blk s x < s.length
   · rw[if_pos (by simp; omega),if_pos h1,qL]
     exact⟨_,rfl,.inl ⟨_,rfl⟩⟩
   · rw[if_neg (by simp; omega),if_neg h1,AFp s hs b2]
     simp only[Option.bind_some]
     by_cases h2:(opE s (blk s x)).2.2.1=0
     · have h2':((opE s (blk s x)).2.2.1 == 0)=true:=by simp[h2]
       obtain⟨o1,o2,o3⟩:=AFS s hs b2 h2
       have h22:(opE s (blk s x)).2.2.2=0:=by
        unfold opE
        simp only[]
        rw[o3]
        rfl
       rw[h2',if_neg (by decide),if_neg (by simp[h2]),h2,h22,AEk s hs o2]
       simp only[Option.bind_some]
       obtain⟨w1,w2⟩:=ADp s hs o2 (opE s (blk s x)).1
       obtain⟨w3,w4⟩:=Wp s w2
       obtain⟨w5,_⟩:=Wp s o2
       by_cases h3:(Gm s (opE s (blk s x)).2.1 (opE s (blk s x)).1).2.2.2.1=0
       · have h3':((Gm s (opE s (blk s x)).2.1 (opE s (blk s x)).1).2.2.2.1 == 0)=true:=by simp[h3]
         have h32:(Gm s (opE s (blk s x)).2.1 (opE s (blk s x)).1).2.2.2.2=0:=by
          revert h3
          unfold Gm
          simp only[]
          split
          · intro q; exact absurd q (Or s _)
          · split
            · simp only
              split
              · intro q; cases q
              · intro _; rfl
            · exact fun q=>AA4 q
         rw[h3',if_neg (by decide),if_neg (by simp[h3]),UM (by simp only[List.length_singleton]; omega) (by simp only[List.length_singleton]; omega)]
         simp only[Option.bind_some,Bool.false_eq_true,if_false]
         rw[h3,h32,qK s hs w2]
         simp only[Option.bind_some]
         by_cases h4:s.length≤blk s (Gm s (opE s (blk s x)).2.1 (opE s (blk s x)).1).2.2.1
         · rw[if_pos (by simpa using h4),if_pos h4]
           exact⟨_,rfl,.inl ⟨_,rfl⟩⟩
         · rw[if_neg (by simpa using h4),if_neg h4]
           have e3:=vU s (blk s (Gm s (opE s (blk s x)).2.1 (opE s (blk s x)).1).2.2.1) 44 0 0
           simp only[show ((44:UInt8).toNat:Int)=44 from rfl] at e3
           rw[e3]
           simp only[Option.bind_some]
           by_cases h5:Kx s (blk s (Gm s (opE s (blk s x)).2.1 (opE s (blk s x)).1).2.2.1) 44=true
           · rw[h5,if_neg (by decide),if_pos rfl,UJ _ (by omega),UJ n (by omega)]
             exact⟨_,rfl,.inr ⟨_,_,rfl,by omega,by omega,by simp only[List.length_append,List.length_singleton]; omega,rfl⟩⟩
           · rw[if_pos (by simpa using h5),if_neg h5,dP]
             exact⟨_,rfl,.inl ⟨_,rfl⟩⟩
       · have h3':((Gm s (opE s (blk s x)).2.1 (opE s (blk s x)).1).2.2.2.1 == 0)=false:=by simpa using h3
         rw[h3',if_pos (by decide),if_pos h3]
         simp only[Option.bind_some,if_true]
         exact⟨_,rfl,.inl ⟨_,rfl⟩⟩
     · have h2':((opE s (blk s x)).2.2.1 == 0)=false:=by simpa using h2
       rw[h2',if_pos (by decide),if_pos h2]
       exact⟨_,rfl,.inl ⟨_,rfl⟩⟩
  obtain⟨r,e,h⟩:=step
  rcases h with ⟨y,rfl⟩ | ⟨x2,acc2,rfl,g1,g2,g3,g4⟩
  · exact⟨y,Da e⟩
  · rw[HP e,g4]
    exact ih x2 (n + 1) acc2 (by omega) g2 (by omega) g3
end
theorem dO (s:Str):D2 s=some (Ul s):=by
 unfold D2 Ul
 by_cases hs:s.length≤256
 · rw[if_neg (by simp; omega),if_neg (by omega)]
   unfold EH DE Bw
   have e0:=qK s hs (Nat.zero_le _) 0 0
   rw[Int.natCast_zero] at e0
   obtain⟨b1,b2⟩:=Wp s (Nat.zero_le s.length)
   rw[e0]
   simp only[Option.bind_some]
   by_cases h:s.length≤blk s 0
   · rw[if_pos (by simpa using h),if_pos h]
     rfl
   · rw[if_neg (by simpa using h),if_neg h]
     obtain⟨y,hy⟩:=AEi s hs (s.length + 1) (blk s 0) 0 [] (by omega) b2 (Nat.zero_le _) rfl
     rw[Int.natCast_zero] at hy
     rw[hy]
     simp only[Option.bind_some,Ba]
     by_cases h2:(D8 (s.length + 1) s (blk s 0) 0 []).2.1=0
     · rw[if_neg (by simp[h2]),if_neg (by simp[h2])]
     · rw[if_pos (by simpa using h2),if_pos h2]
 · rw[if_pos (by simp; omega),if_pos (by omega)]
end Go.Vm
namespace Go.Vm
open Go
def sV (o w:Str):Option (Str × Bool):=
 if o=QV then (match w.findIdx? UO with
  | some _=>none
  | none=>some (w,false))
 else if (ML o w 0).2.2.1=0 then some ((ML o w 0).1,(ML o w 0).2.1) else none
def mB (r:Str):Option (AK × Str):=
 let o:=BI Cs r
 if o.2=true then
  let r1:=(r.drop o.1.length).dropWhile (isP 6)
  let w:=r1.takeWhile DS
  if w=[] then none else (sV o.1 w).map fun q=>(⟨o.1,q.1,q.2⟩,r1.dropWhile DS)
 else none
def L2:Nat→Nat→Str→Option (List AK)
 | 0,_,_=>none
 | k + 1,n,r=>
  let r1:=r.dropWhile (isP 6)
  if n=32∧r1≠[] then none
  else match mB r1 with
   | none=>none
   | some (c,q)=>match q.dropWhile (isP 6) with
    | []=>some [c]
    | d :: q2=>if d=44 then (L2 k (n + 1) q2).map (c :: ·) else none
def HQ (s:Str):Option (List AK):=
 if 256 < s.length then none else if s.dropWhile (isP 6)=[] then some [] else L2 (s.length + 1) 0 (s.dropWhile (isP 6))
theorem AFb (o w:Str) (f:Nat):(ML o w f).1=(ML o w 0).1∧(ML o w f).2.1=(ML o w 0).2.1∧((ML o w f).2.2.1=(ML o w 0).2.2.1)∧((ML o w f).2.2.1=0→(ML o w f).2.2.2=0):=by
 refine⟨rfl,rfl,?_,AA4⟩
 unfold ML
 simp only[]
 generalize (Mn w && ((o == eqW) || (o == neW)))=st
 generalize Au (if st=true then w.take (w.length - 2) else w)=p
 by_cases hp:p.2.Err=0
 · rw[if_neg (show ¬ p.2.Err≠0 by simp[hp]),if_neg (show ¬ p.2.Err≠0 by simp[hp])]
   cases LD o st p.1 <;> simp
 · rw[if_pos hp,if_pos hp]
theorem aL {s:Str} {i:Nat} {r:Str} (h:Suf s i r):Suf s (blk s i) (r.dropWhile (isP 6)):=(h.run (isP 6)).1
theorem AEY {s:Str} {i:Nat} {r:Str} (h:Suf s i r):((BI Cs r).2=true→opE s i=((BI Cs r).1,i + (BI Cs r).1.length,0,0)∧Suf s (i + (BI Cs r).1.length) (r.drop (BI Cs r).1.length))∧((BI Cs r).2=false→(opE s i).2.2.1≠0):=by
 refine⟨fun g=>⟨?_,h.drop (ET g).2⟩,fun g=>?_⟩
 · unfold opE
   rw[Lk h]
   show (if (BI Cs r).2=true then _ else _)=_
   rw[if_pos g]
   rfl
 · unfold opE
   rw[Lk h]
   show (if (BI Cs r).2=true then _ else _:Str × Nat × Int × Int).2.2.1≠0
   rw[if_neg (by rw[g]; decide)]
   exact Or s _
theorem ACH {s:Str} {i:Nat} {r:Str} (h:Suf s i r) (o:Str) :
 (∀ q,(if ((r.dropWhile (isP 6)).takeWhile DS)=[] then none else sV o ((r.dropWhile (isP 6)).takeWhile DS))=some q→(Gm s i o).1=q.1∧(Gm s i o).2.1=q.2∧(Gm s i o).2.2.2=(0,0)∧Suf s (Gm s i o).2.2.1 ((r.dropWhile (isP 6)).dropWhile DS)) ∧
 ((if ((r.dropWhile (isP 6)).takeWhile DS)=[] then none else sV o ((r.dropWhile (isP 6)).takeWhile DS))=none→(Gm s i o).2.2.2.1≠0):=by
 have h1:=aL h
 obtain⟨h2,h3,h4⟩:=h1.run DS
 have hw:(s.drop (blk s i)).take (lH s (blk s i) - blk s i)=(r.dropWhile (isP 6)).takeWhile DS:=by
  have e:=Ot h4 h2.1
  rw[h3] at e
  exact (Option.some.inj e).symm
 have h2':Suf s (lH s (blk s i)) ((r.dropWhile (isP 6)).dropWhile DS):=h2
 unfold Gm
 simp only[]
 rw[hw]
 generalize (r.dropWhile (isP 6)).takeWhile DS=w
 by_cases hn:w=[]
 · rw[if_pos hn,if_pos hn]
   exact⟨fun q hq=>(by cases hq),fun _=>Or s _⟩
 · rw[if_neg hn,if_neg hn]
   unfold sV
   by_cases ho:o=QV
   · rw[if_pos ho,if_pos ho]
     cases hb:w.findIdx? UO with
     | some k=>exact⟨fun q hq=>(by simp at hq),fun _=>by simp⟩
     | none=>exact⟨fun q hq=>by simp only[Option.some.injEq] at hq; subst hq; exact⟨rfl,rfl,rfl,h2'⟩,fun hq=>by simp at hq⟩
   · rw[if_neg ho,if_neg ho]
     obtain⟨v1,v2,v3,v4⟩:=AFb o w (blk s i)
     by_cases hv:(ML o w 0).2.2.1=0
     · rw[if_pos hv]
       refine⟨fun q hq=>?_,fun hq=>by cases hq⟩
       cases hq
       rw[hv] at v3
       exact⟨v1,v2,Prod.ext v3 (v4 v3),h2'⟩
     · rw[if_neg hv]
       exact⟨fun q hq=>by (cases hq),fun _=>(by rw[v3]; exact hv)⟩
theorem AC2 {s:Str} {i:Nat} {r:Str} (h:Suf s i r) (c:UInt8):Kx s i c=(match r with | []=>false | d :: _=>d == c):=by
 unfold Kx
 cases r with
 | nil=>
  have:=h.nil
  rw[List.getElem?_eq_none (by omega)]
  rfl
 | cons d q=>
  obtain⟨h1,_,_⟩:=h.cons
  have h2:=h.2
  rw[List.drop_eq_getElem_cons h1] at h2
  rw[List.getElem?_eq_getElem h1,(List.cons.inj h2).1,Bool.eq_iff_iff]
  simp
theorem Va:∀ (k:Nat) {s:Str} {x:Nat} {r:Str} (n:Nat) (acc:List AK),Suf s x r →
 (∀ l,L2 k n r=some l→D8 k s x n acc=(acc ++ l,0,0))∧(L2 k n r=none→k≠0→r.length < k→(D8 k s x n acc).2.1≠0)
 | 0,s,x,r,n,acc,h=>⟨fun l hl=>(by cases hl),fun _ h=>absurd rfl h⟩
 | k + 1,s,x,r,n,acc,h=>by
  have h1:=aL h
  have hend:∀ {i:Nat} {q:Str},Suf s i q→(s.length≤i↔q=[]):=fun {i q} hq=>by
   have:=hq.pos
   have h0:=hq.1
   constructor
   · intro g
     exact List.length_eq_zero_iff.1 (by omega)
   · intro g
     subst g
     simp only[List.length_nil] at this
     omega
  unfold L2 D8
  simp only[]
  have hc:(n=32∧r.dropWhile (isP 6)≠[])↔(n=32∧blk s x < s.length):=by
   have:=hend h1
   constructor
   · rintro⟨a,b⟩; exact⟨a,by have:=mt this.1 b; omega⟩
   · rintro⟨a,b⟩; exact⟨a,fun e=>by have:=this.2 e; omega⟩
  by_cases h32:n=32∧r.dropWhile (isP 6)≠[]
  · rw[if_pos h32,if_pos (hc.1 h32)]
    exact⟨fun l hl=>(by cases hl),fun _ _ _=>by simp⟩
  · rw[if_neg h32,if_neg (fun q=>h32 (hc.2 q))]
    obtain⟨o1,o2⟩:=AEY h1
    unfold mB
    simp only[]
    cases ho:(BI Cs (r.dropWhile (isP 6))).2 with
    | false=>
     rw[if_neg (by decide)]
     have:=o2 ho
     rw[if_pos this]
     exact⟨fun l hl=>(by cases hl),fun _ _ _=>this⟩
    | true=>
     obtain⟨e1,s1⟩:=o1 ho
     rw[if_pos rfl,e1]
     simp only[ne_eq,not_true,if_false]
     obtain⟨w1,w2⟩:=ACH s1 (BI Cs (r.dropWhile (isP 6))).1
     generalize hR:((r.dropWhile (isP 6)).drop (BI Cs (r.dropWhile (isP 6))).1.length).dropWhile (isP 6)=r1 at w1 w2
     generalize hO:(BI Cs (r.dropWhile (isP 6))).1=o at w1 w2 s1
     have hlen:r1.length≤r.length∧(r1≠[]→r1.length < r.length):=by
      have a1:=C2 (p:=isP 6) r
      have a2:=C2 (p:=isP 6) ((r.dropWhile (isP 6)).drop o.length)
      rw[hO] at hR
      rw[hR,List.length_drop] at a2
      have hm:=(ET ho).1
      rw[hO] at hm
      have hpos:0 < o.length:=by
       have all:∀ w∈Cs,0 < w.length:=by decide
       exact all _ hm
      refine⟨by omega,fun g=>?_⟩
      have:=List.length_pos_iff.2 g
      omega
     by_cases hw:r1.takeWhile DS=[]
     · rw[if_pos hw] at w1 w2 ⊢
       have:=w2 rfl
       rw[if_pos this]
       exact⟨fun l hl=>(by cases hl),fun _ _ _=>this⟩
     · rw[if_neg hw] at w1 w2 ⊢
       cases hv:sV o (r1.takeWhile DS) with
       | none=>
        have:=w2 hv
        rw[if_pos this]
        exact⟨fun l hl=>(by cases hl),fun _ _ _=>this⟩
       | some q=>
        obtain⟨q1,q2,q3,q4⟩:=w1 q hv
        rw[q1,q2,q3]
        simp only[Option.map_some,ne_eq,not_true,if_false]
        have s2:=aL q4
        have hl2:=C2 (p:=isP 6) (r1.dropWhile DS)
        have hl3:=C2 (p:=DS) r1
        have hne:r1≠[]:=fun e=>hw (by rw[e]; rfl)
        have hlt:=hlen.2 hne
        generalize (r1.dropWhile DS).dropWhile (isP 6)=z at s2 hl2
        have hz:=hend s2
        cases z with
        | nil=>
         rw[if_pos (hz.2 rfl)]
         exact⟨fun l hl=>(by cases hl; rfl),fun hl=>by cases hl⟩
        | cons d z2=>
         rw[if_neg (fun g=>by cases hz.1 g),AC2 s2]
         simp only
         obtain⟨_,_,s3⟩:=s2.cons
         by_cases hd:d=44
         · rw[if_pos hd,if_pos (by simp[hd])]
           obtain⟨c1,c2⟩:=Va k (n + 1) (acc ++ [⟨o,q.1,q.2⟩]) s3
           refine⟨fun l hl=>?_,fun hl _ hk=>?_⟩
           · obtain⟨l2,g1,g2⟩:=Option.map_eq_some_iff.1 hl
             rw[c1 l2 g1,← g2,List.append_assoc]
             rfl
           · have hnone:L2 k (n + 1) z2=none:=by
              cases hp:L2 k (n + 1) z2 with
              | none=>rfl
              | some l2=>rw[hp] at hl; cases hl
             simp only[List.length_cons] at hl2
             exact c2 hnone (by omega) (by omega)
         · rw[if_neg hd,if_neg (by simp[hd])]
           exact⟨fun l hl=>(by cases hl),fun _ _ _=>Or s _⟩
theorem W8 (s:Str):(∀ l,HQ s=some l→Ul s=(l,0,0))∧(HQ s=none→(Ul s).1=[]∧(Ul s).2.1≠0):=by
 unfold HQ Ul
 by_cases h:256 < s.length
 · rw[if_pos h,if_pos h]
   exact⟨fun l hl=>(by cases hl),fun _=>⟨rfl,by simp⟩⟩
 · rw[if_neg h,if_neg h]
   simp only[]
   have s1:=aL (Suf.start s)
   have hp:=s1.pos
   have hz:(s.length≤blk s 0)↔s.dropWhile (isP 6)=[]:=by
    constructor
    · intro g; exact List.length_eq_zero_iff.1 (by omega)
    · intro g; rw[g] at hp; simp only[List.length_nil] at hp; omega
   by_cases h2:s.dropWhile (isP 6)=[]
   · rw[if_pos h2,if_pos (hz.2 h2)]
     exact⟨fun l hl=>(by cases hl; rfl),fun hl=>by cases hl⟩
   · rw[if_neg h2,if_neg (fun g=>h2 (hz.1 g))]
     obtain⟨c1,c2⟩:=Va (s.length + 1) 0 [] s1
     refine⟨fun l hl=>?_,fun hl=>?_⟩
     · rw[c1 l hl]
       simp
     · have:=c2 hl (by omega) (by have:=C2 (p:=isP 6) s; omega)
       rw[if_pos this]
       exact⟨rfl,this⟩
end Go.Vm
namespace Go.Vm
open Go
def QQ (c:AK):Prop:=
 c.Op∈Cs∧c.Ver≠[]∧(∀ x∈c.Ver,DS x=true) ∧
 ((c.Op=QV∧c.Star=false∧c.Ver.findIdx? UO=none)∨(c.Op≠QV∧(Au c.Ver).2.Err=0∧LD c.Op c.Star (Au c.Ver).1=false∧(c.Star=true→c.Op=eqW∨c.Op=neW)))
def opT (c:AK):Str:=c.Op ++ (c.Ver ++ (if c.Star=true then Dd else []))
theorem aP {x:UInt8} (h:okc x=true):DS x=true∧x≠61∧x≠42∧isP 6 x=false:=by
 have all:∀ n:Fin 256,okc (UInt8.ofNat n.val)=true→DS (UInt8.ofNat n.val)=true∧UInt8.ofNat n.val≠61∧UInt8.ofNat n.val≠42∧isP 6 (UInt8.ofNat n.val)=false:=by decide +kernel
 have:=all ⟨x.toNat,x.toNat_lt⟩
 simpa using this (by simpa using h)
theorem zK {x:UInt8}:DS x=true↔isP 6 x=false∧x≠44:=by
 unfold DS
 cases isP 6 x <;> simp
theorem yB {w:Str}:Mn w=true↔∃ b,w=b ++ Dd:=by
 unfold Mn
 simp only[Bool.and_eq_true,decide_eq_true_eq,beq_iff_eq]
 constructor
 · rintro⟨h1,h2⟩
   exact⟨w.take (w.length - 2),by rw[← h2,List.take_append_drop]⟩
 · rintro⟨b,rfl⟩
   refine⟨by simp[Dd],?_⟩
   simp[Dd]
theorem ADg {v:Str} (h:(Au v).2.Err=0):Mn v=false:=by
 cases hs:Mn v with
 | false=>rfl
 | true=>
  obtain⟨b,rfl⟩:=yB.1 hs
  have:=(N5 h).1 42 (by simp[Dd])
  exact absurd rfl (aP this).2.2.1
theorem ACG {o w b:Str} {st:Bool} (ho:o∈Cs) (hw:w≠[]) (hn:∀ x∈w,DS x=true) (h:sV o w=some (b,st)):QQ ⟨o,b,st⟩∧w=b ++ (if st=true then Dd else []):=by
 unfold sV at h
 by_cases he:o=QV
 · rw[if_pos he] at h
   cases hb:w.findIdx? UO with
   | some k=>rw[hb] at h; cases h
   | none=>
    rw[hb] at h
    simp only[Option.some.injEq,Prod.mk.injEq] at h
    obtain⟨rfl,rfl⟩:=h
    exact⟨⟨ho,hw,hn,.inl ⟨he,rfl,hb⟩⟩,by simp⟩
 · rw[if_neg he] at h
   split at h
   · rename_i hv
     cases h
     unfold ML at hv ⊢
     simp only at hv ⊢
     generalize hst:(Mn w && ((o == eqW) || (o == neW)))=s at hv ⊢
     have hwb:w=(if s=true then w.take (w.length - 2) else w) ++ (if s=true then Dd else []):=by
      cases s with
      | false=>simp
      | true=>
       simp only[Bool.and_eq_true] at hst
       have h2:=hst.1
       unfold Mn at h2
       simp only[Bool.and_eq_true,decide_eq_true_eq,beq_iff_eq] at h2
       rw[if_pos rfl,if_pos rfl,← h2.2,List.take_append_drop]
     have hp:(Au (if s=true then w.take (w.length - 2) else w)).2.Err=0:=by
      rcases Classical.em ((Au (if s=true then w.take (w.length - 2) else w)).2.Err=0) with q | q
      · exact q
      · rw[if_pos q] at hv; exact absurd hv q
     have hwr:LD o s (Au (if s=true then w.take (w.length - 2) else w)).1=false:=by
      rw[if_neg (by simp[hp])] at hv
      cases hq:LD o s (Au (if s=true then w.take (w.length - 2) else w)).1 with
      | false=>rfl
      | true=>rw[hq,if_pos rfl] at hv; cases hv
     refine⟨⟨ho,(N5 hp).2.1,fun x hx=>(aP ((N5 hp).1 x hx)).1,.inr ⟨he,hp,hwr,fun hs=>?_⟩⟩,hwb⟩
     simp only at hs
     subst hs
     simp only[Bool.and_eq_true,Bool.or_eq_true,beq_iff_eq] at hst
     exact hst.2
   · cases h
theorem ABV {c:AK} (h:QQ c):sV c.Op (c.Ver ++ (if c.Star=true then Dd else []))=some (c.Ver,c.Star):=by
 obtain⟨h1,h2,h3,h4⟩:=h
 unfold sV
 rcases h4 with ⟨a,b,d⟩ | ⟨a,b,d,e⟩
 · rw[if_pos a,b,if_neg (by decide),List.append_nil,d]
 · rw[if_neg a]
   have hv:ML c.Op (c.Ver ++ (if c.Star=true then Dd else [])) 0=(c.Ver,c.Star,0,0):=by
    unfold ML
    cases hs:c.Star with
    | true=>
     rw[if_pos rfl]
     have hS:Mn (c.Ver ++ Dd)=true:=yB.2 ⟨_,rfl⟩
     have ho:((c.Op == eqW) || (c.Op == neW))=true:=by
      rcases e hs with q | q <;> simp[q]
     simp only[hS,ho,Bool.and_self,if_true]
     have ht:(c.Ver ++ Dd).take ((c.Ver ++ Dd).length - 2)=c.Ver:=by simp[Dd]
     rw[ht,if_neg (by simp[b]),← hs,d,hs]
     rfl
    | false=>
     rw[if_neg (by decide),List.append_nil]
     have hS:=ADg b
     simp only[hS,Bool.false_and,Bool.false_eq_true,if_false]
     rw[if_neg (by simp[b]),← hs,d,hs]
     rfl
   rw[hv]
   rfl
theorem AAV {p:UInt8→Bool} {a r:Str} (ha:∀ x∈a,p x=true) (hr:∀ d q,r=d :: q→p d=false):(a ++ r).takeWhile p=a∧(a ++ r).dropWhile p=r:=by
 induction a with
 | nil=>
  cases r with
  | nil=>exact⟨rfl,rfl⟩
  | cons d q=>
   have:=hr d q rfl
   exact⟨List.takeWhile_cons_of_neg (by simp[this]),List.dropWhile_cons_of_neg (by simp[this])⟩
 | cons x a ih=>
  obtain⟨h1,h2⟩:=ih fun y hy=>ha y (List.mem_cons_of_mem x hy)
  have hx:=ha x (List.mem_cons_self ..)
  exact⟨by rw[List.cons_append,List.takeWhile_cons_of_pos hx,h1],by rw[List.cons_append,List.dropWhile_cons_of_pos hx,h2]⟩
theorem AFs (r w:Str):stM r 0 w=(r.take w.length == w):=by
 unfold stM
 rw[decide_eq_true (show (0:Int)≤0∧(0:Int)≤(r.length:Int) from ⟨by omega,by omega⟩)]
 simp
theorem AEv {o:Str} (ho:o∈Cs) {h:UInt8} {t:Str} (hh:o=QV∨h≠61):BI Cs (o ++ h :: t)=(o,true):=by
 have hb:∀ {l:Str},l ++ h :: t=l ++ (h :: t):=fun {l}=>rfl
 simp only[Cs,List.mem_cons,List.not_mem_nil,or_false] at ho
 rcases hh with rfl | hh
 · simp[BI,Cs,Cd,AFs,QV]
 · have h61:(h == 61)=false:=by simpa using hh
   rcases ho with rfl | rfl | rfl | rfl | rfl | rfl | rfl | rfl <;> simp[BI,Cs,Cd,AFs,h61,hh]
theorem lZ {c:AK} (h:QQ c) {rest:Str} (hr:∀ d q,rest=d :: q→d=44):mB (opT c ++ rest)=some (c,rest):=by
 have hg:=ABV h
 obtain⟨h1,h2,h3,h4⟩:=h
 obtain⟨v,vs,hv⟩:=List.exists_cons_of_ne_nil h2
 have hhead:c.Op=QV∨v≠61:=by
  rcases h4 with ⟨a,_⟩ | ⟨_,b,_⟩
  · exact .inl a
  · exact .inr (aP ((N5 b).1 v (by rw[hv]; exact List.mem_cons_self ..))).2.1
 have hW:BI Cs (opT c ++ rest)=(c.Op,true):=by
  unfold opT
  rw[List.append_assoc,List.append_assoc,hv]
  exact AEv h1 hhead
 have hvb:isP 6 v=false:=(zK.1 (h3 v (by rw[hv]; exact List.mem_cons_self ..))).1
 have hd:(opT c ++ rest).drop c.Op.length=(c.Ver ++ (if c.Star=true then Dd else [])) ++ rest:=by
  unfold opT
  rw[List.append_assoc,List.drop_left]
 have hbl:((c.Ver ++ (if c.Star=true then Dd else [])) ++ rest).dropWhile (isP 6)=(c.Ver ++ (if c.Star=true then Dd else [])) ++ rest:=by
  rw[hv]
  exact List.dropWhile_cons_of_neg (by simp[hvb])
 obtain⟨t1,t2⟩:=AAV (p:=DS) (a:=c.Ver ++ (if c.Star=true then Dd else [])) (r:=rest) (fun x hx=>by
  rcases List.mem_append.1 hx with hx | hx
  · exact h3 x hx
  · split at hx
    · simp only[Dd,List.mem_cons,List.not_mem_nil,or_false] at hx
      rcases hx with rfl | rfl <;> decide
    · cases hx) (fun d q e=>by rw[hr d q e]; decide)
 unfold mB
 simp only[]
 rw[hW]
 simp only[if_true]
 rw[hd,hbl,t1,t2,if_neg (by rw[hv]; simp),hg]
 rfl
theorem ABX {r q:Str} {c:AK} (h:mB r=some (c,q)):QQ c∧(opT c).length + q.length≤r.length∧r≠[]:=by
 unfold mB at h
 simp only[] at h
 split at h
 · rename_i ho
   obtain⟨m1,m2⟩:=ET ho
   have hlen1:=C2 (p:=isP 6) (r.drop (BI Cs r).1.length)
   rw[List.length_drop] at hlen1
   generalize (r.drop (BI Cs r).1.length).dropWhile (isP 6)=r1 at h hlen1
   split at h
   · cases h
   · rename_i hw
     obtain⟨⟨b,st⟩,hv,he⟩:=Option.map_eq_some_iff.1 h
     cases he
     obtain⟨g1,g2⟩:=ACG m1 hw (fun x hx=>YB hx) hv
     refine⟨g1,?_,fun e=>?_⟩
     · have e2:r1.length=(r1.takeWhile DS).length + (r1.dropWhile DS).length:=by
        rw[← List.length_append,List.takeWhile_append_dropWhile]
       rw[g2] at e2
       unfold opT
       simp only[List.length_append] at e2 ⊢
       omega
     · subst e
       simp only[List.length_nil] at m2
       have all:∀ w∈Cs,0 < w.length:=by decide
       have:=all _ m1
       omega
 · cases h
def C8 (l:List AK):Str:=Lib.join (l.map opT) [44]
theorem join_cons (x:Str) (y:Str) (l:List Str):Lib.join (x :: y :: l) [44]=x ++ 44 :: Lib.join (y :: l) [44]:=by
 rw[Lib.join_cons,Lib.join_cons]
 simp[Lib.joinTail]
theorem AAr {c:AK} (h:QQ c):∃ d q,opT c=d :: q∧isP 6 d=false:=by
 have all:∀ w∈Cs,∃ d q,w=d :: q∧isP 6 d=false:=by
  intro w hw
  simp only[Cs,List.mem_cons,List.not_mem_nil,or_false] at hw
  rcases hw with rfl | rfl | rfl | rfl | rfl | rfl | rfl | rfl <;> exact⟨_,_,rfl,by decide⟩
 obtain⟨d,q,e,hd⟩:=all _ h.1
 exact⟨d,q ++ (c.Ver ++ (if c.Star=true then Dd else [])),by unfold opT; rw[e]; rfl,hd⟩
theorem fY {c:AK} (h:QQ c) (l:List AK):∃ d q,C8 (c :: l)=d :: q∧isP 6 d=false:=by
 obtain⟨d,q,e,hd⟩:=AAr h
 unfold C8
 cases l with
 | nil=>exact⟨d,q,by rw[List.map_cons,List.map_nil,Lib.join_one,e],hd⟩
 | cons y l=>exact⟨d,q ++ 44 :: Lib.join ((y :: l).map opT) [44],by rw[List.map_cons,List.map_cons,join_cons,e]; rfl,hd⟩
theorem YX:∀ (l:List AK) (k n:Nat),l≠[]→(∀ c∈l,QQ c)→n + l.length≤32→l.length≤k→L2 k n (C8 l)=some l
 | [],_,_,h,_,_,_=>absurd rfl h
 | c :: l,0,n,_,_,_,hk=>by simp at hk
 | c :: l,k + 1,n,_,hg,hn,hk=>by
  have hc:=hg c (List.mem_cons_self ..)
  obtain⟨d,q,e,hd⟩:=fY hc l
  have hdw:(C8 (c :: l)).dropWhile (isP 6)=C8 (c :: l):=by
   rw[e]; exact List.dropWhile_cons_of_neg (by simp[hd])
  simp only[List.length_cons] at hn hk
  unfold L2
  simp only[]
  rw[hdw,if_neg (by omega)]
  cases l with
  | nil=>
   have hi:=lZ hc (rest:=[]) (fun d q e=>by cases e)
   rw[List.append_nil] at hi
   have:C8 [c]=opT c:=by simp[C8,Lib.join_one]
   rw[this,hi]
   rfl
  | cons y l=>
   have:C8 (c :: y :: l)=opT c ++ 44 :: C8 (y :: l):=by
    unfold C8
    rw[List.map_cons,List.map_cons,join_cons]
    try rfl
   rw[this,lZ hc (rest:=44 :: C8 (y :: l)) (fun d q e=>by cases e; rfl)]
   simp only
   rw[List.dropWhile_cons_of_neg (show ¬ (isP 6 44=true) by decide)]
   simp only[if_true]
   rw[YX (y :: l) k (n + 1) (by simp) (fun z hz=>hg z (List.mem_cons_of_mem c hz)) (by omega) (by omega)]
   rfl
theorem ACE {l:List AK} (h:∀ c∈l,QQ c):l.length≤(C8 l).length:=by
 induction l with
 | nil=>exact Nat.zero_le _
 | cons c l ih=>
  obtain⟨d,q,e,_⟩:=AAr (h c (List.mem_cons_self ..))
  have ih:=ih fun x hx=>h x (List.mem_cons_of_mem c hx)
  cases l with
  | nil=>simp[C8,Lib.join_one,e]
  | cons y l=>
   have:C8 (c :: y :: l)=opT c ++ 44 :: C8 (y :: l):=by
    unfold C8
    rw[List.map_cons,List.map_cons,join_cons]
    try rfl
   rw[this]
   simp only[List.length_append,List.length_cons] at ih ⊢
   omega
theorem uU {l:List AK} (hg:∀ c∈l,QQ c) (hn:l.length≤32) (hl:(C8 l).length≤256):HQ (C8 l)=some l:=by
 unfold HQ
 rw[if_neg (by omega)]
 cases l with
 | nil=>rfl
 | cons c l=>
  obtain⟨d,q,e,hd⟩:=fY (hg c (List.mem_cons_self ..)) l
  have hdw:(C8 (c :: l)).dropWhile (isP 6)=C8 (c :: l):=by
   rw[e]; exact List.dropWhile_cons_of_neg (by simp[hd])
  rw[hdw,if_neg (by rw[e]; simp)]
  exact YX (c :: l) _ 0 (by simp) hg (by omega) (by have:=ACE hg; omega)
theorem YW:∀ (k n:Nat) (r:Str) (l:List AK),L2 k n r=some l→n≤32→l≠[]∧(∀ c∈l,QQ c)∧n + l.length≤32∧(C8 l).length≤r.length
 | 0,n,r,l,h,_=>by cases h
 | k + 1,n,r,l,h,hn=>by
  unfold L2 at h
  simp only[] at h
  have hlen:=C2 (p:=isP 6) r
  split at h
  · cases h
  · rename_i h32
    generalize r.dropWhile (isP 6)=r1 at h hlen h32
    split at h
    · cases h
    · rename_i c q hi
      obtain⟨g1,g2,g3⟩:=ABX hi
      have hn2:n < 32:=by
       rcases Nat.lt_or_ge n 32 with g | g
       · exact g
       · exact absurd ⟨by omega,g3⟩ h32
      have hq:=C2 (p:=isP 6) q
      split at h
      · cases h
        exact⟨by simp,fun x hx=>by rw[List.mem_singleton.1 hx]; exact g1,by simp only[List.length_singleton]; omega,by simp only[C8,List.map_cons,List.map_nil,Lib.join_one]; omega⟩
      · rename_i d q2 hd
        split at h
        · obtain⟨l2,k1,k2⟩:=Option.map_eq_some_iff.1 h
          subst k2
          obtain⟨f1,f2,f3,f4⟩:=YW k (n + 1) q2 l2 k1 (by omega)
          rw[hd,List.length_cons] at hq
          refine⟨by simp,fun x hx=>?_,by simp only[List.length_cons]; omega,?_⟩
          · rcases List.mem_cons.1 hx with rfl | hx
            · exact g1
            · exact f2 x hx
          · cases l2 with
            | nil=>exact absurd rfl f1
            | cons y l2=>
             have:C8 (c :: y :: l2)=opT c ++ 44 :: C8 (y :: l2):=by
              unfold C8
              rw[List.map_cons,List.map_cons,join_cons]
              try rfl
             rw[this]
             simp only[List.length_append,List.length_cons] at f4 ⊢
             omega
        · cases h
theorem Ms {s:Str} {l:List AK} (h:HQ s=some l):(∀ c∈l,QQ c)∧l.length≤32∧(C8 l).length≤s.length∧s.length≤256:=by
 unfold HQ at h
 split at h
 · cases h
 · rename_i hs
   split at h
   · cases h
     exact⟨fun c hc=>by (cases hc),by simp,by simp[C8,Lib.join_nil],by omega⟩
   · obtain⟨h1,h2,h3,h4⟩:=YW _ 0 _ _ h (by omega)
     have:=C2 (p:=isP 6) s
     exact⟨h2,by omega,by omega,by omega⟩
end Go.Vm
namespace Go.Vm
open Go
theorem Vd (r:Str):(Kv r).length≤r.length + 1:=by
 have:=nJ (r.takeWhile (isP 1))
 have:=(List.takeWhile_prefix (isP 1) (l:=r)).length_le
 unfold Kv
 omega
theorem wF:∀ (n:Nat) (r:Str),(Jo n r).1.length≤n∧∀ x∈(Jo n r).1,x.length≤r.length + 1
 | 0,_=>⟨Nat.le_refl _,fun x hx=>by cases hx⟩
 | n + 1,r=>by
  have h:=Vd r
  have hs:=(RS r).length_le
  simp only[Jo]
  split
  · rename_i q e
    rw[e] at hs
    simp only[List.length_cons] at hs
    obtain⟨h1,h2⟩:=wF n q
    split
    · refine⟨by simp; omega,fun x hx=>?_⟩
      rcases List.mem_cons.1 hx with rfl | hx
      · exact h
      · have:=h2 x hx; omega
    · exact⟨by simp,fun x hx=>by simp only[List.mem_singleton] at hx; subst hx; exact h⟩
  · exact⟨by simp,fun x hx=>by simp only[List.mem_singleton] at hx; subst hx; exact h⟩
theorem Rl (r:Str):(Dl r).1.length≤r.length + 1:=by
 have h:(EX r).length≤r.length:=by
  unfold EX
  split
  · simp
  · exact Nat.le_refl _
 unfold Dl
 split
 · have:=Vd (EX r); simp only[]; omega
 · simp
theorem ABl (p:Str):(G4 p).length≤p.length + 1:=by
 unfold G4
 split
 · exact nJ p
 · omega
theorem uH:∀ (n:Nat) (r:Str),(JV n r).1.length≤n∧∀ x∈(JV n r).1,x.length≤r.length + 1
 | 0,_=>⟨Nat.le_refl _,fun x hx=>by cases hx⟩
 | n + 1,r=>by
  have h:(G4 (D6 r)).length≤r.length + 1:=by
   have:=ABl (D6 r)
   have:=(List.takeWhile_prefix (isP 5) (l:=r)).length_le
   unfold D6 at *
   omega
  simp only[JV]
  split
  · obtain⟨h1,h2⟩:=uH n (GI r).tail
    have hs:=((List.tail_suffix _).trans (tG r)).length_le
    refine⟨by simp; omega,fun x hx=>?_⟩
    rcases List.mem_cons.1 hx with rfl | hx
    · exact h
    · have:=h2 x hx; omega
  · exact⟨by simp,fun x hx=>by simp only[List.mem_singleton] at hx; subst hx; exact h⟩
theorem dA (s:Str):TO (Au s).1:=by
 have hz:TO zP:=⟨by simp[zP],by simp[zP],by simp[zP],by simp[zP],by simp[zP],by simp[zP],by simp[zP],by simp[zP]⟩
 unfold Au
 split
 · exact hz
 · rename_i q
   have hr:=((bQ _).trans (sU (Fz s))).length_le
   rw[N0] at hr
   have hep:(Dh (v0M (Fz s))).1.length≤66:=by
    have h1:=(sU (Fz s)).length_le
    rw[N0] at h1
    have h2:=Vd (v0M (Fz s))
    unfold Dh
    split
    · simp
    · split
      · simp only[]; omega
      · simp
   generalize (Dh (v0M (Fz s))).1=ep at hep
   generalize (Dh (v0M (Fz s))).2=r at hr
   unfold bG
   simp only[]
   split
   · exact hz
   · split
     · exact hz
     · split
       · exact hz
       · have s1:=(wH s.length r).length_le
         have s2:=(vQ (EM s.length r).2.1).length_le
         have s3:=(mV (Dt (EM s.length r).2.1).2.2).length_le
         have s4:=(tU (DU (Dt (EM s.length r).2.1).2.2).2.2).length_le
         have hrel:(EM s.length r).1.length≤64∧∀ x∈(EM s.length r).1,x.length≤65:=by
          unfold EM
          split
          · obtain⟨h1,h2⟩:=wF r.length r
            exact⟨by simp only[]; omega,fun x hx=>by have:=h2 x hx; omega⟩
          · exact⟨by simp,fun x hx=>by cases hx⟩
         have hloc:∀ z:Str,z.length≤64→(DR s.length z).1.length≤64∧∀ x∈(DR s.length z).1,x.length≤65:=fun z hz=>by
          unfold DR
          split
          · rename_i q
            simp only[List.length_cons] at hz
            split
            · obtain⟨h1,h2⟩:=uH q.length q
              exact⟨by simp only[]; omega,fun x hx=>by have:=h2 x hx; omega⟩
            · exact⟨by simp,fun x hx=>by cases hx⟩
          · exact⟨by simp,fun x hx=>by cases hx⟩
         obtain⟨l1,l2⟩:=hloc (LS (DU (Dt (EM s.length r).2.1).2.2).2.2).2.2 (by omega)
         refine⟨by simp only[]; omega,?_,?_,?_,by simp only[]; omega,by simp only[]; omega,fun x hx=>by have:=hrel.2 x hx; omega,fun x hx=>by have:=l2 x hx; omega⟩
         · simp only[]
           unfold Dt
           split
           · have:=Rl (DF LV (EM s.length r).2.1).2.2
             have:=(Gy LV (EM s.length r).2.1).length_le
             simp only[]; omega
           · simp
         · simp only[]
           have h0:=Vd (Dt (EM s.length r).2.1).2.2.tail
           have h1:(Dt (EM s.length r).2.1).2.2.tail.length≤64:=by rw[List.length_tail]; omega
           have h2:=Rl (DF My (Dt (EM s.length r).2.1).2.2).2.2
           have h3:=(Gy My (Dt (EM s.length r).2.1).2.2).length_le
           unfold DU
           split
           · simp only[]; omega
           · split
             · simp only[]; omega
             · simp
         · simp only[]
           have h2:=Rl (DF UZ (DU (Dt (EM s.length r).2.1).2.2).2.2).2.2
           have h3:=(Gy UZ (DU (Dt (EM s.length r).2.1).2.2).2.2).length_le
           unfold LS
           split
           · simp only[]; omega
           · simp
end Go.Vm
namespace Go.Vm
open Go
theorem ACW (l:List Str) (h:l.length≤1048576):app 16 [] l=some l:=by
 unfold app
 rw[if_pos (by simp; omega)]
 rfl
theorem ACc (l:List Str) (h:l.length≤1048576):Cc l=some l:=by
 unfold Cc
 rw[ACW _ h]
 rfl
end Go.Vm
namespace Go.Vm
open Go
def Nx (k:UInt8):Str→Bool
 | []=>false
 | c :: _=>c == k
theorem ADo (i:Nat) (h:i≤100):w64 ((i:Int) + 0)=(i:Int):=by rw[CR (by omega) (by omega)]; omega
theorem Yk (i:Nat) (h:i≤100):w64 ((i:Int) + 1)=((i + 1:Nat):Int):=by rw[CR (by omega) (by omega)]; rfl
theorem AAf (r:Str):RR r=(Nx 45 r && hdP (isP 1) r.tail):=by
 cases r with
 | nil=>rfl
 | cons c q=>
  by_cases hc:c=45
  · subst hc; rfl
  · have:(c == 45)=false:=by simp[hc]
    simp only[Nx,this,Bool.false_and]
    unfold RR
    split
    · rename_i e; cases e; exact absurd rfl hc
    · rfl
theorem Ny {k:UInt8} {r:Str} (h:Nx k r=true):∃ q,r=k :: q:=by
 cases r with
 | nil=>cases h
 | cons c q=>exact⟨q,by rw[eq_of_beq h]⟩
theorem xX {r:Str}:∀ (ws:List Str) (b:Str × Bool),(b.2=true→stM r 0 b.1=true)→(ws.foldl (Cd r 0) b).2=true→stM r 0 (ws.foldl (Cd r 0) b).1=true
 | [],b,hb,h=>hb h
 | w :: ws,b,hb,h=>by
  simp only[List.foldl_cons] at h ⊢
  refine xX ws _ ?_ h
  unfold Cd
  split
  · rename_i q
    intro _
    simp only[Bool.and_eq_true] at q
    exact q.1
  · exact hb
def AE4 (ws:List Str):Bool:=ws.all fun w=>match w with
 | []=>false
 | c :: _=>!YS c
theorem nK {ws:List Str} (hw:AE4 ws=true) {r:Str} (hm:mkd r=true):(BI ws r).2=false:=by
 cases h:(BI ws r).2 with
 | false=>rfl
 | true=>
  exfalso
  have h1:=(ET h).1
  have h2:stM r 0 (BI ws r).1=true:=xX ws ([],false) (fun q=>by cases q) h
  have h3:=List.all_eq_true.1 hw _ h1
  cases r with
  | nil=>cases hm
  | cons c q=>
   generalize (BI ws (c :: q)).1=w at h2 h3
   cases w with
   | nil=>cases h3
   | cons d w=>
    unfold stM at h2
    simp only[Bool.and_eq_true,beq_iff_eq] at h2
    have:=h2.2
    simp at this
    have e:mkd (c :: q)=YS c:=rfl
    rw[e] at hm
    simp only at h3
    rw[← this.1,hm] at h3
    cases h3
theorem yE {ws:List Str} {r:Str} (h:(BI ws r).2=false):(BI ws r).1=[]:=by
 have key:∀ (l:List Str) (b:Str × Bool),(b.2=false→b.1=[])→(l.foldl (Cd r 0) b).2=false→(l.foldl (Cd r 0) b).1=[]:=by
  intro l
  induction l with
  | nil=>exact fun b hb h=>hb h
  | cons w l ih=>
   intro b hb h
   simp only[List.foldl_cons] at h ⊢
   refine ih _ ?_ h
   unfold Cd
   split
   · intro q; cases q
   · exact hb
 exact key ws _ (fun _=>rfl) h
section
variable {a:Str} (ha:a.length≤64)
include ha
theorem Sx {i:Nat} {r:Str} (h:Suf a i r) (k:UInt8) (z:Int) (hz:(k.toNat:Int)=z):(if (decide ((i:Int) < (List.length a:Int)))=true then Option.bind (idx a (i:Int)) (fun x=>some (x == z)) else some false:Option Bool)=some (Nx k r):=by
 subst hz
 cases r with
 | nil=>rw[h.nil]; simp[Nx]
 | cons c q=>
  obtain⟨h1,h2,_⟩:=h.cons
  rw[if_pos (by simp; omega),h2]
  simp only[Option.bind_some]
  rw[HK c k]
  rfl
theorem ADb {i:Nat} {r:Str} (h:Suf a i r) (k:Int):Fw a i k=some (Ci (isP k) a i:Int):=by
 rw[rA _ _ _ (by omega)]
 unfold wS
 have:=h.1
 rw[if_neg (by omega),Int.toNat_natCast]
theorem ADY {i:Nat} {r:Str} (h:Suf a i r) (e f k:Int):BB a i e f 0 k=some (hdP (isP k) r):=by
 unfold BB
 have hi:=h.1
 rw[ADo i (by omega)]
 cases r with
 | nil=>rw[h.nil]; simp[hdP]
 | cons c q=>
  obtain⟨h1,h2,_⟩:=h.cons
  rw[if_pos (by simp; omega),h2]
  simp only[Option.bind_some,M1]
  rfl
theorem eG {i:Nat} {r:Str} (h:Suf a i r) (e f k:Int):BB a i e f 1 k=some (hdP (isP k) r.tail):=by
 unfold BB
 have hi:=h.1
 rw[Yk i (by omega)]
 cases r with
 | nil=>have:=h.nil; rw[if_neg (by simp; omega)]; rfl
 | cons c q=>
  obtain⟨_,_,h3⟩:=h.cons
  cases q with
  | nil=>have:=h3.nil; rw[if_neg (by simp; omega)]; rfl
  | cons d q=>
   obtain⟨h1,h2,_⟩:=h3.cons
   rw[if_pos (by simp; omega),h2]
   simp only[Option.bind_some,M1]
   rfl
theorem AAA {i:Nat} {r:Str} (h:Suf a i r) (e f:Int):B1 a i e f 0=some (mkd r):=by
 unfold B1
 have hi:=h.1
 rw[ADo i (by omega)]
 cases r with
 | nil=>rw[h.nil]; simp[mkd]
 | cons c q=>
  obtain⟨h1,h2,_⟩:=h.cons
  rw[if_pos (by simp; omega),h2]
  simp only[Option.bind_some]
  have:Pz (c.toNat:Int)=some (YS c):=YZ c
  rw[this]
  rfl
theorem WY {i:Nat} {r:Str} (h:Suf a i r) (e f:Int):∃ j:Nat,Bl a i e f=some (Kv r,(j:Int))∧Suf a j (Hg r):=by
 obtain⟨h1,h2,_⟩:=h.run (isP 1)
 refine⟨Ci (isP 1) a i,?_,h1⟩
 unfold Bl
 rw[ADb ha h]
 simp only[Option.bind_some,h2]
 rw[UD]
 · rfl
 · have:=(List.takeWhile_prefix (isP 1) (l:=r)).length_le
   have:=h.pos
   omega
theorem rS {i:Nat} {r:Str} (h:Suf a i r) (e f:Int):∃ j:Nat,B0 a i e f=some ((Dl r).1,(j:Int))∧Suf a j (Dl r).2:=by
 have hi:=h.1
 unfold B0 Dl
 rw[AAA ha h,eG ha h]
 simp only[Option.bind_some]
 have key:∃ j:Nat,Option.bind (if mkd r=true then some (hdP (isP 1) r.tail) else some false:Option Bool) (fun x16=>(if x16=true then some (w64 ((i:Int) + 1)) else some (i:Int)))=some (j:Int)∧Suf a j (EX r):=by
  unfold EX
  rw[Yk i (by omega)]
  cases hm:mkd r with
  | false=>exact⟨i,rfl,h⟩
  | true=>
   obtain⟨c,q,rfl⟩:∃ c q,r=c :: q:=by
    cases r with
    | nil=>cases hm
    | cons c q=>exact⟨c,q,rfl⟩
   obtain⟨_,_,h3⟩:=h.cons
   simp only[if_true,Bool.true_and,List.tail_cons,Option.bind_some]
   cases hdP (isP 1) q with
   | true=>exact⟨i + 1,rfl,h3⟩
   | false=>exact⟨i,rfl,h⟩
 obtain⟨j,k1,k2⟩:=key
 rw[k1]
 simp only[Option.bind_some]
 rw[ADY ha k2]
 simp only[Option.bind_some]
 cases hd:hdP (isP 1) (EX r) with
 | true=>
  obtain⟨j2,g1,g2⟩:=WY ha k2 e f
  refine⟨j2,?_,g2⟩
  simp only[Bool.not_true,Bool.false_eq_true,if_false]
  rw[g1]
  rfl
 | false=>exact⟨j,rfl,k2⟩
theorem ADe {i:Nat} {r:Str} (h:Suf a i r) {ws:List Str} (hw:ws.length≤100):Jn a i ws=some (BI ws r):=by
 rw[kA _ _ _ (by omega) (by omega),Lk h]
 rfl
theorem ADd {i:Nat} {r:Str} (h:Suf a i r) (e f:Int) {ws:List Str} (hw:ws.length≤100) (hy:AE4 ws=true):∃ j:Nat,Cv a i e f ws=some ((DF ws r).1,(DF ws r).2.1,(j:Int))∧Suf a j (DF ws r).2.2:=by
 have hi:=h.1
 unfold Cv DF
 rw[AAA ha h]
 simp only[Option.bind_some]
 cases hm:mkd r with
 | false=>
  simp only[Bool.false_eq_true,if_false,Bool.false_and,Option.bind_some]
  rw[ADo i (by omega),ADe ha h hw]
  simp only[Option.bind_some]
  cases hz:(BI ws r).2 with
  | true=>
   obtain⟨_,h2⟩:=ET hz
   have:=h.pos
   refine⟨i + (BI ws r).1.length,?_,h.drop h2⟩
   simp only[if_true,Option.bind_some]
   rw[CR (by omega) (by omega)]
   rfl
  | false=>
   refine⟨i,?_,h⟩
   rw[yE hz]
   rfl
 | true=>
  obtain⟨c,q,rfl⟩:∃ c q,r=c :: q:=by
   cases r with
   | nil=>cases hm
   | cons c q=>exact⟨c,q,rfl⟩
  obtain⟨h1,h2,h3⟩:=h.cons
  simp only[if_true,Bool.true_and,List.tail_cons,Option.bind_some]
  rw[Yk i (by omega),ADe ha h3 hw]
  simp only[Option.bind_some]
  cases hz:(BI ws q).2 with
  | true=>
   obtain⟨_,h4⟩:=ET hz
   have:=h3.pos
   refine⟨i + 1 + (BI ws q).1.length,?_,h3.drop h4⟩
   simp only[if_true,Option.bind_some]
   rw[CR (by omega) (by omega)]
   rfl
  | false=>
   refine⟨i,?_,?_⟩
   · rw[yE hz,nK hy hm]
     rfl
   · rw[nK hy hm]
     exact h
theorem AE0 {i:Nat} {r:Str} (h:Suf a i r):Cu a i 0 0=some (if r=[] then 11 else 10,(i:Int)):=by
 unfold Cu
 have:=h.pos
 by_cases hr:r=[]
 · subst hr
   have:=h.nil
   simp[this]
 · have:0 < r.length:=List.length_pos_iff.2 hr
   have:¬ ((a.length:Int)≤(i:Int)):=by omega
   simp[hr,this]
theorem fL {i:Nat} {r:Str} (h:Suf a i r) {k:Int} (hd:hdP (isP k) r=false):Cu a i 0 0=some (F6 a.length k r):=by
 rw[AE0 ha h]
 unfold F6
 rw[hd,h.posR]
 by_cases hr:r=[] <;> simp[hr]
def M4 (n:Nat):Str→List Str × Str
 | 46 :: q=>if hdP (isP 1) q=true then Jo n q else ([],46 :: q)
 | q=>([],q)
omit ha in
theorem mI (n:Nat) (r:Str):Jo (n + 1) r=(Kv r :: (M4 n (Hg r)).1,(M4 n (Hg r)).2):=by
 simp only[Jo]
 split
 · rename_i q hq
   rw[hq]
   simp only[M4]
   split <;> rfl
 · rename_i q hq
   unfold M4
   split
   · rename_i q2 e
     exact absurd e (hq q2)
   · rfl
omit ha in
theorem yC {n:Nat} {z:Str} (h:(Nx 46 z && hdP (isP 1) z.tail)=false):M4 n z=([],z):=by
 unfold M4
 split
 · rename_i q
   have:hdP (isP 1) q=false:=by simpa[Nx] using h
   rw[if_neg (by simp[this])]
 · rfl
theorem AB4 {j:Nat} {z:Str} (h:Suf a j z) (acc:List Str):Option.bind (if (decide ((j:Int) < (List.length a:Int)))=true then Option.bind (idx a j) (fun x48=>some (x48 == 46)) else some false:Option (Bool)) (fun x47=>Option.bind (if x47=true then Option.bind (BB a j 0 0 1 1) (fun x51=>some x51) else some false:Option (Bool)) (fun x50=>some x50))=some (Nx 46 z && hdP (isP 1) z.tail):=by
 rw[Sx ha h 46 46 rfl,eG ha h]
 simp only[Option.bind_some]
 cases Nx 46 z <;> rfl
theorem m7:∀ (n:Nat) (j:Nat) (z:Str) (acc:List Str),z.length≤n→Suf a j z→acc.length≤j→∃ j2:Nat,CD (Gc a) ((j:Int),acc)=some ((j2:Int),acc ++ (M4 n z).1)∧Suf a j2 (M4 n z).2
 | n,j,z,acc,hn,h,hacc=>by
  have hj:=h.1
  have hcond:=AB4 ha h acc
  have hstep:Gc a ((j:Int),acc)=if (Nx 46 z && hdP (isP 1) z.tail)=true then Option.bind (Bl a (w64 ((j:Int) + 1)) 0 0) (fun (x52,x53)=>Option.bind (app 16 acc [x52]) (fun x54=>some (Step.next (x53,x54)))) else some (Step.done ((j:Int),acc)):=by
   unfold Gc
   simp only[]
   rw[Sx ha h 46 46 rfl,eG ha h]
   simp only[Option.bind_some]
   cases Nx 46 z with
   | false=>rfl
   | true=>
    simp only[if_true,Option.bind_some,Bool.true_and]
  cases hc:(Nx 46 z && hdP (isP 1) z.tail) with
  | false=>
   rw[hc] at hstep
   refine⟨j,?_,?_⟩
   · rw[Da hstep,yC hc,List.append_nil]
   · rw[yC hc]; exact h
  | true=>
   rw[hc] at hstep
   simp only[Bool.and_eq_true] at hc
   obtain⟨q,rfl⟩:=Ny hc.1
   obtain⟨_,_,h3⟩:=h.cons
   have hq:=hc.2
   simp only[List.tail_cons] at hq
   obtain⟨j1,g1,g2⟩:=WY ha h3 0 0
   have hlt:=nZ hq
   have hj1:j + 1 < j1:=by have:=h3.pos; have:=g2.pos; omega
   have hj2:=g2.1
   simp only[List.length_cons] at hn
   cases n with
   | zero=>omega
   | succ n=>
    obtain⟨j2,k1,k2⟩:=m7 n j1 (Hg q) (acc ++ [Kv q]) (by omega) g2 (by simp; omega)
    have e1:M4 (n + 1) (46 :: q)=Jo (n + 1) q:=by simp only[M4,hq,if_true]
    rw[e1,mI]
    refine⟨j2,?_,k2⟩
    rw[HP (y:=((j1:Int),acc ++ [Kv q])),k1]
    · simp only[List.append_assoc,List.singleton_append]
    · rw[hstep,if_pos rfl,Yk j (by omega),g1]
      simp only[Option.bind_some]
      rw[UM (by simp; omega) (by simp; omega)]
      rfl
theorem m5:∀ (n:Nat) (i:Nat) (r:Str) (acc:List Str),r.length≤n→Suf a i r→hdP (isP 5) r=true→acc.length≤i→∃ j:Nat,CD (CZ a 0 0) ((i:Int),acc)=some (acc ++ (JV n r).1,(j:Int),0,0)∧Suf a j (JV n r).2
 | 0,i,r,acc,hn,h,hd,hacc=>by
  have:r=[]:=List.length_eq_zero_iff.1 (by omega)
  subst this
  cases hd
 | n + 1,i,r,acc,hn,h,hd,hacc=>by
  obtain⟨g2,g1,g3⟩:=h.run (isP 5)
  change Suf a (Ci (isP 5) a i) (GI r) at g2
  have hrun:=ADb ha h 5
  generalize Ci (isP 5) a i=j at g2 g1 g3 hrun
  change E0 a i (j:Int)=some (D6 r) at g1
  have hlt:=AAZ hd
  have hij:i < j:=by have:=h.pos; have:=g2.pos; omega
  have hjl:j≤a.length:=g2.1
  have hpl:(D6 r).length≤64:=by
   have:=(List.takeWhile_prefix (isP 5) (l:=r)).length_le
   have:=h.pos
   unfold D6
   omega
  have hnorm:Option.bind (Fw (D6 r) 0 1) (fun x72=>(if (x72 == (List.length (D6 r):Int))=true then Option.bind (HU (D6 r)) (fun x73=>some x73) else some (D6 r)))=some (G4 (D6 r)):=by
   have:=ADb hpl (Suf.start (D6 r)) 1
   rw[show ((0:Nat):Int)=0 from rfl] at this
   rw[this]
   simp only[Option.bind_some]
   unfold G4
   by_cases hz:Ci (isP 1) (D6 r) 0=(D6 r).length
   · rw[if_pos (by simp[hz]),if_pos hz,UD _ (by omega)]
     rfl
   · rw[if_neg (by simp; omega),if_neg hz]
  have hstep:CZ a 0 0 ((i:Int),acc)=(if (mkd (GI r) && hdP (isP 5) (GI r).tail)=true then some (Step.next (((j + 1:Nat):Int),acc ++ [G4 (D6 r)])) else some (Step.done (acc ++ [G4 (D6 r)],(j:Int),(0:Int),(0:Int))):Option (Step (Int × List Str) (List Str × Int × Int × Int))):=by
   unfold CZ
   simp only[]
   rw[hrun]
   simp only[Option.bind_some]
   rw[if_neg (by simp; omega),g1]
   simp only[Option.bind_some]
   rw[hnorm]
   simp only[Option.bind_some]
   rw[UM (by simp; omega) (by simp; omega)]
   simp only[Option.bind_some]
   rw[AAA ha g2,eG ha g2,Yk j (by omega)]
   simp only[Option.bind_some]
   cases mkd (GI r) with
   | false=>rfl
   | true=>
    cases hdP (isP 5) (GI r).tail <;> rfl
  cases hc:(mkd (GI r) && hdP (isP 5) (GI r).tail) with
  | false=>
   rw[hc] at hstep
   refine⟨j,?_,?_⟩
   · rw[Da hstep]
     simp only[JV,hc]
     rfl
   · simp only[JV,hc]
     exact g2
  | true=>
   rw[hc] at hstep
   simp only[Bool.and_eq_true] at hc
   obtain⟨c,q,hz⟩:∃ c q,GI r=c :: q:=by
    cases hp:GI r with
    | nil=>rw[hp] at hc; cases hc.1
    | cons c q=>exact⟨c,q,rfl⟩
   rw[hz] at g2 hlt
   simp only[List.length_cons] at hlt
   obtain⟨e1,e2,e3⟩:=g2.cons
   rw[hz,List.tail_cons] at hc
   obtain⟨j2,k1,k2⟩:=m5 n (j + 1) q (acc ++ [G4 (D6 r)]) (by omega) e3 hc.2 (by simp; omega)
   refine⟨j2,?_,?_⟩
   · rw[HP hstep,k1]
     simp only[JV,hz,List.tail_cons,hc.1,hc.2,Bool.and_self,if_true,List.append_assoc,List.singleton_append]
   · simp only[JV,hz,List.tail_cons,hc.1,hc.2,Bool.and_self,if_true]
     exact k2
theorem AFY {i:Nat} {r:Str} (h:Suf a i r):∃ j:Nat,Option.bind (if (decide ((i:Int) < (List.length a:Int)))=true then Option.bind (idx a i) (fun x116=>some (x116 == 43)) else some false:Option (Bool)) (fun x115=>(if x115=true then Option.bind (EC a i 0 0) (fun (x117,x118,x119,x120)=>some (x118,x119,x120,x117)) else some ((i:Int),0,0,[])))=some ((j:Int),(DR a.length r).2.2.1,(DR a.length r).2.2.2,(DR a.length r).1)∧Suf a j (DR a.length r).2.1:=by
 have hi:=h.1
 rw[Sx ha h 43 43 rfl]
 simp only[Option.bind_some]
 cases hh:Nx 43 r with
 | false=>
  have e9:DR a.length r=([],r,(0,0)):=by
   unfold DR
   split
   · cases hh
   · rfl
  rw[e9]
  exact⟨i,rfl,h⟩
 | true=>
  obtain⟨q,rfl⟩:=Ny hh
  obtain⟨_,_,h3⟩:=h.cons
  have e9:DR a.length (43 :: q)=if hdP (isP 5) q=true then ((JV q.length q).1,(JV q.length q).2,(0,0)) else ([],q,F6 a.length 5 q):=rfl
  rw[e9]
  simp only[if_true]
  unfold EC
  rw[Yk i (by omega)]
  cases hd:hdP (isP 5) q with
  | true=>
   obtain⟨j,g1,g2⟩:=m5 ha q.length (i + 1) q [] (Nat.le_refl _) h3 hd (Nat.zero_le _)
   refine⟨j,?_,g2⟩
   rw[g1]
   rfl
  | false=>
   refine⟨i + 1,?_,h3⟩
   have hr:Ci (isP 5) a (i + 1)=i + 1:=by
    obtain⟨k1,_,_⟩:=h3.run (isP 5)
    have h4:q.dropWhile (isP 5)=q:=by
     have:=List.takeWhile_append_dropWhile (p:=isP 5) (l:=q)
     rw[sT.2 hd] at this
     exact this
    rw[h4] at k1
    exact k1.eq h3
   have:CZ a 0 0 (((i + 1:Nat):Int),[])=some (.done ([],((i + 1:Nat):Int),F6 a.length 5 q)):=by
    unfold CZ
    simp only[]
    rw[ADb ha h3,hr]
    simp only[Option.bind_some]
    rw[if_pos (by simp),fL ha h3 hd]
    rfl
   rw[Da this]
   rfl
end
theorem AEn {w:Str} (h:w∈LV):JB w=some (dM w):=by
 simp only[LV,List.mem_cons,List.not_mem_nil,or_false] at h
 rcases h with rfl | rfl | rfl | rfl | rfl | rfl | rfl | rfl <;> decide
theorem ADc {a:Str} {i:Nat} {r:Str} (h:Suf a i r):hdP (isP 1) r=false↔Ci (isP 1) a i=i:=by
 obtain⟨h1,h2,h3⟩:=h.run (isP 1)
 generalize Ci (isP 1) a i=e at h1 h2 h3
 rw[← sT]
 constructor
 · intro q
   have h4:r.dropWhile (isP 1)=r:=by
    have:=List.takeWhile_append_dropWhile (p:=isP 1) (l:=r)
    rw[q] at this
    exact this
   rw[h4] at h1
   exact (h1.eq h)
 · intro q
   subst q
   have h5:r.dropWhile (isP 1)=r:=h1.2.symm.trans h.2
   have:=List.takeWhile_append_dropWhile (p:=isP 1) (l:=r)
   rw[h5] at this
   have:=congrArg List.length this
   simp only[List.length_append] at this
   exact List.length_eq_zero_iff.1 (by omega)
theorem eV (s:Str):Ke s=some (Au s):=by
 unfold Ke Au
 by_cases hs:s.length≤64
 · rw[if_neg (by simp; omega),if_neg (by omega),eH s (by omega)]
   simp only[Option.bind_some]
   rw[show ofb ((s.map fun c:UInt8=>(c.toNat:Int)).map Vp)=Fz s from rfl]
   have hl:(Fz s).length≤64:=by rw[N0]; exact hs
   have hn:s.length=(Fz s).length:=(N0 s).symm
   rw[hn]
   generalize Fz s=a at hl
   have hv:∃ i:Nat,Option.bind (if (decide (0 < (List.length a:Int)))=true then Option.bind (idx a 0) (fun x7=>some (x7 == 118)) else some false:Option (Bool)) (fun x6=>(if x6=true then some (w64 (0 + 1)) else some 0))=some (i:Int)∧Suf a i (v0M a):=by
    have:=Sx hl (Suf.start a) 118 118 rfl
    rw[show ((0:Nat):Int)=0 from rfl] at this
    rw[this]
    simp only[Option.bind_some]
    cases hh:Nx 118 a with
    | true=>
     obtain⟨q,rfl⟩:=Ny hh
     exact⟨1,rfl,(Suf.start (118 :: q)).cons.2.2⟩
    | false=>
     have e9:v0M a=a:=by
      unfold v0M
      split
      · cases hh
      · rfl
     rw[e9]
     exact⟨0,rfl,Suf.start _⟩
   obtain⟨i0,e0,s0⟩:=hv
   rw[e0]
   simp only[Option.bind_some]
   rw[ADb hl s0]
   simp only[Option.bind_some]
   generalize v0M a=r0 at s0
   have hE:∃ j:Nat,Option.bind (Option.bind (if ((decide ((Ci (isP 1) a i0:Int) > (i0:Int))) && (decide ((Ci (isP 1) a i0:Int) < (List.length a:Int))))=true then Option.bind (idx a (Ci (isP 1) a i0:Int)) (fun x17=>some (x17 == 33)) else some false:Option (Bool)) (fun x16=>(if x16=true then Option.bind (Bl a i0 0 0) (fun (x18,x19)=>some ((w64 (x19 + 1)),x18)) else some ((i0:Int),[48]))):Option (Int × Str)) (fun z=>some z)=some ((j:Int),(Dh r0).1)∧Suf a j (Dh r0).2:=by
    obtain⟨h1,h2,h3⟩:=s0.run (isP 1)
    change Suf a _ (Hg r0) at h1
    have hd:=ADc s0
    generalize Ci (isP 1) a i0=e at h1 h2 h3 hd
    have hle:=h1.1
    have hcond:(if ((decide ((e:Int) > (i0:Int))) && (decide ((e:Int) < (List.length a:Int))))=true then Option.bind (idx a (e:Int)) (fun x17=>some (x17 == 33)) else some false:Option (Bool))=some (hdP (isP 1) r0 && Nx 33 (Hg r0)):=by
     have:=Sx hl h1 33 33 rfl
     cases hh:hdP (isP 1) r0 with
     | false=>
      rw[hd.1 hh]
      simp
     | true=>
      have hne:(i0:Int) < (e:Int):=by
       have:e≠i0:=fun q=>by rw[hd.2 q] at hh; cases hh
       omega
      rw[Bool.true_and,← this]
      rw[show (decide ((e:Int) > (i0:Int)))=true from decide_eq_true hne,Bool.true_and]
    rw[hcond]
    simp only[Option.bind_some]
    unfold Dh
    cases hc:(hdP (isP 1) r0 && Nx 33 (Hg r0)) with
    | true=>
     simp only[Bool.and_eq_true] at hc
     obtain⟨q,hq⟩:=Ny hc.2
     obtain⟨j,g1,g2⟩:=WY hl s0 0 0
     have hj:=g2.1
     simp only[hq,hc.1,and_self,if_true]
     rw[hq] at g2
     refine⟨j + 1,?_,g2.cons.2.2⟩
     rw[g1]
     simp only[Option.bind_some]
     rw[Yk j (by omega)]
    | false=>
     refine⟨i0,?_,?_⟩
     · cases hq:Hg r0 with
       | nil=>rfl
       | cons c q=>
        simp only
        have e:(if hdP (isP 1) r0=true∧c=33 then (Kv r0,q) else ([48],r0))=([48],r0):=if_neg (fun z=>by rw[z.1,hq,z.2] at hc; simp[Nx] at hc)
        rw[e]
        rfl
     · cases hq:Hg r0 with
       | nil=>exact s0
       | cons c q=>
        simp only
        have e:(if hdP (isP 1) r0=true∧c=33 then (Kv r0,q) else ([48],r0))=([48],r0):=if_neg (fun z=>by rw[z.1,hq,z.2] at hc; simp[Nx] at hc)
        rw[e]
        exact s0
   obtain⟨i1,e1,s1⟩:=hE
   rw[show (∀ (x:Option (Int × Str)),Option.bind x (fun z=>some z)=x) from fun x=>by cases x <;> rfl] at e1
   rw[e1]
   simp only[Option.bind_some]
   generalize (Dh r0).1=ep
   generalize (Dh r0).2=r at s1
   rw[ADY hl s1]
   simp only[Option.bind_some]
   unfold bG
   simp only[]
   cases hdr:hdP (isP 1) r with
   | false=>
    simp only[Bool.not_false,if_true]
    rw[fL hl s1 hdr]
    have hm:=Rk a.length 1 r
    have hne:(F6 a.length 1 r).1≠0:=by
     unfold F6
     rw[hdr]
     by_cases hr:r=[] <;> simp[hr]
    have hR:EM a.length r=([],r,F6 a.length 1 r):=by unfold EM; rw[hdr]; rfl
    rw[hR,if_pos hne]
    rfl
   | true=>
    simp only[Bool.not_true,Bool.false_eq_true,if_false]
    obtain⟨i2,e2,s2⟩:=WY hl s1 0 0
    rw[e2]
    simp only[Option.bind_some]
    rw[UM (by simp) (by simp)]
    simp only[Option.bind_some,List.nil_append]
    have hlt:=nZ hdr
    have hrp:=s1.pos
    have h2p:=s2.pos
    obtain⟨i3,e3,s3⟩:=m7 hl (r.length - 1) i2 (Hg r) [Kv r] (by omega) s2 (by simp; omega)
    rw[e3]
    simp only[Option.bind_some]
    have hR:EM a.length r=([Kv r] ++ (M4 (r.length - 1) (Hg r)).1,(M4 (r.length - 1) (Hg r)).2,(0,0)):=by
     unfold EM
     rw[hdr,if_pos rfl]
     have:r.length=(r.length - 1) + 1:=by omega
     rw[this,mI]
     rfl
    rw[hR]
    simp only[ne_eq,not_true_eq_false,if_false]
    generalize [Kv r] ++ (M4 (r.length - 1) (Hg r)).1=rel
    generalize (M4 (r.length - 1) (Hg r)).2=r2 at s3
    obtain⟨i4,e4,s4⟩:=ADd hl s3 0 0 (ws:=LV) (by decide) (by decide)
    rw[show ([[97,108,112,104,97],[97],[98,101,116,97],[98],[112,114,101,118,105,101,119],[112,114,101],[99],[114,99]]:List Str)=LV from rfl,e4]
    simp only[Option.bind_some]
    have hp:∃ j:Nat,(if (DF LV r2).2.1=true then Option.bind (JB (DF LV r2).1) (fun x64=>Option.bind (B0 a i4 0 0) (fun (x65,x66)=>some (x66,x64,x65))) else some ((i4:Int),0,[]):Option (Int × Int × Str))=some ((j:Int),(Dt r2).1,(Dt r2).2.1)∧Suf a j (Dt r2).2.2:=by
     unfold Dt
     cases hz:(DF LV r2).2.1 with
     | true=>
      obtain⟨i5,e5,s5⟩:=rS hl s4 0 0
      refine⟨i5,?_,s5⟩
      simp only[if_true]
      rw[AEn (YC hz),e5]
      rfl
     | false=>exact⟨i4,rfl,s4⟩
    obtain⟨i5,e5,s5⟩:=hp
    rw[e5]
    simp only[Option.bind_some]
    have hi5:=s5.1
    have ho:∃ j:Nat,Option.bind (if (decide ((i5:Int) < (List.length a:Int)))=true then Option.bind (idx a i5) (fun x83=>some (x83 == 45)) else some false:Option (Bool)) (fun x82=>Option.bind (if x82=true then Option.bind (BB a i5 0 0 1 1) (fun x86=>some x86) else some false:Option (Bool)) (fun x85=>(if x85=true then Option.bind (Bl a (w64 ((i5:Int) + 1)) 0 0) (fun (x87,x88)=>some (x88,true,x87)) else Option.bind (Cv a i5 0 0 My) (fun (x89,x90,x91)=>(if x90=true then Option.bind (B0 a x91 0 0) (fun (x92,x93)=>some (x93,true,x92)) else some (x91,false,[]))))))=some ((j:Int),(DU (Dt r2).2.2).1,(DU (Dt r2).2.2).2.1)∧Suf a j (DU (Dt r2).2.2).2.2:=by
     generalize (Dt r2).2.2=r3 at s5
     rw[Sx hl s5 45 45 rfl,eG hl s5]
     simp only[Option.bind_some]
     have hc:(if Nx 45 r3=true then some (hdP (isP 1) r3.tail) else some false:Option Bool)=some (RR r3):=by
      rw[AAf]
      cases Nx 45 r3 <;> rfl
     rw[hc]
     simp only[Option.bind_some]
     unfold DU
     cases hd:RR r3 with
     | true=>
      rw[AAf] at hd
      simp only[Bool.and_eq_true] at hd
      obtain⟨q,rfl⟩:=Ny hd.1
      obtain⟨_,_,h3⟩:=s5.cons
      obtain⟨j,g1,g2⟩:=WY hl h3 0 0
      refine⟨j,?_,g2⟩
      simp only[if_true,List.tail_cons]
      rw[Yk i5 (by omega),g1]
      rfl
     | false=>
      obtain⟨j,g1,g2⟩:=ADd hl s5 0 0 (ws:=My) (by decide) (by decide)
      simp only[Bool.false_eq_true,if_false]
      rw[g1]
      simp only[Option.bind_some]
      cases hz:(DF My r3).2.1 with
      | true=>
       obtain⟨j2,k1,k2⟩:=rS hl g2 0 0
       refine⟨j2,?_,k2⟩
       simp only[if_true]
       rw[k1]
       rfl
      | false=>exact⟨j,rfl,g2⟩
    obtain⟨i6,e6,s6⟩:=ho
    rw[show ([[112,111,115,116],[114,101,118],[114]]:List Str)=My from rfl,e6]
    simp only[Option.bind_some]
    obtain⟨i7,e7,s7⟩:=ADd hl s6 0 0 (ws:=UZ) (by decide) (by decide)
    rw[show ([[100,101,118]]:List Str)=UZ from rfl,e7]
    simp only[Option.bind_some]
    have hd:∃ j:Nat,(if (DF UZ (DU (Dt r2).2.2).2.2).2.1=true then Option.bind (B0 a i7 0 0) (fun (x102,x103)=>some (x103,true,x102)) else some ((i7:Int),false,[]):Option (Int × Bool × Str))=some ((j:Int),(LS (DU (Dt r2).2.2).2.2).1,(LS (DU (Dt r2).2.2).2.2).2.1)∧Suf a j (LS (DU (Dt r2).2.2).2.2).2.2:=by
     unfold LS
     cases hz:(DF UZ (DU (Dt r2).2.2).2.2).2.1 with
     | true=>
      obtain⟨i8,e8,s8⟩:=rS hl s7 0 0
      refine⟨i8,?_,s8⟩
      simp only[if_true]
      rw[e8]
      rfl
     | false=>exact⟨i7,rfl,s7⟩
    obtain⟨i8,e8,s8⟩:=hd
    rw[e8]
    simp only[Option.bind_some]
    obtain⟨i9,e9,s9⟩:=AFY hl s8
    rw[e9]
    simp only[Option.bind_some]
    have hLe:=cJ a.length (LS (DU (Dt r2).2.2).2.2).2.2
    generalize DR a.length (LS (DU (Dt r2).2.2).2.2).2.2=L at s9 hLe
    rcases hLe with hL | hL
    · rw[hL]
      have hpos:=s9.posR
      have hps:=s9.pos
      by_cases hr:L.2.1=[]
      · have h9:¬ ((i9:Int) < (a.length:Int)):=by rw[hr] at hps; simp only[List.length_nil] at hps; omega
        simp[hr,h9]
      · have h9:(i9:Int) < (a.length:Int):=by
         have:=List.length_pos_iff.2 hr
         omega
        simp[hr,h9,hpos,zP,AE0 hl s9]
    · have hL':(L.2.2.1 == 0)=false:=by simpa using hL
      rw[hL']
      simp[hL,zP]
 · rw[if_pos (by simp; omega),if_pos (by omega)]
   rfl
end Go.Vm
namespace Go.Vm
open Go
theorem AEZ (c:AK):(opT c).length≤c.Op.length + c.Ver.length + 2:=by
 unfold opT
 split <;> simp[Dd] <;> omega
theorem mC:∀ (l:List Str),(Lib.join l [44]).length≤(l.map fun x=>x.length + 1).sum
 | []=>by simp[Lib.join_nil]
 | [x]=>by rw[Lib.join_one]; simp
 | x :: y :: l=>by
  have ih:=mC (y :: l)
  rw[join_cons]
  simp only[List.map_cons,List.sum_cons,List.length_append,List.length_cons] at ih ⊢
  omega
theorem ADh {α:Type} {f:α→Nat} {B:Nat}:∀ (l:List α),(∀ x∈l,f x≤B)→(l.map f).sum≤l.length * B
 | [],_=>by simp
 | x :: l,h=>by
  have ih:=ADh l fun y hy=>h y (List.mem_cons_of_mem x hy)
  have:=h x (List.mem_cons_self ..)
  simp only[List.map_cons,List.sum_cons,List.length_cons,Nat.add_mul,Nat.one_mul]
  omega
structure AE5 (l:List AK):Prop where
 n:l.length≤1024
 o:∀ c∈l,c.Op.length≤1048576
 v:∀ c∈l,c.Ver.length≤1048576
theorem ADi {l:List AK} (h:AE5 l):(C8 l).length≤4294967296:=by
 unfold C8
 refine Nat.le_trans (mC _) ?_
 rw[List.map_map]
 refine Nat.le_trans (ADh (B:=2097155) l fun c hc=>?_) ?_
 · have:=AEZ c
   have:=h.o c hc
   have:=h.v c hc
   simp only[Function.comp_apply]
   omega
 · have:=h.n
   calc l.length * 2097155≤1024 * 2097155:=Nat.mul_le_mul_right _ this
    _≤_:=by decide
theorem AEj (l:List AK) (h:AE5 l):Kb l=some (C8 l):=by
 unfold Kb
 have hn:=h.n
 have:=D7 (f:=H8 l) (fun x=>∃ i:Nat,x.2=(i:Int)∧i≤l.length∧x.1.length=i) (fun x=>l.length - x.2.toNat) (fun x=>x.1 ++ (l.drop x.2.toNat).map opT) (fun x hx=>by
  obtain⟨b,z⟩:=x
  obtain⟨i,e,hi,hb⟩:=hx
  simp only at e hb
  subst e
  unfold H8
  simp only[Int.toNat_natCast]
  rcases Nat.lt_or_ge i l.length with g | g
  · right
    have o1:=h.o _ (List.getElem_mem g)
    have v1:=h.v _ (List.getElem_mem g)
    rw[if_pos (by simpa using g),E6 g]
    simp only[Option.bind_some]
    rw[ACb (by omega)]
    simp only[Option.bind_some]
    have hs:(if (l[i]).Star=true then Option.bind (cat (l[i].Op ++ l[i].Ver) [46,42]) (fun x20=>some x20) else some (l[i].Op ++ l[i].Ver):Option Str)=some (opT l[i]):=by
     unfold opT
     split
     · rw[ACb (by simp; omega),← List.append_assoc]; rfl
     · rw[List.append_nil]
    rw[hs]
    simp only[Option.bind_some]
    rw[UM (by simp only[List.length_singleton]; omega) (by simp only[List.length_singleton]; omega),UJ i (by omega)]
    refine⟨_,rfl,⟨i + 1,rfl,g,by simp[hb]⟩,by simp only[Int.toNat_natCast]; omega,?_⟩
    simp only[Int.toNat_natCast]
    rw[List.drop_eq_getElem_cons g,List.map_cons,List.append_assoc]
    rfl
  · left
    rw[if_neg (by simp; omega),List.drop_of_length_le g]
    simp) (x:=(([]:List Str),(0:Int))) ⟨0,rfl,Nat.zero_le _,rfl⟩
 rw[this]
 simp only[Option.bind_some,Int.toNat_zero,List.drop_zero,List.nil_append]
 have hl:=ADi h
 unfold strings_Join
 rw[if_pos ⟨by rw[List.length_map]; omega,by show (C8 l).length≤_; omega⟩]
 rfl
theorem ABF (a b:AK):((a.Op == b.Op) && ((a.Ver == b.Ver) && (a.Star == b.Star)))=decide (a=b):=by
 cases a; cases b
 rw[Bool.eq_iff_iff]
 simp
theorem AEB {F:Int→Option (Step Int (Unit ⊕ Unit))} {a b:List AK} (hl:a.length=b.length) (hn:a.length≤1048576) (h1:∀ (i:Nat) (h:i < a.length) (h2:i < b.length),F (i:Int)=if a[i]=b[i] then some (.next ((i + 1:Nat):Int)) else some (.done (Sum.inl ()))) (h2:F (a.length:Int)=some (.done (Sum.inr ()))) :
 CD F 0=some (if a=b then Sum.inr () else Sum.inl ()):=by
 have:=D7 (f:=F) (fun x=>∃ i:Nat,x=(i:Int)∧i≤a.length∧a.take i=b.take i) (fun x=>a.length - x.toNat) (fun _=>if a=b then Sum.inr () else Sum.inl ()) (fun x hx=>by
  obtain⟨i,rfl,hi,hp⟩:=hx
  rcases Nat.lt_or_ge i a.length with h | h
  · rw[h1 i h (by omega)]
    by_cases e:a[i]=b[i]'(by omega)
    · right
      rw[if_pos e]
      exact⟨_,rfl,⟨i + 1,rfl,h,by rw[List.take_succ_eq_append_getElem h,List.take_succ_eq_append_getElem (by omega),hp,e]⟩,by omega,rfl⟩
    · left
      rw[if_neg e,if_neg]
      intro q
      subst q
      exact e rfl
  · left
    have:i=a.length:=by omega
    subst this
    rw[h2,if_pos]
    rw[List.take_length,hl,List.take_length] at hp
    exact hp) (x:=(0:Int)) ⟨0,rfl,Nat.zero_le _,by simp⟩
 exact this
theorem ADW (a b:List AK) (h:a.length≤1048576):Bo a b=some (decide (a=b)):=by
 unfold Bo
 by_cases hl:a.length=b.length
 · rw[if_neg (by simp[hl]),AEB hl h (fun i h1 h2=>by
    unfold Bx
    rw[if_pos (by simpa using h1),E6 h1,E6 h2]
    simp only[Option.bind_some,ABF]
    rw[UJ i (by omega)]
    by_cases e:a[i]=b[i]
    · rw[if_pos e,if_neg (by simp[e])]
    · rw[if_neg e,if_pos (by simp[e])]) (by
    unfold Bx
    rw[if_neg (by simp)])]
   by_cases e:a=b
   · rw[if_pos e,decide_eq_true e]; rfl
   · rw[if_neg e,decide_eq_false e]; rfl
 · rw[if_pos (by simp; omega),decide_eq_false (fun e=>hl (by rw[e]))]
def n7 (l:List AK):Str:=if HQ (C8 l)=some l then C8 l else []
theorem ABn {s:Str}:(Ul s).1.length≤1048576:=by
 obtain⟨h1,h2⟩:=W8 s
 cases h:HQ s with
 | none=>rw[(h2 h).1]; simp
 | some l=>rw[h1 l h]; have:=(Ms h).2.1; simp only; omega
theorem ABx (l:List AK) (h:AE5 l):HA l=some (n7 l):=by
 unfold HA n7
 rw[AEj l h]
 simp only[Option.bind_some]
 rw[dO]
 obtain⟨h1,h2⟩:=W8 (C8 l)
 have hp:=ABn (s:=C8 l)
 simp only[Option.bind_some]
 cases hq:HQ (C8 l) with
 | none=>
  obtain⟨g1,g2⟩:=h2 hq
  rw[if_pos (by simpa using g2)]
  simp
 | some k=>
  rw[h1 k hq]
  rw[h1 k hq] at hp
  simp only[bne_self_eq_false,Bool.false_eq_true,if_false]
  rw[ADW _ _ hp]
  simp only[Option.bind_some]
  by_cases e:k=l
  · rw[if_neg (by simp[e]),if_pos (by rw[e])]
  · rw[if_pos (by simp[e]),if_neg (fun q=>e (Option.some.inj q))]
def bS (c:AK):Bool:=decide (HQ (opT c)=some [c])
theorem TL (c:AK):C8 [c]=opT c:=by simp[C8,Lib.join_one]
theorem ADX (c:AK) (ho:c.Op.length≤1048576) (hv:c.Ver.length≤1048576):Je c=some (bS c):=by
 unfold Je bS
 rw[ABx [c] ⟨by simp,fun x hx=>by rw[List.mem_singleton.1 hx]; exact ho,fun x hx=>by rw[List.mem_singleton.1 hx]; exact hv⟩]
 simp only[Option.bind_some]
 unfold n7
 rw[TL]
 by_cases h:HQ (opT c)=some [c]
 · rw[if_pos h,decide_eq_true h]
   congr 1
   have:opT c≠[]:=fun e=>by
    rw[e] at h
    cases h
   simpa using this
 · rw[if_neg h,decide_eq_false h]
   rfl
theorem tI {c:AK}:bS c=true↔QQ c∧(opT c).length≤256:=by
 unfold bS
 rw[decide_eq_true_eq]
 constructor
 · intro h
   obtain⟨g1,g2,g3,g4⟩:=Ms h
   exact⟨g1 c (by simp),g4⟩
 · rintro⟨h1,h2⟩
   have:=uU (l:=[c]) (fun x hx=>by rw[List.mem_singleton.1 hx]; exact h1) (by simp) (by rw[TL]; exact h2)
   rwa [TL] at this
def EG (v:Ac):Ac:={ v with Local:=[] }
def FQ (v:Ac):Ac:=⟨v.Epoch,v.Release,0,[],false,[],false,[],[]⟩
def G1 (a b:Ac):Int:=if Ua a=true∧Ua b=true then AFT a b else 0
theorem TO.pub {v:Ac} (h:TO v):TO (EG v):=⟨h.e,h.p,h.o,h.d,h.r,by simp[EG],h.rs,fun x hx=>by cases hx⟩
theorem TO.base {v:Ac} (h:TO v):TO (FQ v):=⟨h.e,by simp[FQ],by simp[FQ],by simp[FQ],h.r,by simp[FQ],h.rs,fun x hx=>by cases hx⟩
def OI (v:Ac) (ep:Str) (rel:List Str):Bool:=(v.Epoch == ep) && (List.range rel.length).all fun i=>v.Release.getD i [48] == rel.getD i []
theorem mY (v:Ac) (ep:Str) (rel:List Str) (h:rel.length≤1048576):Fv v ep rel=some (OI v ep rel):=by
 unfold Fv OI
 cases he:v.Epoch == ep with
 | false=>rfl
 | true=>
  simp only[Bool.not_true,Bool.false_eq_true,if_false,Bool.true_and]
  have:=D7 (f:=Gs v rel) (fun x=>∃ i:Nat,x=(i:Int)∧i≤rel.length∧∀ j,j < i→(v.Release.getD j [48] == rel.getD j [])=true) (fun x=>rel.length - x.toNat) (fun _=>if ((List.range rel.length).all fun i=>v.Release.getD i [48] == rel.getD i [])=true then Sum.inr () else Sum.inl ()) (fun x hx=>by
   obtain⟨i,rfl,hi,hp⟩:=hx
   unfold Gs
   rcases Nat.lt_or_ge i rel.length with g | g
   · rw[if_pos (by simpa using g),E6 g]
     simp only[Option.bind_some]
     have hm:(if (decide ((i:Int) < (List.length v.Release:Int)))=true then Option.bind (ixl v.Release (i:Int)) (fun x12=>some x12) else some [48]:Option Str)=some (v.Release.getD i [48]):=by
      rcases Nat.lt_or_ge i v.Release.length with q | q
      · rw[if_pos (by simpa using q),E6 q]
        simp[List.getD,q]
      · rw[if_neg (by simp; omega)]
        simp[List.getD,q]
     rw[hm]
     simp only[Option.bind_some]
     have hr:rel.getD i []=rel[i]:=by simp[List.getD,g]
     rw[UJ i (by omega)]
     cases hq:v.Release.getD i [48] == rel[i] with
     | true=>
      right
      rw[if_neg (by decide)]
      refine⟨_,rfl,⟨i + 1,rfl,g,fun j hj=>?_⟩,by omega,by first | trivial | rfl⟩
      rcases Nat.lt_or_ge j i with w | w
      · exact hp j w
      · rw[show j=i by omega,hr]; exact hq
     | false=>
      left
      rw[if_pos (by decide),if_neg]
      intro q
      have:=List.all_eq_true.1 q i (List.mem_range.2 g)
      rw[hr,hq] at this
      cases this
   · left
     have:i=rel.length:=by omega
     subst this
     rw[if_neg (by simp),if_pos]
     exact List.all_eq_true.2 fun j hj=>hp j (List.mem_range.1 hj)) (x:=(0:Int)) ⟨0,rfl,Nat.zero_le _,fun j hj=>absurd hj (Nat.not_lt_zero _)⟩
  rw[this]
  simp only[Option.bind_some]
  cases (List.range rel.length).all fun i=>v.Release.getD i [48] == rel.getD i [] <;> rfl
def jB (v:Ac):Bool:=(v.Pre != 0) || v.Dev
def xQ (c:AK) (t:Str) (v w:Ac):Bool:=
 let eqq:Bool:=if c.Star=true then OI v w.Epoch w.Release else G1 (if w.Local.length=0 then EG v else v) w == 0
 if c.Op=eqW then eqq
 else if c.Op=neW then !eqq
 else if c.Op=teW then decide (G1 (EG v) w≥0) && OI v w.Epoch w.Release.dropLast
 else if c.Op=[60,61] then decide (G1 (EG v) w≤0)
 else if c.Op=[62,61] then decide (G1 (EG v) w≥0)
 else if c.Op=[60] then decide (G1 v w < 0) && !(jB v && !jB w && (G1 (FQ v) (FQ w) == 0))
 else if c.Op=[62] then decide (G1 v w > 0) && !((G1 (FQ v) (FQ w) == 0) && (decide (v.Local.length > 0) || (v.Post && !w.Post)))
 else Fz t == Fz c.Ver
theorem N2 (a:Ac):Ac.mk a.Epoch a.Release a.Pre a.PreNum a.Post a.PostNum a.Dev a.DevNum a.Local=a:=by cases a; rfl
theorem ABh (a:AK):AK.mk a.Op a.Ver a.Star=a:=by cases a; rfl
section
variable {c:AK} {t:Str} {v w:Ac} (hv:TO v) (hw:TO w)
theorem mX (a:Ac) (h:TO a):Jc a=some (EG a):=by
 unfold Jc
 rw[ACc _ h.r]
 rfl
theorem OY (a b:Ac) (ha:TO a) (hb:TO b):Fu a b=some (G1 a b):=pB a b ha hb
include hv hw
theorem XR:Cm ⟨c,t,v,w⟩=some (G1 (EG v) w):=by
 unfold Cm
 simp only[N2]
 rw[mX v hv]
 simp only[Option.bind_some]
 rw[OY _ _ hv.pub hw]
 simp only[Option.bind_some]
theorem vS:Db ⟨c,t,v,w⟩=some (G1 (FQ v) (FQ w) == 0):=by
 unfold Db KN
 simp only[Option.bind_some]
 have e1:Ac.mk v.Epoch v.Release 0 [] false [] false [] []=FQ v:=rfl
 have e2:Ac.mk w.Epoch w.Release 0 [] false [] false [] []=FQ w:=rfl
 rw[e1,e2,OY _ _ hv.base hw.base]
 simp only[Option.bind_some]
theorem vT:Dc ⟨c,t,v,w⟩=some (if c.Star=true then OI v w.Epoch w.Release else G1 (if w.Local.length=0 then EG v else v) w == 0):=by
 unfold Dc
 simp only[N2]
 cases c.Star with
 | true=>
  simp only[if_true]
  rw[mY _ _ _ hw.r]
  simp only[Option.bind_some]
 | false=>
  simp only[Bool.false_eq_true,if_false]
  by_cases h:w.Local.length=0
  · rw[if_pos (by simpa using h),if_pos h,mX v hv]
    simp only[Option.bind_some,N2]
    rw[OY _ _ hv.pub hw]
    simp only[Option.bind_some]
  · rw[if_neg (by simpa using h),if_neg h]
    simp only[Option.bind_some,N2]
    rw[OY _ _ hv hw]
    simp only[Option.bind_some]
end
def RY (c:AK) (t:Str):Bool:=decide ((Au t).2.Err=0) && bS c && xQ c t (Au t).1 (Au c.Ver).1
theorem MC (c:AK) (t:Str) (ho:c.Op.length≤1048576) (hv:c.Ver.length≤1048576) (ht:t.length≤1048576):Gr c t=some (RY c t):=by
 unfold Gr RY
 rw[Hq]
 simp only[Option.bind_some,N2]
 have hP:=dA t
 by_cases h1:(Au t).2.Err=0
 · rw[if_neg (by simp[h1]),ADX c ho hv,decide_eq_true h1]
   simp only[Option.bind_some,Bool.true_and]
   cases hf:bS c with
   | false=>rfl
   | true=>
    simp only[Bool.not_true,Bool.false_eq_true,if_false,Bool.true_and]
    rw[Hq]
    simp only[Option.bind_some,LX]
    have hW:=dA c.Ver
    obtain⟨hg,hlen⟩:=tI.1 hf
    obtain⟨g1,g2,g3,g4⟩:=hg
    generalize hvv:(Au t).1=v at hP
    unfold xQ
    simp only[beq_iff_eq]
    have q1:([61,61]:Str)=eqW:=rfl
    have q2:([33,61]:Str)=neW:=rfl
    have q3:([126,61]:Str)=teW:=rfl
    have q4:([61,61,61]:Str)=QV:=rfl
    rw[q4,q1,q2,q3]
    by_cases e1:c.Op=eqW
    · rw[if_pos e1,if_pos e1,vT hP hW]; simp only[Option.bind_some]
    rw[if_neg e1,if_neg e1]
    by_cases e2:c.Op=neW
    · rw[if_pos e2,if_pos e2]
      unfold Hx
      simp only[N2,ABh]
      rw[vT hP hW]; simp only[Option.bind_some]
    rw[if_neg e2,if_neg e2]
    by_cases e3:c.Op=teW
    · rw[if_pos e3,if_pos e3]
      unfold Hy
      simp only[N2,ABh]
      rw[XR hP hW]
      simp only[Option.bind_some]
      by_cases e4:G1 (EG v) (Au c.Ver).1≥0
      · rw[if_pos (decide_eq_true e4),decide_eq_true e4]
        have hrel:2≤(Au c.Ver).1.Release.length:=by
         rcases g4 with ⟨a,_⟩ | ⟨_,_,d,_⟩
         · rw[e3] at a; cases a
         · unfold LD at d
           simp only[Bool.or_eq_false_iff] at d
           have:=d.1.2
           rw[e3] at this
           simpa using this
        have hr:=hW.r
        rw[CR (by omega) (by omega),show (((Au c.Ver).1.Release.length:Int) - 1)=(((Au c.Ver).1.Release.length - 1:Nat):Int) by omega,YA (by omega),← List.dropLast_eq_take]
        simp only[Option.bind_some]
        rw[mY _ _ _ (by rw[List.length_dropLast]; omega)]
        simp only[Option.bind_some,Bool.true_and]
      · rw[if_neg (by simpa using e4),decide_eq_false e4]
        simp only[Option.bind_some,Bool.false_and]
    rw[if_neg e3,if_neg e3]
    by_cases e5:c.Op=[60,61]
    · rw[if_pos e5,if_pos e5]
      unfold Hz
      simp only[N2,ABh]
      rw[XR hP hW]; simp only[Option.bind_some]
    rw[if_neg e5,if_neg e5]
    by_cases e6:c.Op=[62,61]
    · rw[if_pos e6,if_pos e6]
      unfold HI
      simp only[N2,ABh]
      rw[XR hP hW]; simp only[Option.bind_some]
    rw[if_neg e6,if_neg e6]
    by_cases e7:c.Op=[60]
    · rw[if_pos e7,if_pos e7]
      unfold H5
      simp only[N2,ABh]
      rw[OY _ _ hP hW,vS hP hW]
      simp only[Option.bind_some,J3]
      unfold jB
      generalize decide (G1 v (Au c.Ver).1 < 0)=A
      generalize (v.Pre != 0 || v.Dev)=B
      generalize ((Au c.Ver).1.Pre != 0 || (Au c.Ver).1.Dev)=C
      generalize (G1 (FQ v) (FQ (Au c.Ver).1) == 0)=D
      cases A <;> cases B <;> cases C <;> cases D <;> rfl
    rw[if_neg e7,if_neg e7]
    by_cases e8:c.Op=[62]
    · rw[if_pos e8,if_pos e8]
      unfold H6
      simp only[N2,ABh]
      rw[OY _ _ hP hW,vS hP hW]
      simp only[Option.bind_some]
      have hl:decide ((List.length v.Local:Int) > 0)=decide (v.Local.length > 0):=by rw[decide_eq_decide]; omega
      rw[hl]
      generalize decide (G1 v (Au c.Ver).1 > 0)=A
      generalize (G1 (FQ v) (FQ (Au c.Ver).1) == 0)=D
      generalize decide (v.Local.length > 0)=B
      cases A <;> cases B <;> cases D <;> rfl
    rw[if_neg e8,if_neg e8]
    have e9:c.Op=QV:=by
     simp only[Cs,List.mem_cons,List.not_mem_nil,or_false] at g1
     rcases g1 with q | q | q | q | q | q | q | q
     · exact absurd q e3
     · exact absurd q e1
     · exact absurd q e2
     · exact absurd q e5
     · exact absurd q e6
     · exact absurd q e7
     · exact absurd q e8
     · exact q
    rw[if_pos e9]
    unfold H7
    rw[J6 _ (by simp only; omega),J6 _ (by simp only; omega)]
    simp only[Option.bind_some]
    try rfl
 · rw[if_pos (by simpa using h1),decide_eq_false h1]
   rfl
end Go.Vm

/- The law PyspecBack, a part of its proof: what the functions that it reaches compute. -/
import Derived.WalkKit
import Derived.ProofKit
import Derived.OpenShut
import Derived.Below
import Derived.ChangeSame
import Derived.Deep.DeepHandedRow
import Derived.Carry
import Derived.Test.YtdenfejaedgehaaGreatDoorFxc456f492
import Derived.Shelf.Small.Strs
import Derived.Test.YtdenfejaedgehaaGreatDoorDx0207accb
import Derived.Shelf.Strings.IndexAnyAll
import Derived.Shelf.Strings.OnBuilder
import Derived.Sort.Row
import Derived.Sort.Grow
import Derived.WalkSmall
import Derived.Lib.ItoaNum
import Derived.Lib.AtoiAll
import Derived.Shelf.Strconv.AppendUint10
import Derived.Shelf.Strconv.ErrVarAll
import Derived.Deep.Strs
import Derived.Lib.Bytealg
import Derived.Test.YtdenfejaedgehaaGreatDoorG0PyspecBack
import Derived.Test.YtdenfejaedgehaaGreatDoorG1PyspecBack
import Derived.Test.YtdenfejaedgehaaGreatDoorG2PyspecBack
set_option linter.unusedVariables false
set_option linter.unusedSimpArgs false
namespace Go.Vm
open Go Go.RowKit Go.WideShapes Go.ChangeShapes
theorem pL {H:Type} {enc:TypeId × Value→H} {P:Program} {f:Func} {s:ChangeSpec} {apart fresh handsOn again:Bool} {W W':World} {args:Array Value} {v:Value} {ds gs:List (DataW H)} {before pa pv:List MemPlace}
 (hW:DataW.Whole enc P f.params.toList s.vars apart W args.toList ds gs before) (hb:Below W.heap.size W W') (hp:before=pa ++ pv)
 (hr:∀ (b:Nat) (sp:Nat→Bool) (hd:Bool),DataW.TrodAll enc P W' b sp hd f.resultTypes.toList (v.resultList f.resultTypes.size) (s.fn H (ds ++ gs)).results [])
 (ha:∀ sp:Nat→Bool,(∀ p∈before,sp p.block=true)→DataW.TrodAll enc P W' 0 sp true f.params.toList args.toList (s.fn H (ds ++ gs)).args pa)
 (hv:∀ sp:Nat→Bool,(∀ p∈before,sp p.block=true)→DataW.TrodVars enc P W' sp s.vars (s.fn H (ds ++ gs)).vars pv)
 (ho:∀ (j:Nat) (t:TypeId) (r:Value),f.resultTypes[j]? = some t→(v.resultList f.resultTypes.size)[j]? = some r→Value.okWide P W' .any 0 t r) :
 s.post enc P f apart fresh handsOn again W args v W':=by
 have small:∀ p∈before,decide (p.block < W.heap.size)=true:=fun p h=>decide_eq_true (hW.lt p h)
 refine⟨ds,gs,before,[],pa,pv,hW,hr _ _ _,ha (fun b=>decide (b < W.heap.size)) small,hv _ small,hb.frame _,fun _=>⟨ho,?_⟩⟩
 obtain⟨_,_,_,_,_,hz,hn⟩:=hW
 refine⟨_,_,([] ++ pa) ++ pv,⟨[] ++ pa,pv,trodAll_append (ha _ fun _ _=>rfl) (hr _ _ _),hv _ fun _ _=>rfl,rfl,fun b off hm=>?_,fun h=>?_⟩,?_⟩
 · have hm':MemPlace.cell b off∈before:=by rw[hp]; simpa using hm
   rw[hb.frozen (of_decide_eq_true (small _ hm'))]
   exact hz b off hm'
 · have:=hn h
   rw[hp] at this
   simpa using this
 · intro x hx _
   rw[hp]
   simpa using hx
end Go.Vm
set_option linter.unusedVariables false
set_option linter.unusedSimpArgs false
namespace Go.Vm
open Go Go.RowKit
theorem ND {K:Cx} {base:Nat} {h:AG} (H:Ar K base h) {v:AV} {cv:Value} {w':World} (hb:Below K.w.heap.size K.w w') (hv:∀ K',AU K' v cv):Ce K base h K.c v (.returned cv) w':=by
 let K':Cx:={ K with w:=w' }
 have S:K.Step K':=⟨Nat.le_refl _,fun _ _=>rfl,hb.os,hb.tape,hb.output,hb.size,fun b h1 h2=>⟨hb.block b h1,h2⟩,rfl,fun l ⟨R,hR⟩=>⟨R,(hb.block l (by
  rcases Nat.lt_or_ge l K.w.heap.size with hlt | hge
  · exact hlt
  · rw[Array.getElem?_eq_none hge] at hR; cases hR)).trans hR⟩⟩
 exact⟨K',cv,rfl,rfl,S,H.step S (fun b hL=>hb.block b (H.bs b hL).2) rfl,rfl,hv K'⟩
theorem pE {P:Program} {g:FuncId} {p:List AV→Option AV} (hf:∀ args v,p args=some v→∃ a b r,args=[.s (.string a),.s (.string b)]∧v = .s r∧∀ w,Calls P g #[.string a,.string b] w fun e w'=>e = .returned r∧Below w.heap.size w w') :
 ∀ args v,p args=some v→∀ (K:Cx) (base:Nat) (h:AG) (cargs:Array Value),Ar K base h→VRels K args cargs.toList→∀ N,CallsIn Fence.wide N P g cargs K.w (Ce K base h K.c v):=fun args v hp K base h cargs H hr N=>by
 obtain⟨a,b,r,rfl,rfl,hc⟩:=hf args v hp
 obtain⟨cl,rfl⟩:∃ l:List Value,cargs=l.toArray:=⟨cargs.toList,by simp⟩
 match cl,hr with
 | [x,y],hr=>
  simp only[VRels,AU] at hr
  obtain⟨rfl,rfl,_⟩:=hr
  refine callsIn_wide.2 ((hc K.w).mono ?_)
  rintro e w' ⟨rfl,hb⟩
  exact ND H hb fun K'=>by simp[AU]
 | [],hr=>simp[VRels] at hr
 | [_],hr=>simp[VRels] at hr
 | _ :: _ :: _ :: _,hr=>simp[VRels] at hr
theorem vS {P:Program} {g:FuncId} {p:List AV→Option AV} (hf:∀ args v,p args=some v→∃ a k c r,args=[.s (.string a),.s (.int k c)]∧v = .s r∧∀ w,Calls P g #[.string a,.int k c] w fun e w'=>e = .returned r∧Below w.heap.size w w') :
 ∀ args v,p args=some v→∀ (K:Cx) (base:Nat) (h:AG) (cargs:Array Value),Ar K base h→VRels K args cargs.toList→∀ N,CallsIn Fence.wide N P g cargs K.w (Ce K base h K.c v):=fun args v hp K base h cargs H hr N=>by
 obtain⟨a,k,c,r,rfl,rfl,hc⟩:=hf args v hp
 obtain⟨cl,rfl⟩:∃ l:List Value,cargs=l.toArray:=⟨cargs.toList,by simp⟩
 match cl,hr with
 | [x,y],hr=>
  simp only[VRels,AU] at hr
  obtain⟨rfl,rfl,_⟩:=hr
  refine callsIn_wide.2 ((hc K.w).mono ?_)
  rintro e w' ⟨rfl,hb⟩
  exact ND H hb fun K'=>by simp[AU]
 | [],hr=>simp[VRels] at hr
 | [_],hr=>simp[VRels] at hr
 | _ :: _ :: _ :: _,hr=>simp[VRels] at hr
def kL:List (List AV)→Option (List ByteArray)
 | []=>some []
 | [.s (.string b)] :: rs=>(kL rs).map fun l=>b :: l
 | _=>none
theorem kX:∀ {rows:List (List AV)} {l:List Str},UT rows=some l→∃ xs,kL rows=some xs∧xs.map (·.data.toList)=l∧xs.length=rows.length
 | [],l,h=>by cases h; exact⟨[],rfl,rfl,rfl⟩
 | r :: rs,l,h=>by
  unfold UT at h
  split at h
  · rename_i e; cases e
  · rename_i b rs' e
    cases e
    obtain⟨l2,h1,rfl⟩:=Option.map_eq_some_iff.1 h
    obtain⟨xs,h2,h3,h4⟩:=kX h1
    exact⟨b :: xs,by simp only[kL,h2,Option.map_some],by simp[h3],by simp[h4]⟩
  · cases h
theorem Rb {K:Cx} {b:Nat}:∀ {rows:List (List AV)} {xs:List ByteArray} {o:Nat},kL rows=some xs→RRel K.frz b o 1 rows→∀ (j:Nat) x,xs[j]? = some x→K.w.cell? ⟨b,o + j,none⟩=some (.string x)∧b < K.w.heap.size
 | [],xs,o,h,_,j,x,hx=>by cases h; simp at hx
 | r :: rs,xs,o,h,hr,j,x,hx=>by
  unfold kL at h
  split at h
  · rename_i e; cases e
  · rename_i b' rs' e
    cases e
    obtain⟨l2,h1,rfl⟩:=Option.map_eq_some_iff.1 h
    simp only[RRel] at hr
    obtain⟨_,hc,hrest⟩:=hr
    cases j with
    | zero=>
     simp only[List.getElem?_cons_zero,Option.some.injEq] at hx
     subst hx
     simp only[CRel,AU,and_true] at hc
     obtain⟨v,h2,h3,h4,h5⟩:=hc
     subst h5
     exact⟨h3,h2.1⟩
    | succ j=>
     have:=Rb h1 hrest j x (by simpa using hx)
     rw[show o + (j + 1)=o + 1 + j by omega]
     exact this
  · cases h
theorem pW {P:Program} {g:FuncId} (h0:∀ (a:Option Addr) (c:Nat) (sep:ByteArray) (w:World),Calls P g #[.slice a 0 c,.string sep] w fun e w'=>e = .returned (.string ⟨#[]⟩)∧w' = w)
 (h1:∀ (bk o c:Nat) (xs:List ByteArray) (sep:ByteArray) (w:World),(∀ (j:Nat) x,xs[j]? = some x→w.cell? ⟨bk,o + j,none⟩=some (.string x))→bk < w.heap.size→xs.length≤140737488355328→xs.length≤c→(Lib.join (xs.map (·.data.toList)) sep.data.toList).length≤140737488355328 →
  Calls P g #[.slice (some ⟨bk,o,none⟩) xs.length c,.string sep] w fun e w'=>e = .returned (.string ⟨(Lib.join (xs.map (·.data.toList)) sep.data.toList).toArray⟩)∧Below w.heap.size w w') :
 ∀ args v,V3 args=some v→∀ (K:Cx) (base:Nat) (h:AG) (cargs:Array Value),Ar K base h→VRels K args cargs.toList→∀ N,CallsIn Fence.wide N P g cargs K.w (Ce K base h K.c v):=fun args v hp K base h cargs H hr N=>by
 unfold V3 at hp
 split at hp
 · rename_i x sep
   split at hp
   · rename_i l hl
     split at hp
     · rename_i hbound
       cases hp
       obtain⟨cl,rfl⟩:∃ l:List Value,cargs=l.toArray:=⟨cargs.toList,by simp⟩
       match cl,hr with
       | [y,z],hr=>
        simp only[VRels] at hr
        obtain⟨hx,hz,_⟩:=hr
        simp only[AU] at hz
        subst hz
        have empty:∀ (a:Option Addr) (c:Nat),l=[]→CallsIn Fence.wide N P g #[.slice a 0 c,.string sep] K.w (Ce K base h K.c (.s (.string ⟨(Lib.join l sep.data.toList).toArray⟩))):=fun a c e=>by
         subst e
         refine callsIn_wide.2 ((h0 a c sep K.w).mono ?_)
         rintro e w' ⟨rfl,rfl⟩
         exact ND H (Below.refl _ _) fun K'=>by simp[AU,Lib.join_nil]
        unfold nD at hl
        split at hl
        · cases hl
          simp only[AU] at hx
          subst hx
          exact empty none 0 rfl
        · cases hl
          simp only[AU] at hx
          obtain⟨A,rfl,_⟩:=hx
          exact empty A 0 rfl
        · rename_i rows
          obtain⟨xs,e1,e2,e3⟩:=kX hl
          simp only[AU] at hx
          obtain⟨A,cap,rfl,_,hcap,hcells⟩:=hx
          rcases hcells with hc | ⟨b,o,rfl,hc⟩
          · subst hc
            have:l=[]:=by cases hl; rfl
            exact empty A cap this
          · cases hxs:xs with
            | nil=>
             rw[hxs] at e2 e3
             have hrl:rows.length=0:=e3.symm
             rw[hrl]
             exact empty _ cap e2.symm
            | cons x0 xs0=>
             have hb:b < K.w.heap.size:=(Rb e1 hc 0 x0 (by rw[hxs]; rfl)).2
             rw[← e2] at hbound ⊢
             rw[← e3] at hcap ⊢
             refine callsIn_wide.2 ((h1 b o cap xs sep K.w (fun j x hj=>(Rb e1 hc j x hj).1) hb (by have:=hbound.1; simp at this; omega) hcap hbound.2).mono ?_)
             rintro e w' ⟨rfl,hbl⟩
             exact ND H hbl fun K'=>by simp[AU]
        · cases hl
       | [],hr=>simp[VRels] at hr
       | [_],hr=>simp[VRels] at hr
       | _ :: _ :: _ :: _,hr=>simp[VRels] at hr
     · cases hp
   · cases hp
 · cases hp
theorem lH {a:List UInt8} (h:W5 a=true):∀ (j:Nat) b,a[j]? = some b→b.toNat < 128:=fun j b hb=>by
 have:=List.all_eq_true.1 h b (List.mem_of_getElem? hb)
 simpa using this
theorem qR {P:Program} {g:FuncId} {p:List AV→Option AV} (hf:∀ args v,p args=some v→∀ (K:Cx) (base:Nat) (h:AG) (cargs:Array Value),Ar K base h→VRels K args cargs.toList→∀ N,CallsIn Fence.wide N P g cargs K.w (Ce K base h K.c v)) :
 ∀ args h n v h' n',iT p args h n=some (v,h',n')→∀ (K:Cx) (base:Nat) (cargs:Array Value),Ar K base h→K.c=n→VRels K args cargs.toList→∀ N,CallsIn Fence.wide N P g cargs K.w (Ce K base h' n' v):=fun args h n v h' n' hp K base cargs H hc hr N=>by
 unfold iT at hp
 obtain⟨v2,h1,h2⟩:=Option.map_eq_some_iff.1 hp
 cases h2
 subst hc
 exact hf args v h1 K base h cargs H hr N
end Go.Vm
set_option maxRecDepth 100000
namespace Go.Proofs
open Go.Shelf
def Tryz.z213f:Nat→Nat
 | 213=>131
 | 265=>135
 | n=>n
def Tryz.z213t:Nat→Nat
 | 9=>9
 | 3=>3
 | n=>n
def Tryz.z213g:Nat→Nat
 | n=>n
def Tryz.z213r:Ren:=⟨Tryz.z213f,Tryz.z213t,Tryz.z213g⟩
theorem Tryz.z213:Lays.n213 Tryz.prog Tryz.z213r where
 mixed:=by kernel_rfl
 f213:=by kernel_rfl
 f265:=by kernel_rfl
 t3:=Tryz.underlying3
 a3:=Tryz.isAgg3
 z3:=Tryz.sizeOf3
 v3:=Tryz.zeroValue3
 t9:=Tryz.underlying9
 a9:=Tryz.isAgg9
 z9:=Tryz.sizeOf9
 v9:=Tryz.zeroValue9
def Tryz.z137f:Nat→Nat
 | 137=>123
 | 217=>132
 | 266=>136
 | n=>n
def Tryz.z137t:Nat→Nat
 | 9=>9
 | 5=>5
 | 3=>3
 | n=>n
def Tryz.z137g:Nat→Nat
 | n=>n
def Tryz.z137r:Ren:=⟨Tryz.z137f,Tryz.z137t,Tryz.z137g⟩
theorem Tryz.z137:Lays.n137 Tryz.prog Tryz.z137r where
 mixed:=by kernel_rfl
 f137:=by kernel_rfl
 f217:=by kernel_rfl
 f266:=by kernel_rfl
 t3:=Tryz.underlying3
 a3:=Tryz.isAgg3
 z3:=Tryz.sizeOf3
 v3:=Tryz.zeroValue3
 t5:=Tryz.underlying5
 a5:=Tryz.isAgg5
 z5:=Tryz.sizeOf5
 v5:=Tryz.zeroValue5
 t9:=Tryz.underlying9
 a9:=Tryz.isAgg9
 z9:=Tryz.sizeOf9
 v9:=Tryz.zeroValue9
def Tryz.z150f:Nat→Nat
 | 150=>53
 | 153=>82
 | 152=>104
 | 226=>105
 | 227=>106
 | 228=>107
 | 137=>123
 | 119=>124
 | 224=>125
 | 225=>126
 | 217=>132
 | 266=>136
 | n=>n
def Tryz.z150t:Nat→Nat
 | 9=>9
 | 4=>4
 | 3=>3
 | 5=>5
 | 21=>21
 | 117=>111
 | 116=>110
 | 0=>0
 | 46=>125
 | 124=>126
 | n=>n
def Tryz.z150g:Nat→Nat
 | n=>n
def Tryz.z150r:Ren:=⟨Tryz.z150f,Tryz.z150t,Tryz.z150g⟩
theorem Tryz.z150:Lays.n150 Tryz.prog Tryz.z150r where
 mixed:=by kernel_rfl
 f119:=by kernel_rfl
 f137:=by kernel_rfl
 f150:=by kernel_rfl
 f152:=by kernel_rfl
 f153:=by kernel_rfl
 f217:=by kernel_rfl
 f224:=by kernel_rfl
 f225:=by kernel_rfl
 f226:=by kernel_rfl
 f227:=by kernel_rfl
 f228:=by kernel_rfl
 f266:=by kernel_rfl
 t0:=Tryz.underlying0
 a0:=Tryz.isAgg0
 z0:=Tryz.sizeOf0
 v0:=Tryz.zeroValue0
 t3:=Tryz.underlying3
 a3:=Tryz.isAgg3
 z3:=Tryz.sizeOf3
 v3:=Tryz.zeroValue3
 t4:=Tryz.underlying4
 a4:=Tryz.isAgg4
 z4:=Tryz.sizeOf4
 v4:=Tryz.zeroValue4
 t5:=Tryz.underlying5
 a5:=Tryz.isAgg5
 z5:=Tryz.sizeOf5
 v5:=Tryz.zeroValue5
 t9:=Tryz.underlying9
 a9:=Tryz.isAgg9
 z9:=Tryz.sizeOf9
 v9:=Tryz.zeroValue9
 t21:=Tryz.underlying21
 a21:=Tryz.isAgg21
 z21:=Tryz.sizeOf21
 v21:=Tryz.zeroValue21
 t46:=Tryz.underlying125
 a46:=Tryz.isAgg125
 z46:=Tryz.sizeOf125
 v46:=Tryz.zeroValue125
 t116:=Tryz.underlying110
 a116:=Tryz.isAgg110
 z116:=Tryz.sizeOf110
 t117:=Tryz.underlying111
 a117:=Tryz.isAgg111
 z117:=Tryz.sizeOf111
 v117:=Tryz.zeroValue111
 t124:=Tryz.underlying126
 a124:=Tryz.isAgg126
 z124:=Tryz.sizeOf126
 v124:=Tryz.zeroValue126
def Tryz.z156f:Nat→Nat
 | 156=>44
 | 165=>74
 | 166=>75
 | 169=>76
 | 240=>101
 | 241=>102
 | 276=>121
 | 277=>122
 | n=>n
def Tryz.z156t:Nat→Nat
 | 31=>32
 | 9=>9
 | 3=>3
 | 4=>4
 | 0=>0
 | 20=>20
 | 72=>89
 | 76=>93
 | 70=>87
 | 37=>74
 | 75=>92
 | 127=>107
 | 164=>119
 | 5=>5
 | 80=>56
 | n=>n
def Tryz.z156g:Nat→Nat
 | n=>n
def Tryz.z156r:Ren:=⟨Tryz.z156f,Tryz.z156t,Tryz.z156g⟩
theorem Tryz.z156:Lays.n156 Tryz.prog Tryz.z156r where
 mixed:=by kernel_rfl
 f156:=by kernel_rfl
 f165:=by kernel_rfl
 f166:=by kernel_rfl
 f169:=by kernel_rfl
 f240:=by kernel_rfl
 f241:=by kernel_rfl
 f276:=by kernel_rfl
 f277:=by kernel_rfl
 t0:=Tryz.underlying0
 a0:=Tryz.isAgg0
 z0:=Tryz.sizeOf0
 v0:=Tryz.zeroValue0
 t3:=Tryz.underlying3
 a3:=Tryz.isAgg3
 z3:=Tryz.sizeOf3
 v3:=Tryz.zeroValue3
 t4:=Tryz.underlying4
 a4:=Tryz.isAgg4
 z4:=Tryz.sizeOf4
 v4:=Tryz.zeroValue4
 t9:=Tryz.underlying9
 a9:=Tryz.isAgg9
 z9:=Tryz.sizeOf9
 v9:=Tryz.zeroValue9
 t20:=Tryz.underlying20
 a20:=Tryz.isAgg20
 z20:=Tryz.sizeOf20
 v20:=Tryz.zeroValue20
 t31:=Tryz.underlying32
 a31:=Tryz.isAgg32
 z31:=Tryz.sizeOf32
 v31:=Tryz.zeroValue32
 t37:=Tryz.underlying74
 a37:=Tryz.isAgg74
 z37:=Tryz.sizeOf74
 v37:=Tryz.zeroValue74
 t70:=Tryz.underlying87
 a70:=Tryz.isAgg87
 z70:=Tryz.sizeOf87
 v70:=Tryz.zeroValue87
 t72:=Tryz.underlying89
 a72:=Tryz.isAgg89
 z72:=Tryz.sizeOf89
 v72:=Tryz.zeroValue89
 t75:=Tryz.underlying92
 a75:=Tryz.isAgg92
 z75:=Tryz.sizeOf92
 v75:=Tryz.zeroValue92
 t76:=Tryz.underlying93
 a76:=Tryz.isAgg93
 z76:=Tryz.sizeOf93
 v76:=Tryz.zeroValue93
 t127:=Tryz.underlying107
 a127:=Tryz.isAgg107
 z127:=Tryz.sizeOf107
 v127:=Tryz.zeroValue107
 t164:=Tryz.underlying119
 a164:=Tryz.isAgg119
 z164:=Tryz.sizeOf119
 v164:=Tryz.zeroValue119
theorem Tryz.z156x:Builder.Extra Tryz.prog Tryz.z156r where
 sizeBuilder:=by kernel_rfl
 liesBuilder:=by kernel_rfl
 t5:=by kernel_rfl
 a5:=Tryz.isAgg5
 z5:=Tryz.sizeOf5
 v5:=Tryz.zeroValue5
 infoByte:=by kernel_rfl
 cellsByte:=by kernel_rfl
 sizeByte:=by kernel_rfl
 neB5:=by decide
end Go.Proofs
namespace Go.Vm
open Go Go.RowKit Go.Proofs
def eY (fn:Func):Bool:=!(fn.name == "runtime.NumGoroutine") && (match fn.body with | some c=>Di c | none=>true)
theorem v8:E.P.funcs.toList.all eY=true:=by kernel_rfl
theorem LU:∀ args v,wT args=some v→∀ (K:Cx) (base:Nat) (h:AG) (cargs:Array Value),Ar K base h→VRels K args cargs.toList→∀ N,CallsIn Fence.wide N E.P 131 cargs K.w (Ce K base h K.c v):=pE fun args v hv=>by
 unfold wT at hv
 split at hv
 · rename_i a b
   cases hv
   exact⟨a,b,_,rfl,rfl,fun w=>(Go.Proofs.Any.bytealg_CompareString Go.Proofs.Tryz.z213 a b w).mono fun e w' ⟨h1,h2⟩=>⟨h1,h2 ▸ Below.refl _ _⟩⟩
 · cases hv
theorem Pn:∀ args v,yL args=some v→∀ (K:Cx) (base:Nat) (h:AG) (cargs:Array Value),Ar K base h→VRels K args cargs.toList→∀ N,CallsIn Fence.wide N E.P 123 cargs K.w (Ce K base h K.c v):=vS fun args v hv=>by
 unfold yL at hv
 split at hv
 · rename_i a c
   cases hv
   exact⟨a,.u8,c,_,rfl,rfl,fun w=>(Go.Proofs.Any.strings_IndexByte Go.Proofs.Tryz.z137 a c w).mono fun e w' ⟨h1,h2⟩=>⟨h1,h2 ▸ Below.refl _ _⟩⟩
 · cases hv
theorem M1:∀ args v,uV args=some v→∀ (K:Cx) (base:Nat) (h:AG) (cargs:Array Value),Ar K base h→VRels K args cargs.toList→∀ N,CallsIn Fence.wide N E.P 53 cargs K.w (Ce K base h K.c v):=pE fun args v hv=>by
 unfold uV at hv
 split at hv
 · rename_i a b
   split at hv
   · rename_i h
     cases hv
     simp only[Bool.and_eq_true,decide_eq_true_eq] at h
     have z:=zero_of_info (P:=E.P) (t:=Go.Proofs.Tryz.z150r.t 116) (v:=.agg (Array.replicate 256 (.bool false))) (n:=256) (by kernel_rfl)
     exact⟨a,b,_,rfl,rfl,fun w=>Go.Proofs.Any.strings_ContainsAny Go.Proofs.Tryz.z150 z.1 z.2 a b w (by rw[Lib.size_eq]; exact h.1.2) (by rw[Lib.size_eq]; exact h.2) (lH h.1.1.1) (lH h.1.1.2)⟩
   · cases hv
 · cases hv
theorem V4:∀ args v,V3 args=some v→∀ (K:Cx) (base:Nat) (h:AG) (cargs:Array Value),Ar K base h→VRels K args cargs.toList→∀ N,CallsIn Fence.wide N E.P 44 cargs K.w (Ce K base h K.c v):=pW (fun a c sep w=>Go.Proofs.Any.strings_Join_none Go.Proofs.Tryz.z156 Go.Proofs.Tryz.z156x a c sep w) (fun bk o c xs sep w h1 h2 h3 h4 h5=>Go.Proofs.Any.strings_Join Go.Proofs.Tryz.z156 Go.Proofs.Tryz.z156x bk o c xs sep w h1 h2 h3 h4 h5)
theorem y9:RG E:=by
 have key:∀ (f:FuncId) (fn:Func),E.P.funcs[f]? = some fn→eY fn=true:=fun f fn hf=>by
  have:=List.all_eq_true.1 v8 fn (by
   obtain⟨h1,h2⟩:=Array.getElem?_eq_some_iff.1 hf
   rw[← h2]
   simp)
  exact this
 refine⟨fun f fn hf=>?_,fun f fn c hf hc=>?_,fun g p hp=>?_,fun g p hp=>?_⟩
 · have:=key f fn hf
   unfold eY at this
   rw[Bool.and_eq_true] at this
   simpa using this.1
 · have:=key f fn hf
   unfold eY at this
   rw[Bool.and_eq_true,hc] at this
   exact this.2
 · simp only[E] at hp
   split at hp
   · rename_i hg
     subst hg
     cases hp
     exact⟨⟨Go.Proofs.Tryz.f131,by kernel_rfl,by kernel_rfl⟩,LU⟩
   · skip
     split at hp
     · rename_i hg
       subst hg
       cases hp
       exact⟨⟨Go.Proofs.Tryz.f123,by kernel_rfl,by kernel_rfl⟩,Pn⟩
     · skip
       split at hp
       · rename_i hg
         subst hg
         cases hp
         exact⟨⟨Go.Proofs.Tryz.f53,by kernel_rfl,by kernel_rfl⟩,M1⟩
       · skip
         cases hp
 · simp only[E] at hp
   split at hp
   · rename_i hg
     subst hg
     cases hp
     exact⟨⟨Go.Proofs.Tryz.f44,by kernel_rfl,by kernel_rfl⟩,qR V4⟩
   · skip
     cases hp
theorem uR {g:FuncId} {vs vs':List AV} {m:Option Bool} (hc:Ct E g vs m (fun r=>bv r)) (hm:m=some true) (hp:E.prim g=none) (hpf:E.pf g=true) (hv:Ac (VLe Rn.nil) vs vs') (hs:BJ (BN AG.nil depth) vs' = some (vs',false)) (w:World) (hG:∀ q,q∈glb→q.1 < w.heap.size∧∃ cs T fz,w.heap[q.1]? = some (.cells cs T fz)∧q.2 cs) {cargs:Array Value}
 (hr:VRels { w:=w,ι:=fun _=>(0,0,0),L:=fun _=>False,X:=fun _=>False,c:=0 } vs' cargs.toList) :
 Calls E.P g cargs w fun e w'=>e = .returned (.bool true)∧w'.os=w.os∧w'.tape=w.tape∧w'.output=w.output∧w.heap.size≤w'.heap.size∧(∀ b,b < w.heap.size→w'.heap[b]? = w.heap[b]?):=by
 obtain⟨u,h1,h2⟩:=hc true hm vs' hv AG.nil 0
 have hu:=h2.s_inv
 subst hu
 unfold BI at h1
 rw[hp] at h1
 simp only[hpf,if_true,hs] at h1
 cases hcl:(Ey E).call g vs' AG.nil 0 with
 | none=>rw[hcl] at h1; cases h1
 | some q=>
  obtain⟨v,h3,n3⟩:=q
  rw[hcl] at h1
  simp only at h1
  cases hsn:BN h3 depth v with
  | none=>rw[hsn] at h1; cases h1
  | some q2=>
   obtain⟨v',b2⟩:=q2
   rw[hsn] at h1
   simp only[Bool.false_and,Bool.false_eq_true,if_false,Option.some.injEq,Prod.mk.injEq] at h1
   obtain⟨k,hk⟩:=HE.1 hcl
   have hpc:oL E k g vs' = some (bv true):=by
    unfold oL
    rw[hk]
    simp only[hsn,h1.1]
   refine (jP y9 (fun r=>nO r) hpc w hG hr).mono ?_
   rintro e w' ⟨cv,h4,h5,h6,h7,h8,h9,h10⟩
   simp only[AU] at h10
   subst h10
   exact⟨h4,h5,h6,h7,h8,h9⟩
end Go.Vm
namespace Go.Vm
open Go
structure Nd {H:Type} (f:DataW H→Nat) (g:List (DataW H)→Nat):Prop where
 nil:g []=0
 cons:∀ d r,g (d :: r)=f d + g r
 pos:∀ d,1≤f d
 str:∀ l,f (.lit (.string l))=l.length + 1
 slice:∀ e s,f (.slice e s)=g e + g s + 1
 agg:∀ p,f (.agg p)=g p + 1
theorem Nd.sum {H:Type} {f:DataW H→Nat} {g:List (DataW H)→Nat} (B:Nd f g):∀ l,g l=(l.map f).sum
 | []=>B.nil
 | d :: r=>by rw[B.cons,B.sum r]; rfl
def Kw (W:World):Cx:={ w:=W,ι:=fun _=>(0,0,0),L:=fun _=>False,X:=fun _=>False,c:=0 }
def aR:AV→Bool
 | .s _=>true
 | .fsl ..=>true
 | .esl=>true
 | _=>false
theorem XK {h:AG} {k:Nat} {c:AV} (hc:aR c=true):BN h k c=some (c,false):=by
 cases c <;> first | (cases k <;> rfl) | cases hc
theorem Vw {h:AG} {k:Nat}:∀ {cs:List AV},cs.all aR=true→BJ (BN h k) cs=some (cs,false)
 | [],_=>rfl
 | c :: cs,hc=>by
  simp only[List.all_cons,Bool.and_eq_true] at hc
  simp only[BJ,XK hc.1,Vw hc.2,Bool.or_self]
def jW:AV→Bool
 | .agg cs=>cs.all aR
 | c=>aR c
theorem mG {h:AG} {k:Nat} {c:AV} (hc:jW c=true):BN h (k + 1) c=some (c,false):=by
 unfold jW at hc
 split at hc
 · simp only[BN,Vw hc,Option.map_some]
 · exact XK hc
theorem lZ (h:AG):BJ (BN h depth) []=some ([],false):=rfl
theorem iK {h:AG} {c:AV} {cs:List AV} (hc:jW c=true) (hs:BJ (BN h depth) cs=some (cs,false)):BJ (BN h depth) (c :: cs)=some (c :: cs,false):=by
 have h1:BN h depth c=some (c,false):=mG hc
 simp only[BJ,h1,hs,Bool.or_self]
section
variable {H:Type} {P:Program} {f:DataW H→Nat} {g:List (DataW H)→Nat}
structure Rd (P:Program) (f:DataW H→Nat) (t:TypeId) (n:Nat) {α:Type} (en:α→List AV) (ok:α→Prop) (μ:α→Nat):Prop where
 read:∀ {enc:TypeId × Value→H} {W:World} {fuel:Nat} {cs:List Value} {d:DataW H} {pl:List MemPlace},DataW.trod enc P W 0 (fun _=>true) true fuel t cs=some (d,pl) →
  ∃ x a,VRels (Kw W) a cs∧Ac (VLe Rn.nil) (en x) a∧a.all aR=true∧ok x∧μ x≤f d∧cs.length=n∧(∀ v∈cs,v.oneCell' = true)
theorem Rd.str (B:Nd f g) {t:TypeId} (ht:P.underlying t=some .string):Rd P f t 1 (fun x:Str=>[bs x]) (fun _=>True) (fun x=>x.length + 1) where
 read h:=by
  obtain⟨s,rfl,e,_⟩:=DataW.trod_string ht h
  obtain⟨rfl,rfl⟩:=Prod.mk.inj e
  exact⟨s.data.toList,[.s (.string s)],by simp[VRels,AU],⟨VLe.s_refl _,trivial⟩,rfl,trivial,by rw[B.str]; exact Nat.le_refl _,rfl,by simp; rfl⟩
theorem Rd.int (B:Nd f g) {t:TypeId} {k:IntKind} (ht:P.underlying t=some (.int k)):Rd P f t 1 (fun x:Int=>[.s (.int k x)]) (fun x=>(Lit.int k x).wf=true) (fun _=>1) where
 read h:=by
  obtain⟨n,rfl,e,w⟩:=DataW.trod_int ht h
  obtain⟨rfl,rfl⟩:=Prod.mk.inj e
  exact⟨n,[.s (.int k n)],by simp[VRels,AU],⟨VLe.s_refl _,trivial⟩,rfl,w,B.pos _,rfl,by simp; rfl⟩
theorem Rd.bool (B:Nd f g) {t:TypeId} (ht:P.underlying t=some .bool):Rd P f t 1 (fun x:Bool=>[bv x]) (fun _=>True) (fun _=>1) where
 read h:=by
  obtain⟨n,rfl,e⟩:=DataW.trod_bool ht h
  obtain⟨rfl,rfl⟩:=Prod.mk.inj e
  exact⟨n,[bv n],by simp[VRels,AU],⟨VLe.s_refl _,trivial⟩,rfl,trivial,B.pos _,rfl,by simp; rfl⟩
theorem VRels.len {K:Cx}:∀ {a:List AV} {x:List Value},VRels K a x→a.length=x.length
 | [],[],_=>rfl
 | _ :: a,_ :: x,h=>by simp only[List.length_cons]; rw[VRels.len (a:=a) (x:=x) (by simp only[VRels] at h; exact h.2)]
 | [],_ :: _,h=>by simp[VRels] at h
 | _ :: _,[],h=>by simp[VRels] at h
theorem o7 {W:World} {b:Nat}:∀ {a:List AV} {cs:List Value} {o:Nat},VRels (Kw W) a cs→(∀ i,i < cs.length→W.cell? ⟨b,o + i,none⟩=cs[i]?)→(∀ v∈cs,v.oneCell' = true)→CRel (Kw W) b o a
 | [],_,_,_,_,_=>by simp[CRel]
 | c :: a,[],_,h,_,_=>by simp[VRels] at h
 | c :: a,v :: cs,o,h,hc,h1=>by
  simp only[VRels] at h
  have h0:=hc 0 (by simp)
  simp only[Nat.add_zero,List.getElem?_cons_zero] at h0
  refine⟨⟨v,⟨?_,id,id⟩,h0,h1 v List.mem_cons_self,h.1⟩,o7 h.2 (fun i hi=>?_) fun u hu=>h1 u (List.mem_cons_of_mem _ hu)⟩
  · unfold World.cell? at h0
    split at h0
    · rename_i e
      exact (Array.getElem?_eq_some_iff.1 e).1
    · cases h0
  · have:=hc (i + 1) (by simp; omega)
    rw[Nat.add_assoc,Nat.add_comm 1 i,this]
    rfl
theorem Rd.slice (B:Nd f g) {t e:TypeId} {n:Nat} {α:Type} {en:α→List AV} {ok:α→Prop} {μ:α→Nat} (R:Rd P f e n en ok μ) (ht:P.underlying t=some (.slice e)) (hn:P.cellsOf e=n) (h0:0 < n) :
 Rd P f t 1 (fun x:List α=>[.fsl n (x.map en)]) (fun x=>∀ y∈x,ok y) (fun x=>(x.map μ).sum + 1) where
 read {enc W fuel cs d pl} h:=by
  rcases Deep.open_slice ht h with ⟨rfl,e'⟩ | ⟨a,len,cap,m,k,D,Pl,rfl,_,hl,_,hm,e',hx⟩
  · obtain⟨rfl,rfl⟩:=Prod.mk.inj e'
    exact⟨[],[Af],by simp[VRels,AU],⟨VLe.fsl_iff.2 (.inr ⟨rfl,.inl rfl⟩),trivial⟩,rfl,by simp,by simpa using B.pos _,rfl,by simp; rfl⟩
  · obtain⟨rfl,rfl⟩:=Prod.mk.inj e'
    have hlm:len≤m:=by rw[hm]; simpa using hl
    subst hn
    have hspot:0 < len→a.spot=none:=fun hp=>by
     obtain⟨cs',h1,h2⟩:=hx 0 (by omega)
     obtain⟨_,hlen,hc⟩:=World.cells?_some h1
     have:=hc 0 h0
     rw[List.getElem?_eq_getElem (by omega)] at this
     simp only[Nat.zero_mul,Addr.add,if_true] at this
     unfold World.cell? at this
     split at this
     · split at this
       · cases this
       · rename_i q; simpa using q
     · cases this
    obtain⟨ab,ao,sp⟩:=a
    have key:∀ j i,i + j=len→∃ (xs:List α) (rows:List (List AV)),RRel (Kw W) ab (ao + i * P.cellsOf e) (P.cellsOf e) rows∧Ac (Ac (VLe Rn.nil)) (xs.map en) rows∧xs.length=j∧(∀ x∈xs,ok x)∧(xs.map μ).sum≤((List.range' i j).map fun q=>f (D q)).sum:=by
     intro j
     induction j with
     | zero=>intro i _; exact⟨[],[],by simp[RRel],trivial,rfl,by simp,by simp⟩
     | succ j ih=>
      intro i hij
      obtain rfl:sp=none:=hspot (by omega)
      obtain⟨xs,rows,r1,r0,r2,r3,r4⟩:=ih (i + 1) (by omega)
      obtain⟨cs',h1,h2⟩:=hx i (by omega)
      obtain⟨x,a,x1,x0,_,x2,x3,x4,x5⟩:=R.read h2
      obtain⟨_,hlen,hc⟩:=World.cells?_some h1
      refine⟨x :: xs,a :: rows,?_,⟨x0,r0⟩,by simp[r2],by simpa using ⟨x2,r3⟩,?_⟩
      · simp only[RRel]
        refine⟨by rw[x1.len,x4],o7 x1 (fun q hq=>?_) x5,?_⟩
        · have:=hc q (by omega)
          rw[WideShapes.add_plain,WideShapes.add_plain] at this
          exact this
        · rw[Nat.add_assoc,show i * P.cellsOf e + P.cellsOf e=(i + 1) * P.cellsOf e by rw[Nat.add_mul,Nat.one_mul]]
          exact r1
      · simp only[List.map_cons,List.sum_cons,List.range'_succ]
        omega
    obtain⟨xs,rows,r1,r0,r2,r3,r4⟩:=key len 0 (by omega)
    have rl:rows.length=len:=by rw[r0.length,List.length_map,r2]
    refine⟨xs,[.fsl (P.cellsOf e) rows],?_,⟨VLe.fsl_iff.2 (.inl ⟨rows,rfl,r0⟩),trivial⟩,rfl,r3,?_,rfl,by simp; rfl⟩
    · simp only[VRels,AU,and_true,rl]
      refine⟨some ⟨ab,ao,sp⟩,cap,rfl,by simp,hl,?_⟩
      rcases Nat.eq_zero_or_pos len with hz | hp
      · left
        exact List.length_eq_zero_iff.1 (by omega)
      · right
        obtain rfl:sp=none:=hspot hp
        exact⟨ab,ao,rfl,by rw[Nat.zero_mul,Nat.add_zero] at r1; exact r1⟩
    · rw[B.slice,B.sum,List.map_map,List.range_eq_range']
      have:(List.map (f ∘ D) (List.range' 0 len)).sum=((List.range' 0 len).map fun q=>f (D q)).sum:=rfl
      omega
structure Rds (P:Program) (f:DataW H→Nat) (g:List (DataW H)→Nat) (fs:List Field) (o n:Nat) {α:Type} (en:α→List AV) (ok:α→Prop) (μ:α→Nat):Prop where
 read:∀ {enc:TypeId × Value→H} {W:World} {fuel:Nat} {cs:List Value} {xs:List (DataW H × List MemPlace)},xs.length=fs.length→o + n≤cs.length →
  (∀ (i:Nat) (fd:Field),fs[i]? = some fd→DataW.trod enc P W 0 (fun _=>true) true fuel fd.type ((cs.drop fd.offset).take (P.cellsOf fd.type))=xs[i]?) →
  ∃ x a,VRels (Kw W) a ((cs.drop o).take n)∧Ac (VLe Rn.nil) (en x) a∧a.all aR=true∧ok x∧μ x≤g (xs.map (·.1))∧(∀ v∈(cs.drop o).take n,v.oneCell' = true)
theorem Rds.nil (o:Nat):Rds P f g [] o 0 (fun _:Unit=>[]) (fun _=>True) (fun _=>0) where
 read _ _ _:=⟨(),[],by simp[VRels],trivial,rfl,trivial,Nat.zero_le _,by simp⟩
theorem Rds.cons (B:Nd f g) {fd:Field} {fs:List Field} {o n1 n2:Nat} {α β:Type} {e1:α→List AV} {ok1:α→Prop} {μ1:α→Nat} {e2:β→List AV} {ok2:β→Prop} {μ2:β→Nat} (R1:Rd P f fd.type n1 e1 ok1 μ1) (R2:Rds P f g fs (o + n1) n2 e2 ok2 μ2) (ho:fd.offset=o) (hn:P.cellsOf fd.type=n1) :
 Rds P f g (fd :: fs) o (n1 + n2) (fun x:α × β=>e1 x.1 ++ e2 x.2) (fun x=>ok1 x.1∧ok2 x.2) (fun x=>μ1 x.1 + μ2 x.2) where
 read {enc W fuel cs xs} hl hc h:=by
  cases xs with
  | nil=>simp at hl
  | cons y xs=>
   have h0:=h 0 fd rfl
   simp only[List.getElem?_cons_zero,ho,hn] at h0
   obtain⟨x1,l1,a1,a0,az,a2,a3,a4,a5⟩:=R1.read (d:=y.1) (pl:=y.2) h0
   obtain⟨x2,l2,b1,b0,bz,b2,b3,b5⟩:=R2.read (enc:=enc) (W:=W) (fuel:=fuel) (cs:=cs) (xs:=xs) (by simpa using hl) (by omega) (fun i fd' h'=>by have:=h (i + 1) fd' (by simpa using h'); simpa using this)
   have e:(cs.drop o).take (n1 + n2)=(cs.drop o).take n1 ++ (cs.drop (o + n1)).take n2:=by rw[List.take_add,List.drop_drop]
   refine⟨(x1,x2),l1 ++ l2,?_,a0.append b0,by rw[List.all_append,az,bz]; rfl,⟨a2,b2⟩,?_,?_⟩
   · rw[e]; exact a1.append b1
   · simp only[List.map_cons]; rw[B.cons]; omega
   · rw[e]
     intro v hv
     rcases List.mem_append.1 hv with hv | hv
     · exact a5 v hv
     · exact b5 v hv
theorem Rd.struct (B:Nd f g) {t:TypeId} {fs:Array Field} {n:Nat} {α β:Type} {en:α→List AV} {ok:α→Prop} {μ:α→Nat} (R:Rds P f g fs.toList 0 n en ok μ) (ht:P.underlying t=some (.struct fs)) (hn:P.cellsOf t=n) (mk:α→β) (hs:∀ y,∃ x,mk x=y) {en':β→List AV} (he:∀ x,en' (mk x)=en x) {ok':β→Prop} (hk:∀ x,ok x→ok' (mk x)) {μ':β→Nat} (hm:∀ x,μ' (mk x)≤μ x + 1) :
 Rd P f t n en' ok' μ' where
 read {enc W fuel cs d pl} h:=by
  obtain⟨xs,k,_,e,hl,hx,hf⟩:=DataW.trod_struct ht h
  obtain⟨rfl,rfl⟩:=Prod.mk.inj e
  obtain⟨x,a,h1,h0,hz,h2,h3,h4⟩:=R.read (enc:=enc) (W:=W) (fuel:=k) (cs:=cs) (xs:=xs) (by simpa using hx) (by omega) (fun i fd h'=>hf i fd (by simpa using h'))
  rw[List.drop_zero,List.take_of_length_le (by omega)] at h1 h4
  refine⟨mk x,a,h1,by rw[he]; exact h0,hz,hk x h2,?_,by omega,h4⟩
  rw[B.agg]
  have:=hm x
  omega
theorem Rd.arg1 {t:TypeId} {α:Type} {c:α→AV} {ok:α→Prop} {μ:α→Nat} (R:Rd P f t 1 (fun x=>[c x]) ok μ) {enc:TypeId × Value→H} {W:World} {v:Value} {d:DataW H} {pl:List MemPlace} (hv:v.cells = #[v]) (h:DataW.Trod enc P W 0 (fun _=>true) true t v d pl) :
 ∃ x b,AU (Kw W) b v∧ok x∧μ x≤f d∧VLe Rn.nil (c x) b∧jW b=true:=by
 obtain⟨fuel,h⟩:=h
 obtain⟨x,a,h1,h0,hz,h2,h3,_⟩:=R.read h
 rw[hv] at h1
 match a,h0 with
 | [b],h0=>
  simp only[VRels,and_true] at h1
  simp only[List.all_cons,List.all_nil,Bool.and_true] at hz
  refine⟨x,b,h1,h2,h3,h0.1,?_⟩
  unfold jW
  split
  · cases hz
  · exact hz
 | [],h0=>exact h0.elim
 | _ :: _ :: _,h0=>exact h0.2.elim
theorem fA {P:Program} {W:World} {r:Reach} {b:Nat} {t:TypeId} {v:Value} (ht:P.underlying t=some .string) (h:Value.okWide P W r b t v):v.cells = #[v]:=by
 unfold Value.okWide Cell.okWide Cell.ok at h
 rw[ht] at h
 cases v <;> first | rfl | simp at h
theorem aK {enc:TypeId × Value→H} (hl:laidOutB P=true) {W W':World} (hb:RowKit.Below W.heap.size W W') {sp:Nat→Bool}:∀ {ts:List TypeId} {vs:List Value} {ds:List (DataW H)} {ps:List MemPlace},(∀ t∈ts,P.readableRec t=true∧t < P.types.size)→DataW.TrodAll enc P W 0 (fun _=>true) true ts vs ds ps→(∀ x∈ps,x.block < W.heap.size)→(∀ x∈ps,sp x.block=true) →
 DataW.TrodAll enc P W' 0 sp true ts vs ds ps
 | [],[],[],_,_,h,_,_=>h
 | t :: ts,v :: vs,d :: ds,ps,hr,h,h1,h2=>by
  obtain⟨p,q,h3,h4,rfl⟩:=h
  exact⟨p,q,WideElems.Trod_stays hl (hr t List.mem_cons_self).1 (hr t List.mem_cons_self).2 h3 (fun x hx=>hb.same (h1 x (List.mem_append_left _ hx))) (fun x hx=>h2 x (List.mem_append_left _ hx)),
   aK hl hb (fun u hu=>hr u (List.mem_cons_of_mem _ hu)) h4 (fun x hx=>h1 x (List.mem_append_right _ hx)) (fun x hx=>h2 x (List.mem_append_right _ hx)),rfl⟩
 | [],_ :: _,_,_,_,h,_,_=>h.elim
 | [],[],_ :: _,_,_,h,_,_=>h.elim
 | _ :: _,[],_,_,_,h,_,_=>h.elim
 | _ :: _,_ :: _,[],_,_,h,_,_=>h.elim
end
end Go.Vm
namespace Go.Vm
open Go
section
variable {σ τ:Type} {f:σ→Option (Step σ τ)}
theorem Jr {x y:σ} (h:f x=some (.next y)):Bi f x=Bi f y:=by rw[j1,h]; rfl
theorem DQ {x:σ} {t:τ} (h:f x=some (.done t)):Bi f x=some t:=by rw[j1,h]; rfl
theorem Cw (I:σ→Prop) (μ:σ→Nat) (g:σ→τ) (h:∀ x,I x→f x=some (.done (g x))∨∃ y,f x=some (.next y)∧I y∧μ y < μ x∧g y=g x) {x:σ} (hx:I x):Bi f x=some (g x):=by
 have key:∀ n x,I x→μ x≤n→Bi f x=some (g x):=by
  intro n
  induction n with
  | zero=>
   intro x hx hn
   rcases h x hx with h1 | ⟨y,_,_,h3,_⟩
   · exact DQ h1
   · omega
  | succ n ih=>
   intro x hx hn
   rcases h x hx with h1 | ⟨y,h1,h2,h3,h4⟩
   · exact DQ h1
   · rw[Jr h1,ih y h2 (by omega),h4]
 exact key _ x hx (Nat.le_refl _)
theorem rH (I:σ→Prop) (μ:σ→Nat) (P:τ→Prop) (h:∀ x,I x→(∃ t,f x=some (.done t)∧P t)∨∃ y,f x=some (.next y)∧I y∧μ y < μ x) {x:σ} (hx:I x):∃ t,Bi f x=some t∧P t:=by
 have key:∀ n x,I x→μ x≤n→∃ t,Bi f x=some t∧P t:=by
  intro n
  induction n with
  | zero=>
   intro x hx hn
   rcases h x hx with ⟨t,h1,h2⟩ | ⟨y,_,_,h3⟩
   · exact⟨t,DQ h1,h2⟩
   · omega
  | succ n ih=>
   intro x hx hn
   rcases h x hx with ⟨t,h1,h2⟩ | ⟨y,h1,h2,h3⟩
   · exact⟨t,DQ h1,h2⟩
   · rw[Jr h1]
     exact ih y h2 (by omega)
 exact key _ x hx (Nat.le_refl _)
end
theorem CK {x:Int} (h1 : -9223372036854775808≤x) (h2:x≤9223372036854775807):w64 x=x:=xY h1 h2
theorem P8 {s:Str} {i:Nat} (h:i < s.length):idx s (i:Int)=some (s[i].toNat:Int):=by
 unfold idx
 rw[if_pos (by omega),Int.toNat_natCast,List.getElem?_eq_getElem h]
 rfl
theorem Eb {α:Type} {l:List α} {i:Nat} (h:i < l.length):ixl l (i:Int)=some l[i]:=by
 unfold ixl
 rw[if_pos (by omega),Int.toNat_natCast,List.getElem?_eq_getElem h]
theorem Od {α:Type} {l:List α} {i j:Nat} (h1:i≤j) (h2:j≤l.length):Fj l (i:Int) (j:Int)=some ((l.drop i).take (j - i)):=by
 unfold Fj
 rw[if_pos ⟨by omega,by omega,by omega⟩]
 rfl
theorem Ul {α:Type} {l:List α} {i:Nat} (h:i≤l.length):Fj l (i:Int) (l.length:Int)=some (l.drop i):=by
 rw[Od h (Nat.le_refl _),List.take_of_length_le (by simp)]
theorem Uz {α:Type} {l:List α} {j:Nat} (h:j≤l.length):Fj l 0 (j:Int)=some (l.take j):=by
 have:=Od (l:=l) (i:=0) (j:=j) (Nat.zero_le _) h
 simpa using this
theorem HO (a c:UInt8):((a.toNat:Int) == (c.toNat:Int))=(a == c):=xR
theorem sJ {a b:Str} (h:a.length + b.length≤9223372036854775807):cat a b=some (a ++ b):=by
 unfold cat; rw[if_pos h]
theorem xU {s:Str} (h:s.length≤9223372036854775807):tob s=some (s.map fun c=>(c.toNat:Int)):=by
 unfold tob; rw[if_pos h]
theorem dD {α:Type} {b:Nat} {l m:List α} (h1:(l.length + m.length) * b≤140737488355328) (h2:l.length + m.length≤9223372036854775807):app b l m=some (l ++ m):=by
 unfold app; rw[if_pos ⟨h1,h2⟩]
def C7 (p:UInt8→Bool) (s:Str) (i:Nat):Nat:=i + ((s.drop i).takeWhile p).length
theorem Wy {p:UInt8→Bool} {s:Str} {i:Nat} (h:i≤s.length):C7 p s i≤s.length:=by
 unfold C7
 have:=(List.takeWhile_prefix p (l:=s.drop i)).length_le
 simp only[List.length_drop] at this
 omega
theorem Wx (p:UInt8→Bool) (s:Str) (i:Nat):i≤C7 p s i:=by unfold C7; omega
theorem iA (p:UInt8→Bool) (s:Str):C7 p s s.length=s.length:=by simp[C7]
theorem kM {p:UInt8→Bool} {s:Str} {i:Nat} (h:i < s.length) (hp:p s[i]=true):C7 p s i=C7 p s (i + 1):=by
 unfold C7
 rw[List.drop_eq_getElem_cons h,List.takeWhile_cons_of_pos hp,List.length_cons]
 omega
theorem oJ {p:UInt8→Bool} {s:Str} {i:Nat} (h:i < s.length) (hp:p s[i]=false):C7 p s i=i:=by
 unfold C7
 rw[List.drop_eq_getElem_cons h,List.takeWhile_cons_of_neg (by simp[hp])]
 simp
theorem rP {f:Int→Option (Step Int Int)} {p:UInt8→Bool} {s:Str} (hend:f (s.length:Int)=some (.done (s.length:Int))) (hstep:∀ (i:Nat) (h:i < s.length),f (i:Int)=if p s[i]=true then some (.next ((i + 1:Nat):Int)) else some (.done (i:Int))) {i:Nat} (hi:i≤s.length) :
 Bi f (i:Int)=some (C7 p s i:Int):=by
 have:=Cw (f:=f) (fun x=>∃ i:Nat,x=i∧i≤s.length) (fun x=>s.length - x.toNat) (fun x=>(C7 p s x.toNat:Int)) (fun x hx=>by
  obtain⟨i,rfl,hi⟩:=hx
  simp only[Int.toNat_natCast]
  rcases Nat.lt_or_ge i s.length with h | h
  · cases hp:p s[i] with
    | true=>
     right
     refine⟨((i + 1:Nat):Int),by rw[hstep i h,if_pos hp],⟨i + 1,rfl,h⟩,by rw[Int.toNat_natCast]; omega,?_⟩
     rw[Int.toNat_natCast,kM h hp]
    | false=>left; rw[hstep i h,hp,oJ h hp]; rfl
  · have:i=s.length:=by omega
    subst this
    left
    rw[hend,iA]) (x:=(i:Int)) ⟨i,rfl,hi⟩
 simpa using this
end Go.Vm
namespace Go.Vm
open Go
def SU (c:UInt8):Bool:=c == 48
def J4 (s:Str):Str:=if s.dropWhile SU=[] then [48] else s.dropWhile SU
theorem Wg (s:Str) (hs:s.length≤4611686018427387904):B2 s 48=some (s.dropWhile SU):=by
 unfold B2
 rw[Cw (fun x=>x.length≤4611686018427387904) (fun x=>x.length) (fun x=>x.dropWhile SU) (fun x hx=>?_) hs]
 · rfl
 · cases x with
   | nil=>left; simp[B3]
   | cons c x=>
    have h0:idx (c :: x) 0=some (c.toNat:Int):=P8 (s:=c :: x) (i:=0) (by simp)
    have h1:Fj (c :: x) 1 ((c :: x).length:Int)=some x:=by
     have:=Ul (l:=c :: x) (i:=1) (by simp)
     simpa using this
    have h2:((c.toNat:Int) == 48)=SU c:=HO c 48
    cases hc:SU c with
    | true=>
     right
     refine⟨x,?_,by simp only[List.length_cons] at hx; omega,by simp,by rw[List.dropWhile_cons_of_pos hc]⟩
     unfold B3
     rw[h0,h1]
     simp only[List.length_cons,Option.bind_some,h2,hc]
     rw[if_pos (by simp; try omega)]
     rfl
    | false=>
     left
     unfold B3
     rw[h0]
     simp only[List.length_cons,Option.bind_some,h2,hc,List.dropWhile_cons]
     rw[if_pos (by simp; try omega)]
     rfl
theorem FD (s:Str) (hs:s.length≤4611686018427387904):DF s=some (J4 s):=by
 unfold DF Cs
 have h1:(if ((s == []) && true)=true then some s else Option.bind (B2 s 48) (fun x1=>some x1))=some (s.dropWhile SU):=by
  cases s with
  | nil=>simp
  | cons c s=>
   rw[if_neg (by simp),Wg _ hs]
   rfl
 rw[h1]
 simp only[Option.bind_some,J4,beq_iff_eq]
 split <;> rfl
theorem bF (s:Str):(J4 s).length≤s.length + 1:=by
 unfold J4
 split
 · simp
 · exact Nat.le_succ_of_le (List.dropWhile_suffix _).length_le
def RX (a b:Int):Int:=if a < b then -1 else if b < a then 1 else 0
theorem Fm (a b:Int):Co a b=some (RX a b):=by
 have h:∀ x:Int,EV x=some false:=fun x=>by simp[EV]
 unfold Co RX
 rw[h,h]
 simp only[Option.bind_some,Bool.false_eq_true,if_false,decide_eq_true_eq,gt_iff_lt]
 split
 · rfl
 · split <;> rfl
theorem Q3 (l:List Int) (hl:l.length≤4611686018427387904):G6 l=some ((l.find? (· != 0)).getD 0):=by
 unfold G6
 have:=Cw (f:=FV l) (fun x=>∃ i:Nat,x=i∧i≤l.length) (fun x=>l.length - x.toNat) (fun x=>match (l.drop x.toNat).find? (· != 0) with | some y=>Sum.inl y | none=>Sum.inr ()) (fun x hx=>by
  obtain⟨i,rfl,hi⟩:=hx
  simp only[Int.toNat_natCast]
  rcases Nat.lt_or_ge i l.length with h | h
  · unfold FV
    rw[if_pos (by simp; omega),Eb h,List.drop_eq_getElem_cons h]
    simp only[Option.bind_some,List.find?_cons]
    cases hc:l[i] != 0 with
    | true=>left; rfl
    | false=>
     right
     refine⟨((i + 1:Nat):Int),by rw[if_neg (by simp),CK (by omega) (by omega)]; rfl,⟨i + 1,rfl,h⟩,by rw[Int.toNat_natCast]; omega,by rw[Int.toNat_natCast]⟩
  · have:i=l.length:=by omega
    subst this
    left
    unfold FV
    rw[if_neg (by simp)]
    simp) (x:=0) ⟨0,rfl,Nat.zero_le _⟩
 rw[this]
 simp only[Option.bind_some,Int.toNat_zero,List.drop_zero]
 cases l.find? (· != 0) <;> rfl
theorem Ju (a b:Str):D6 a b=some (Lib.compareBytes a b):=rfl
def WM (a b:Str):Int:=if RX (J4 a).length (J4 b).length≠0 then RX (J4 a).length (J4 b).length else Lib.compareBytes (J4 a) (J4 b)
theorem y6 (x y:Int):(([x,y].find? (· != 0)).getD 0)=if x≠0 then x else y:=by
 by_cases h:x=0
 · subst h
   by_cases h2:y=0
   · subst h2; rfl
   · simp[h2]
 · simp[h]
theorem FI (a b:Str) (ha:a.length≤4611686018427387904) (hb:b.length≤4611686018427387904):Fk a b=some (WM a b):=by
 unfold Fk
 rw[FD a ha,FD b hb]
 simp only[Option.bind_some,Fm,Ju]
 rw[Q3 _ (by simp),y6]
 rfl
def isB (c k:Int):Bool:=
 if k=1 then decide (48≤c) && decide (c≤57)
 else if k=2 then decide (97≤c) && decide (c≤122)
 else if k=3 then decide (65≤c) && decide (c≤90)
 else if k=4 then decide (97≤c) && decide (c≤122) || decide (65≤c) && decide (c≤90)
 else if k=5 then decide (48≤c) && decide (c≤57) || decide (97≤c) && decide (c≤122) || decide (65≤c) && decide (c≤90)
 else if k=6 then c == 32 || c == 9
 else if k=7 then c == 32 || c == 9 || c == 10 || c == 13
 else false
theorem D3 (c k:Int):DZ c k=some (isB c k):=by
 unfold DZ isB
 simp only[beq_iff_eq,ge_iff_le]
 repeat (split; first | rfl | skip)
 rfl
def isP (k:Int) (c:UInt8):Bool:=isB c.toNat k
def tM (s:Str) (at' k:Int):Int:=if at' < 0∨s.length < at' then at' else (C7 (isP k) s at'.toNat:Int)
theorem Oz (s:Str) (at' k:Int) (hs:s.length≤4611686018427387904):Cq s at' k=some (tM s at' k):=by
 unfold Cq tM
 simp only[Bool.or_eq_true,decide_eq_true_eq,gt_iff_lt]
 split
 · rfl
 · rename_i h
   obtain⟨i,rfl⟩:∃ i:Nat,at' = i:=⟨at'.toNat,by omega⟩
   have:=Cw (f:=HI s i k) (fun x=>∃ j:Nat,x=j∧i + j≤s.length) (fun x=>s.length - x.toNat) (fun x=>if C7 (isP k) s (i + x.toNat)=s.length then Sum.inr () else Sum.inl (C7 (isP k) s (i + x.toNat):Int)) (fun x hx=>by
    obtain⟨j,rfl,hj⟩:=hx
    simp only[Int.toNat_natCast]
    rcases Nat.lt_or_ge (i + j) s.length with h | h
    · have hi:=P8 h
      have e:w64 ((i:Int) + (j:Int))=((i + j:Nat):Int):=by rw[CK (by omega) (by omega)]; omega
      unfold HI
      rw[if_pos (by rw[CK (by omega) (by omega)]; simp; omega),e,hi]
      simp only[Option.bind_some,D3]
      cases hc:isB s[i + j].toNat k with
      | true=>
       right
       have e2:w64 ((j:Int) + 1)=((j + 1:Nat):Int):=by rw[CK (by omega) (by omega)]; omega
       refine⟨((j + 1:Nat):Int),by rw[e2]; rfl,⟨j + 1,rfl,by omega⟩,by rw[Int.toNat_natCast]; omega,?_⟩
       rw[Int.toNat_natCast,← Nat.add_assoc,← kM h hc]
      | false=>
       left
       rw[oJ h hc,if_neg (show ¬ (i + j=s.length) by omega)]
       rfl
    · have:i + j=s.length:=by omega
      left
      unfold HI
      rw[if_neg (by rw[CK (by omega) (by omega)]; simp; omega),this,iA]
      simp) (x:=0) ⟨0,rfl,by omega⟩
   rw[this]
   simp only[Option.bind_some,Int.toNat_zero,Nat.add_zero,Int.toNat_natCast]
   by_cases he:C7 (isP k) s i=s.length
   · rw[if_pos he,he]
   · rw[if_neg he]
end Go.Vm
namespace Go.Vm
open Go
def val:Str→Nat
 | []=>0
 | c :: s=>(c.toNat - 48) * 10 ^ s.length + val s
end Go.Vm
namespace Go.Vm
open Go
def yR (c:Int):Bool:=((((isB c 5 || (c == 46)) || (c == 95)) || (c == 43)) || (c == 126)) || (c == 94)
def y8 (c:UInt8):Bool:=yR c.toNat
end Go.Vm
namespace Go.Vm
open Go
theorem Bx {p:UInt8→Bool} (l:Str):(l.dropWhile p).length≤l.length:=(List.dropWhile_suffix p).length_le
theorem oM {p:UInt8→Bool}:∀ l:Str,l.drop (l.takeWhile p).length=l.dropWhile p
 | []=>rfl
 | c :: l=>by
  cases h:p c with
  | true=>rw[List.takeWhile_cons_of_pos h,List.dropWhile_cons_of_pos h,List.length_cons,List.drop_succ_cons,oM l]
  | false=>rw[List.takeWhile_cons_of_neg (by simp[h]),List.dropWhile_cons_of_neg (by simp[h])]; rfl
theorem oP {p:UInt8→Bool}:∀ l:Str,l.take (l.takeWhile p).length=l.takeWhile p
 | []=>rfl
 | c :: l=>by
  cases h:p c with
  | true=>rw[List.takeWhile_cons_of_pos h,List.length_cons,List.take_succ_cons,oP l]
  | false=>rw[List.takeWhile_cons_of_neg (by simp[h])]; rfl
theorem VX {α β γ:Type} (a:Option α) (f:α→Option β) (g:β→Option γ):Option.bind (Option.bind a f) g=Option.bind a fun x=>Option.bind (f x) g:=by cases a <;> rfl
end Go.Vm
namespace Go.Vm
open Go
structure eW {α:Type} (c:α→α→Int):Prop where
 lo:∀ x y, -1≤c x y
 hi:∀ x y,c x y≤1
 refl:∀ x,c x x=0
 anti:∀ x y,c y x = -c x y
 trans:∀ x y z,c x y≤0→c y z≤0→c x z≤0
theorem eW.eq_left {α:Type} {c:α→α→Int} (h:eW c) {x y:α} (e:c x y=0) (z:α):c x z=c y z:=by
 have e':c y x=0:=by rw[h.anti,e]; rfl
 have h1:=h.lo x z
 have h2:=h.hi x z
 have h3:=h.lo y z
 have h4:=h.hi y z
 have a1:=h.trans x y z (by omega)
 have a2:=h.trans y x z (by omega)
 have b1:=h.trans z x y
 have b2:=h.trans z y x
 rw[h.anti x z,h.anti y z] at b1 b2
 have b1':=b1
 omega
theorem eW.map {α β:Type} {c:β→β→Int} (h:eW c) (f:α→β):eW (fun x y=>c (f x) (f y)):=
 ⟨fun _ _=>h.lo _ _,fun _ _=>h.hi _ _,fun _=>h.refl _,fun _ _=>h.anti _ _,fun _ _ _=>h.trans _ _ _⟩
def lex2 {α:Type} (c d:α→α→Int) (x y:α):Int:=if c x y≠0 then c x y else d x y
theorem eW.lex2 {α:Type} {c d:α→α→Int} (h:eW c) (k:eW d):eW (lex2 c d) where
 lo x y:=by unfold Vm.lex2; split; exact h.lo _ _; exact k.lo _ _
 hi x y:=by unfold Vm.lex2; split; exact h.hi _ _; exact k.hi _ _
 refl x:=by unfold Vm.lex2; rw[if_neg (by simp[h.refl])]; exact k.refl _
 anti x y:=by
  unfold Vm.lex2
  rw[h.anti x y,k.anti x y]
  by_cases e:c x y=0
  · rw[if_neg (by omega),if_neg (by omega)]
  · rw[if_pos (by omega),if_pos e]
 trans x y z:=by
  unfold Vm.lex2
  intro h1 h2
  by_cases e1:c x y=0
  · rw[if_neg (by omega)] at h1
    have:=h.eq_left e1 z
    rw[this]
    by_cases e2:c y z=0
    · rw[if_neg (by omega)] at h2 ⊢
      exact k.trans _ _ _ h1 h2
    · rw[if_pos e2] at h2 ⊢
      exact h2
  · rw[if_pos e1] at h1
    have e1':=h.lo x y
    by_cases e2:c y z=0
    · have h3:=h.anti y z
      have:=h.eq_left (x:=z) (y:=y) (by omega) x
      have a1:=h.anti x z
      have a2:=h.anti x y
      rw[if_pos (by omega)]
      omega
    · rw[if_pos e2] at h2
      have h3:=h.trans x y z h1 h2
      by_cases e3:c x z=0
      · exfalso
        have:=h.eq_left e3 y
        have a1:=h.anti y z
        omega
      · rw[if_pos e3]; exact h3
def oC {α:Type} (c:α→α→Int):List α→List α→Int
 | [],[]=>0
 | [],_ :: _=> -1
 | _ :: _,[]=>1
 | x :: xs,y :: ys=>if c x y≠0 then c x y else oC c xs ys
theorem qX {a b:Int} (h:RX a b=0):a=b:=by
 unfold RX at h
 split at h
 · omega
 · split at h <;> omega
end Go.Vm
namespace Go.Vm
open Go
def yW (s:Str):Prop:=s≠[]∧∀ c∈s,y8 c=true
instance (s:Str):Decidable (yW s):=inferInstanceAs (Decidable (_∧_))
end Go.Vm
namespace Go.Vm
open Go
theorem l6 (p:UInt8→Bool) (s:Str) (i:Nat):s.drop (C7 p s i)=(s.drop i).dropWhile p:=by
 unfold C7
 rw[← List.drop_drop,oM]
end Go.Vm
set_option linter.unusedSectionVars false
namespace Go.Vm
open Go
def Suf (a:Str) (i:Nat) (r:Str):Prop:=i≤a.length∧a.drop i=r
theorem Suf.pos {a:Str} {i:Nat} {r:Str} (h:Suf a i r):i=a.length - r.length∧r.length≤a.length:=by
 have:=congrArg List.length h.2
 simp only[List.length_drop] at this
 have:=h.1
 omega
theorem Suf.cons {a:Str} {i:Nat} {c:UInt8} {q:Str} (h:Suf a i (c :: q)):i < a.length∧idx a i=some (c.toNat:Int)∧Suf a (i + 1) q:=by
 have hl:i < a.length:=by
  rcases Nat.lt_or_ge i a.length with h' | h'
  · exact h'
  · have:=h.2; rw[List.drop_eq_nil_of_le h'] at this; cases this
 have:=h.2
 rw[List.drop_eq_getElem_cons hl] at this
 have h2:=List.cons.inj this
 refine⟨hl,?_,hl,h2.2⟩
 rw[P8 hl,h2.1]
theorem Suf.nil {a:Str} {i:Nat} (h:Suf a i []):i=a.length:=by
 have:=h.pos
 simp only[List.length_nil] at this
 omega
theorem Suf.run {a:Str} {i:Nat} {r:Str} (h:Suf a i r) (p:UInt8→Bool):Suf a (C7 p a i) (r.dropWhile p)∧Fj a i (C7 p a i:Int)=some (r.takeWhile p)∧i≤C7 p a i:=by
 have hle:C7 p a i≤a.length:=Wy h.1
 have hge:=Wx p a i
 refine⟨⟨hle,by rw[l6,h.2]⟩,?_,hge⟩
 rw[Od hge hle]
 unfold C7
 rw[Nat.add_sub_cancel_left,h.2,oP]
theorem Suf.drop {a:Str} {i k:Nat} {r:Str} (h:Suf a i r) (hk:k≤r.length):Suf a (i + k) (r.drop k):=by
 have:=h.pos
 refine⟨?_,by rw[← List.drop_drop,h.2]⟩
 have:=h.1
 omega
theorem Suf.eq {a:Str} {i j:Nat} {r:Str} (h:Suf a i r) (k:Suf a j r):i=j:=by
 have:=h.pos
 have:=k.pos
 omega
theorem Suf.start (a:Str):Suf a 0 a:=⟨Nat.zero_le _,rfl⟩
def posR (n:Nat) (r:Str):Int:=((n - r.length:Nat):Int)
theorem Suf.posR {a:Str} {i:Nat} {r:Str} (h:Suf a i r):posR a.length r=(i:Int):=by
 have:=h.pos
 unfold Vm.posR
 omega
def hdP (p:UInt8→Bool):Str→Bool
 | []=>false
 | c :: _=>p c
def RZ (r:Str):Str:=J4 (r.takeWhile (isP 1))
def RP (r:Str):Str:=r.dropWhile (isP 1)
theorem yH {p:UInt8→Bool} {r:Str}:r.takeWhile p=[]↔hdP p r=false:=by
 cases r with
 | nil=>simp[hdP]
 | cons c q=>cases h:p c <;> simp[hdP,h]
section
variable {a:Str} (ha:a.length≤64)
include ha
theorem gA {i:Nat} {r:Str} (h:Suf a i r) (k:Int):Cq a i k=some (C7 (isP k) a i:Int):=by
 rw[Oz _ _ _ (by omega)]
 unfold tM
 have:=h.1
 rw[if_neg (by omega),Int.toNat_natCast]
theorem oR {i:Nat} {r:Str} (h:Suf a i r) (e f k:Int):∃ j:Nat,Dj a i e f k=some (r.takeWhile (isP k),(j:Int))∧Suf a j (r.dropWhile (isP k)):=by
 obtain⟨h1,h2,_⟩:=h.run (isP k)
 refine⟨C7 (isP k) a i,?_,h1⟩
 unfold Dj
 rw[gA ha h]
 simp only[Option.bind_some,h2]
theorem Nf {i:Nat} {r:Str} (h:Suf a i r) (e f:Int):∃ j:Nat,Br a i e f=some (RZ r,(j:Int))∧Suf a j (RP r):=by
 obtain⟨j,h1,h2⟩:=oR ha h e f 1
 refine⟨j,?_,h2⟩
 unfold Br
 rw[h1]
 simp only[Option.bind_some]
 rw[FD]
 · rfl
 · have:=(List.takeWhile_prefix (isP 1) (l:=r)).length_le
   have:=h.pos
   omega
theorem tV {i:Nat} {r:Str} (h:Suf a i r) (e f k:Int):CC a i e f k=some (hdP (isP k) r):=by
 unfold CC
 cases r with
 | nil=>rw[h.nil]; simp[hdP]
 | cons c q=>
  obtain⟨h1,h2,_⟩:=h.cons
  rw[if_pos (by simp; omega),h2]
  simp only[Option.bind_some,D3]
  rfl
def JZ (n:Nat) (k:Int) (r:Str):Int × Int:=if hdP (isP k) r=true then (0,0) else if r=[] then (11,posR n r) else (10,posR n r)
theorem Sx {i:Nat} {r:Str} (h:Suf a i r) (k:Int):DG a i 0 0 k=some (hdP (isP k) r,JZ a.length k r):=by
 unfold DG JZ
 rw[tV ha h,h.posR]
 cases hp:hdP (isP k) r with
 | true=>simp
 | false=>
  by_cases hr:r=[]
  · subst hr
    have:=h.nil
    simp[this]
  · have:(i:Int)≠(a.length:Int):=by
     obtain⟨c,q,rfl⟩:=List.exists_cons_of_ne_nil hr
     have:=h.cons.1
     omega
    simp[hr,this]
def Ex (r:Str):Str × Str:=match RP r with
 | []=>([48],r)
 | c :: q=>if hdP (isP 1) r=true∧c=33 then (RZ r,q) else ([48],r)
theorem pZ {i:Nat} {r:Str} (h:Suf a i r):∃ j:Nat,Dg a i 0 0=some ((Ex r).1,(j:Int))∧Suf a j (Ex r).2:=by
 obtain⟨h1,h2,h3⟩:=h.run (isP 1)
 unfold Dg
 rw[gA ha h]
 simp only[Option.bind_some]
 generalize C7 (isP 1) a i=e at h1 h2 h3
 have hd:hdP (isP 1) r=false↔e=i:=by
  rw[← yH]
  constructor
  · intro q
    have h4:r.dropWhile (isP 1)=r:=by
     have:=List.takeWhile_append_dropWhile (p:=isP 1) (l:=r)
     rw[q] at this
     exact this
    rw[h4] at h1
    exact (h1.eq h)
  · intro q
    subst q
    have h5:r.dropWhile (isP 1)=r:=h1.2.symm.trans h.2
    have:=List.takeWhile_append_dropWhile (p:=isP 1) (l:=r)
    rw[h5] at this
    have:=congrArg List.length this
    simp only[List.length_append] at this
    exact List.length_eq_zero_iff.1 (by omega)
 unfold Ex
 cases hb:RP r with
 | nil=>
  have hb':r.dropWhile (isP 1)=[]:=hb
  rw[hb'] at h1
  have:=h1.nil
  rw[if_pos (by simp[this])]
  exact⟨i,rfl,h⟩
 | cons c q=>
  have hb':r.dropWhile (isP 1)=c :: q:=hb
  rw[hb'] at h1
  obtain⟨h4,h5,h6⟩:=h1.cons
  by_cases hz:e=i
  · have:=hd.2 hz
    rw[if_pos (by simp[hz])]
    simp only[this]
    exact⟨i,rfl,h⟩
  · have hd':hdP (isP 1) r=true:=by
     cases hh:hdP (isP 1) r with
     | true=>rfl
     | false=>exact absurd (hd.1 hh) hz
    rw[if_neg (by simp; omega),h5]
    simp only[Option.bind_some,hd',true_and]
    by_cases hc:c=33
    · subst hc
      obtain⟨j,g1,g2⟩:=Nf ha h 0 0
      have:j=e:=by
       have g3:Suf a j (33 :: q):=by rw[← hb]; exact g2
       exact g3.eq h1
      subst this
      rw[g1]
      refine⟨j + 1,?_,h6⟩
      rw[if_neg (by decide)]
      simp only[Option.bind_some,if_true]
      rw[CK (by omega) (by omega)]
      rfl
    · have hne:((c.toNat:Int) != 33)=true:=by
       rw[bne,show ((c.toNat:Int) == 33)=(c == 33) from HO c 33]
       simp[hc]
      rw[if_pos hne,if_neg hc]
      exact⟨i,rfl,h⟩
def MI:Nat→Str→List Str × Str
 | 0,r=>([],r)
 | n + 1,r=>match RP r with
  | 46 :: q=>if hdP (isP 1) q=true then ((RZ r) :: (MI n q).1,(MI n q).2) else ([RZ r],46 :: q)
  | q=>([RZ r],q)
def E1 (n:Nat) (r:Str):List Str × Str × (Int × Int):=if hdP (isP 1) r=true then ((MI r.length r).1,(MI r.length r).2,(0,0)) else ([],r,JZ n 1 r)
omit ha in
theorem wD {r:Str} (h:hdP (isP 1) r=true):(RP r).length < r.length:=by
 cases r with
 | nil=>cases h
 | cons c q=>
  have:RP (c :: q)=q.dropWhile (isP 1):=by
   unfold RP
   rw[List.dropWhile_cons_of_pos (show isP 1 c=true from h)]
  rw[this]
  have:=Bx (p:=isP 1) q
  simp only[List.length_cons]
  omega
theorem iR:∀ (n:Nat) (i:Nat) (r:Str) (acc:List Str),r.length≤n→Suf a i r→hdP (isP 1) r=true→acc.length≤i→∃ j:Nat,Bi (BL a) ((i:Int),0,0,acc)=some (Sum.inl (acc ++ (MI n r).1,(j:Int),0,0))∧Suf a j (MI n r).2
 | 0,i,r,acc,hn,h,hd,hacc=>by
  have:r=[]:=List.length_eq_zero_iff.1 (by omega)
  subst this
  cases hd
 | n + 1,i,r,acc,hn,h,hd,hacc=>by
  obtain⟨j,g1,g2⟩:=Nf ha h 0 0
  have hlt:=wD hd
  have hij:i < j:=by have:=h.pos; have:=g2.pos; omega
  have hjl:j≤a.length:=g2.1
  have hm:JZ a.length 1 r=(0,0):=by unfold JZ; rw[if_pos hd]
  have hstep:BL a ((i:Int),0,0,acc)=Option.bind (if (decide ((w64 ((j:Int) + 1))≥(List.length a:Int)))=true then some true else Option.bind (idx a j) (fun x89=>some (x89 != 46)):Option (Bool)) (fun x88=>Option.bind (if x88=true then some true else Option.bind (idx a (w64 ((j:Int) + 1))) (fun x93=>Option.bind (DZ x93 1) (fun x94=>some (!x94))):Option (Bool)) (fun x92=>(if x92=true then some (Step.done (Sum.inl (acc ++ [RZ r],(j:Int),0,0))) else some (Step.next ((w64 ((j:Int) + 1)),0,0,acc ++ [RZ r]))))):=by
   unfold BL
   simp only[]
   rw[Sx ha h,hd,hm]
   simp only[Option.bind_some,if_true]
   rw[g1]
   simp only[Option.bind_some]
   rw[dD (by simp; omega) (by simp; omega)]
   rfl
  have hw:w64 ((j:Int) + 1)=((j + 1:Nat):Int):=by rw[CK (by omega) (by omega)]; rfl
  rw[hw] at hstep
  have hdone:∀ (q:Str),RP r=q→(match q with | 46 :: q2=>hdP (isP 1) q2=false | _=>True)→BL a ((i:Int),0,0,acc)=some (.done (Sum.inl (acc ++ [RZ r],(j:Int),0,0))):=by
   intro q hq hc
   rw[hstep]
   rw[hq] at g2
   cases q with
   | nil=>
    have:=g2.nil
    rw[if_pos (by simp; omega)]
    rfl
   | cons c q2=>
    obtain⟨e1,e2,e3⟩:=g2.cons
    cases q2 with
    | nil=>
     have:=e3.nil
     rw[if_pos (by simp; omega)]
     rfl
    | cons c2 q3=>
     obtain⟨e4,e5,e6⟩:=e3.cons
     rw[if_neg (by simp; omega),e2]
     simp only[Option.bind_some]
     have e7:((c.toNat:Int) != 46) = !(c == 46):=by rw[bne,show ((c.toNat:Int) == 46)=(c == 46) from HO c 46]
     rw[e7,e5]
     simp only[Option.bind_some,D3]
     by_cases h46:c=46
     · subst h46
       have hc':isB (c2.toNat:Int) 1=false:=hc
       rw[hc']
       rfl
     · simp[h46]
  cases hq:RP r with
  | nil=>
   refine⟨j,?_,?_⟩
   · rw[DQ (hdone _ hq trivial)]
     simp only[MI,hq]
   · simp only[MI,hq]
     rw[hq] at g2
     exact g2
  | cons c q=>
   by_cases hc:c=46∧hdP (isP 1) q=true
   · obtain⟨rfl,hq2⟩:=hc
     rw[hq] at g2 hlt
     obtain⟨e1,e2,e3⟩:=g2.cons
     simp only[List.length_cons] at hlt
     obtain⟨j2,k1,k2⟩:=iR n (j + 1) q (acc ++ [RZ r]) (by omega) e3 hq2 (by simp; omega)
     refine⟨j2,?_,?_⟩
     · rw[Jr (y:=(((j + 1:Nat):Int),0,0,acc ++ [RZ r]))]
       · rw[k1]
         simp only[MI,hq,hq2,if_true,List.append_assoc,List.singleton_append]
       · rw[hstep]
         cases q with
         | nil=>cases hq2
         | cons c2 q3=>
          obtain⟨e4,e5,e6⟩:=e3.cons
          have hc':isB (c2.toNat:Int) 1=true:=hq2
          rw[if_neg (by simp; omega),e2]
          simp only[Option.bind_some]
          rw[if_neg (by decide),e5]
          simp only[Option.bind_some,D3,hc']
          rfl
     · simp only[MI,hq,hq2,if_true]
       exact k2
   · have hz:(MI (n + 1) r)=([RZ r],c :: q):=by
      simp only[MI,hq]
      split
      · rename_i q2 e
        cases e
        rw[if_neg (fun z=>hc ⟨rfl,z⟩)]
      · rfl
     refine⟨j,?_,?_⟩
     · rw[DQ (hdone _ hq ?_),hz]
       split
       · rename_i q2 e
         cases e
         cases hh:hdP (isP 1) q with
         | true=>exact absurd ⟨rfl,hh⟩ hc
         | false=>rfl
       · trivial
     · rw[hz,← hq]
       exact g2
theorem gP {i:Nat} {r:Str} (h:Suf a i r):∃ j:Nat,CI a i 0 0=some ((E1 a.length r).1,(j:Int),(E1 a.length r).2.2)∧Suf a j (E1 a.length r).2.1:=by
 unfold CI E1
 cases hd:hdP (isP 1) r with
 | true=>
  obtain⟨j,h1,h2⟩:=iR ha r.length i r [] (Nat.le_refl _) h hd (Nat.zero_le _)
  refine⟨j,?_,h2⟩
  rw[h1]
  rfl
 | false=>
  refine⟨i,?_,h⟩
  have:BL a ((i:Int),0,0,[])=some (.done (Sum.inr ([],(i:Int),JZ a.length 1 r))):=by
   unfold BL
   simp only[]
   rw[Sx ha h,hd]
   rfl
  rw[DQ this]
  rfl
end
end Go.Vm
namespace Go.Vm
open Go
theorem tR {F:List Int × Int→Option (Step (List Int × Int) (List Int))} {f:Int→Int} {N:Nat} (h1:∀ (l:List Int) (i:Nat) (h:i < l.length),l.length=N→F (l,(i:Int))=some (.next (l.set i (f l[i]),((i + 1:Nat):Int)))) (h2:∀ l:List Int,l.length=N→F (l,(N:Int))=some (.done l)) {l:List Int} (hl:l.length=N) :
 Bi F (l,0)=some (l.map f):=by
 have:=Cw (f:=F) (fun x=>∃ i:Nat,x.2=i∧i≤N∧x.1.length=N) (fun x=>N - x.2.toNat) (fun x=>x.1.take x.2.toNat ++ (x.1.drop x.2.toNat).map f) (fun x hx=>by
  obtain⟨l,z⟩:=x
  obtain⟨i,e,hi,hl⟩:=hx
  simp only at e hl
  subst e
  simp only[Int.toNat_natCast]
  rcases Nat.lt_or_ge i N with h | h
  · right
    have hi:i < l.length:=by omega
    refine⟨_,h1 l i hi hl,⟨i + 1,rfl,h,by simp[hl]⟩,by simp only[Int.toNat_natCast]; omega,?_⟩
    simp only[Int.toNat_natCast]
    rw[List.drop_eq_getElem_cons hi,List.drop_set_of_lt (by omega),List.take_add_one,List.take_set_of_le (Nat.le_refl _)]
    simp only[List.getElem?_set_self hi,Option.toList_some,List.append_assoc,List.map_cons,List.singleton_append]
  · have:i=N:=by omega
    subst this
    left
    rw[h2 l hl]
    simp[← hl]) (x:=(l,0)) ⟨0,rfl,Nat.zero_le _,hl⟩
 simpa using this
def mV (c:Int):Int:=if isB c 3=true then IntKind.wrap .u8 (c + 32) else c
theorem HN (s:Str) (hs:s.length≤4611686018427387904):E9 s=some (ofb ((s.map fun c:UInt8=>(c.toNat:Int)).map mV)):=by
 unfold E9
 rw[xU (by omega)]
 simp only[Option.bind_some]
 rw[tR (N:=s.length) (f:=mV) ?_ ?_ (by simp)]
 · rfl
 · intro l i hi hl
   unfold HT mV
   simp only[List.length_map]
   rw[if_pos (by simp; omega),Eb hi,CK (by omega) (by omega),Int.toNat_natCast]
   simp only[Option.bind_some,D3]
   cases isB l[i] 3 with
   | true=>rfl
   | false=>simp
 · intro l hl
   unfold HT
   simp only[List.length_map]
   rw[if_neg (by simp)]
def stM (s:Str) (at':Int) (w:Str):Bool:=decide (0≤at'∧at'≤s.length) && ((s.drop at'.toNat).take w.length == w)
def CD (s:Str) (at':Int) (b:Str × Bool) (w:Str):Str × Bool:=if (stM s at' w && (!b.2 || decide (b.1.length < w.length)))=true then (w,true) else b
theorem m7 {l w:Str} (h:(l.take w.length == w)=true):w.length≤l.length:=by
 have:=congrArg List.length (eq_of_beq h)
 simp only[List.length_take] at this
 omega
theorem cQ (s w:Str):DP s w=some (s.take w.length == w):=by
 unfold DP C5
 by_cases h:w.length≤s.length
 · rw[if_pos (by simp; omega),Uz h]
   rfl
 · rw[if_neg (by simp; omega)]
   have:(s.take w.length == w)=false:=by
    rw[Bool.eq_false_iff]
    intro q
    exact h (m7 q)
   rw[this]
   rfl
theorem qM {F:Str × Bool × Int→Option (Step (Str × Bool × Int) (Str × Bool))} {st:Str × Bool→Str→Str × Bool} {ws:List Str} (h1:∀ (b:Str) (o:Bool) (i:Nat) (h:i < ws.length),F (b,o,(i:Int))=some (.next ((st (b,o) ws[i]).1,(st (b,o) ws[i]).2,((i + 1:Nat):Int)))) (h2:∀ (b:Str) (o:Bool),F (b,o,(ws.length:Int))=some (.done (b,o))) (b:Str) (o:Bool) :
 Bi F (b,o,0)=some (ws.foldl st (b,o)):=by
 have:=Cw (f:=F) (fun x=>∃ i:Nat,x.2.2=i∧i≤ws.length) (fun x=>ws.length - x.2.2.toNat) (fun x=>(ws.drop x.2.2.toNat).foldl st (x.1,x.2.1)) (fun x hx=>by
  obtain⟨b,o,z⟩:=x
  obtain⟨i,e,hi⟩:=hx
  simp only at e
  subst e
  simp only[Int.toNat_natCast]
  rcases Nat.lt_or_ge i ws.length with h | h
  · right
    refine⟨_,h1 b o i h,⟨i + 1,rfl,h⟩,by simp only[Int.toNat_natCast]; omega,?_⟩
    simp only[Int.toNat_natCast]
    rw[List.drop_eq_getElem_cons h,List.foldl_cons]
  · have:i=ws.length:=by omega
    subst this
    left
    rw[h2]
    simp) (x:=(b,o,0)) ⟨0,rfl,Nat.zero_le _⟩
 simpa using this
theorem kF {s:Str} {at':Int} (h:¬(0≤at'∧at'≤s.length)):∀ ws:List Str,ws.foldl (CD s at') ([],false)=([],false)
 | []=>rfl
 | w :: ws=>by
  rw[List.foldl_cons]
  have:CD s at' ([],false) w=([],false):=by
   unfold CD stM
   rw[decide_eq_false h]
   simp
  rw[this]
  exact kF h ws
theorem S9 (s:Str) (at':Int) (ws:List Str) (hs:s.length≤4611686018427387904) (hw:ws.length≤4611686018427387904):FM s at' ws=some (ws.foldl (CD s at') ([],false)):=by
 unfold FM
 by_cases h:0≤at'∧at'≤s.length
 · rw[if_neg (by simp; omega),qM (ws:=ws) (st:=CD s at') ?_ ?_]
   · rfl
   · intro b o i hi
     unfold Jf
     obtain⟨n,rfl⟩:∃ n:Nat,at' = n:=⟨at'.toNat,by omega⟩
     simp only[]
     rw[if_pos (by simp; omega),Eb hi,CK (by omega) (by omega),Ul (by omega)]
     simp only[Option.bind_some,cQ]
     unfold CD stM
     rw[decide_eq_true h]
     simp only[Bool.true_and,Int.toNat_natCast,gt_iff_lt,Int.ofNat_lt]
     split <;> rfl
   · intro b o
     unfold Jf
     simp only[]
     rw[if_neg (by simp)]
 · rw[if_pos (by simp; omega),kF h]
end Go.Vm
namespace Go.Vm
open Go
def gN (c:UInt8):Bool:=((c == 45) || (c == 95)) || (c == 46)
theorem iM (c:UInt8):Pf (c.toNat:Int)=some (gN c):=by
 unfold Pf gN
 rw[show ((c.toNat:Int) == 45)=(c == 45) from HO c 45,show ((c.toNat:Int) == 95)=(c == 95) from HO c 95,show ((c.toNat:Int) == 46)=(c == 46) from HO c 46]
def BZ (ws:List Str) (r:Str):Str × Bool:=ws.foldl (CD r 0) ([],false)
theorem pP {a:Str} {i:Nat} {r:Str} (h:Suf a i r) (b:Str × Bool) (w:Str):CD a i b w=CD r 0 b w:=by
 have e:stM a i w=stM r 0 w:=by
  unfold stM
  have:=h.1
  rw[decide_eq_true (by omega),decide_eq_true (by omega),Int.toNat_natCast,h.2]
  rfl
 unfold CD
 rw[e]
theorem L4 {a:Str} {i:Nat} {r:Str} (h:Suf a i r):∀ (ws:List Str) (b:Str × Bool),ws.foldl (CD a i) b=ws.foldl (CD r 0) b
 | [],_=>rfl
 | w :: ws,b=>by
  simp only[List.foldl_cons]
  rw[pP h,L4 h ws]
theorem oH:∀ (ws:List Str) (r:Str) (b:Str × Bool),(b.2=true→b.1.length≤r.length)→(ws.foldl (CD r 0) b).2=true→((ws.foldl (CD r 0) b).1∈ws∨(ws.foldl (CD r 0) b)=b)∧(ws.foldl (CD r 0) b).1.length≤r.length
 | [],r,b,hb,h=>⟨.inr rfl,hb h⟩
 | w :: ws,r,b,hb,h=>by
  simp only[List.foldl_cons] at h ⊢
  have hw:(CD r 0 b w).2=true→(CD r 0 b w).1.length≤r.length:=by
   unfold CD
   split
   · rename_i q
     intro _
     simp only[Bool.and_eq_true] at q
     have:=q.1
     unfold stM at this
     simp only[Bool.and_eq_true,beq_iff_eq] at this
     have:=congrArg List.length this.2
     simp at this
     show w.length≤r.length
     omega
   · exact hb
  obtain⟨h1,h2⟩:=oH ws r _ hw h
  refine⟨?_,h2⟩
  rcases h1 with h1 | h1
  · exact .inl (List.mem_cons_of_mem _ h1)
  · rw[h1]
    unfold CD
    split
    · exact .inl (by simp)
    · exact .inr rfl
theorem FL {ws:List Str} {r:Str} (h:(BZ ws r).2=true):(BZ ws r).1∈ws∧(BZ ws r).1.length≤r.length:=by
 obtain⟨h1,h2⟩:=oH ws r ([],false) (fun q=>by cases q) h
 refine⟨?_,h2⟩
 rcases h1 with h1 | h1
 · exact h1
 · unfold BZ at h
   rw[h1] at h
   cases h
def mkd:Str→Bool
 | []=>false
 | c :: _=>gN c
def C8 (ws:List Str) (r:Str):Str × Bool × Str:=
 if (mkd r && (BZ ws r.tail).2)=true then ((BZ ws r.tail).1,true,r.tail.drop (BZ ws r.tail).1.length)
 else if (BZ ws r).2=true then ((BZ ws r).1,true,r.drop (BZ ws r).1.length) else ([],false,r)
def EY (r:Str):Str:=if (mkd r && hdP (isP 1) r.tail)=true then r.tail else r
def Dq (r:Str):Str × Str:=if hdP (isP 1) (EY r)=true then (RZ (EY r),RP (EY r)) else ([48],EY r)
section
variable {a:Str} (ha:a.length≤64)
include ha
theorem Rt {i:Nat} {r:Str} (h:Suf a i r) (e f:Int):BQ a i e f=some (mkd r):=by
 unfold BQ
 cases r with
 | nil=>rw[h.nil]; simp[mkd]
 | cons c q=>
  obtain⟨h1,h2,_⟩:=h.cons
  rw[if_pos (by simp; omega),h2]
  simp only[Option.bind_some,iM]
  rfl
theorem kS {i:Nat} {r:Str} (h:Suf a i r) {ws:List Str} (hw:ws.length≤100):FM a i ws=some (BZ ws r):=by
 rw[S9 _ _ _ (by omega) (by omega),L4 h]
 rfl
theorem YW {i:Nat} {r:Str} (h:Suf a i r) {ws:List Str} (hw:ws.length≤100):∃ j:Nat,BY a i 0 0 ws=some ((C8 ws r).1,(C8 ws r).2.1,(j:Int))∧Suf a j (C8 ws r).2.2:=by
 have hi:=h.1
 have key:∃ j:Nat,Option.bind (Option.bind (FM a i ws) (fun x26=>(if x26.2=true then some (Sum.inl ((w64 ((i:Int) + (List.length x26.1:Int))),x26.1)) else some (Sum.inr ()))):Option ((Int × Str) ⊕ (Unit))) (fun y=>match y with | Sum.inl (x24,x25)=>some (x25,true,x24) | Sum.inr _=>some (([]:Str),false,(i:Int)))=some ((if (BZ ws r).2=true then ((BZ ws r).1,true,r.drop (BZ ws r).1.length) else ([],false,r)).1,(if (BZ ws r).2=true then ((BZ ws r).1,true,r.drop (BZ ws r).1.length) else ([],false,r)).2.1,(j:Int))∧Suf a j (if (BZ ws r).2=true then ((BZ ws r).1,true,r.drop (BZ ws r).1.length) else ([],false,r)).2.2:=by
  rw[kS ha h hw]
  simp only[Option.bind_some]
  cases hz:(BZ ws r).2 with
  | true=>
   obtain⟨_,h2⟩:=FL hz
   have:=h.pos
   refine⟨i + (BZ ws r).1.length,?_,h.drop h2⟩
   simp only[if_true,Option.bind_some]
   rw[CK (by omega) (by omega)]
   rfl
  | false=>exact⟨i,rfl,h⟩
 unfold BY C8 FC
 rw[if_neg (by decide),Rt ha h]
 simp only[Option.bind_some]
 cases hm:mkd r with
 | false=>
  simp only[Bool.false_eq_true,if_false,Bool.false_and,Option.bind_some]
  exact key
 | true=>
  obtain⟨c,q,rfl⟩:∃ c q,r=c :: q:=by
   cases r with
   | nil=>cases hm
   | cons c q=>exact⟨c,q,rfl⟩
  obtain⟨h1,h2,h3⟩:=h.cons
  have hw1:w64 ((i:Int) + 1)=((i + 1:Nat):Int):=by rw[CK (by omega) (by omega)]; rfl
  simp only[if_true,Bool.true_and,List.tail_cons]
  rw[hw1,kS ha h3 hw]
  simp only[Option.bind_some]
  cases hz:(BZ ws q).2 with
  | true=>
   obtain⟨_,h4⟩:=FL hz
   have:=h3.pos
   refine⟨i + 1 + (BZ ws q).1.length,?_,h3.drop h4⟩
   simp only[if_true,Option.bind_some]
   rw[CK (by omega) (by omega)]
   rfl
  | false=>
   simp only[Bool.false_eq_true,if_false,Option.bind_some]
   exact key
theorem LV {i:Nat} {r:Str} (h:Suf a i r):∃ j:Nat,Bc a i 0 0=some ((Dq r).1,(j:Int))∧Suf a j (Dq r).2:=by
 have hi:=h.1
 unfold Bc Dq
 rw[Rt ha h]
 simp only[Option.bind_some]
 have key:∃ j:Nat,Option.bind (if ((mkd r) && (decide ((w64 ((i:Int) + 1)) < (List.length a:Int))))=true then Option.bind (idx a (w64 ((i:Int) + 1))) (fun x20=>Option.bind (DZ x20 1) (fun x21=>some x21)) else some false:Option (Bool)) (fun x19=>(if x19=true then some (w64 ((i:Int) + 1)) else some (i:Int)))=some (j:Int)∧Suf a j (EY r):=by
  have hw1:w64 ((i:Int) + 1)=((i + 1:Nat):Int):=by rw[CK (by omega) (by omega)]; rfl
  rw[hw1]
  unfold EY
  cases hm:mkd r with
  | false=>exact⟨i,rfl,h⟩
  | true=>
   obtain⟨c,q,rfl⟩:∃ c q,r=c :: q:=by
    cases r with
    | nil=>cases hm
    | cons c q=>exact⟨c,q,rfl⟩
   obtain⟨h1,h2,h3⟩:=h.cons
   simp only[Bool.true_and,List.tail_cons]
   cases q with
   | nil=>
    have:=h3.nil
    rw[if_neg (by simp; omega)]
    exact⟨i,rfl,h⟩
   | cons c2 q2=>
    obtain⟨h4,h5,h6⟩:=h3.cons
    rw[if_pos (by simp; omega),h5]
    simp only[Option.bind_some,D3]
    have e:hdP (isP 1) (c2 :: q2)=isB (c2.toNat:Int) 1:=rfl
    rw[e]
    cases isB (c2.toNat:Int) 1 with
    | true=>exact⟨i + 1,rfl,h3⟩
    | false=>exact⟨i,rfl,h⟩
 obtain⟨j,k1,k2⟩:=key
 rw[k1]
 simp only[Option.bind_some]
 rw[tV ha k2]
 simp only[Option.bind_some]
 cases hd:hdP (isP 1) (EY r) with
 | true=>
  obtain⟨j2,g1,g2⟩:=Nf ha k2 0 0
  refine⟨j2,?_,g2⟩
  rw[if_pos rfl,g1]
  rfl
 | false=>exact⟨j,rfl,k2⟩
end
end Go.Vm
namespace Go.Vm
open Go
def Q1:List Str:=[[112,111,115,116],[114,101,118],[114]]
def Ye:List Str:=[[100,101,118]]
def SG:List Str:=[[97,108,112,104,97],[97],[98,101,116,97],[98],[112,114,101,118,105,101,119],[112,114,101],[99],[114,99]]
def YP:Str→Bool
 | 45 :: q=>hdP (isP 1) q
 | _=>false
def Fe (r:Str):Bool × Str × Str:=
 if YP r=true then (true,RZ r.tail,RP r.tail)
 else if (C8 Q1 r).2.1=true then (true,(Dq (C8 Q1 r).2.2).1,(Dq (C8 Q1 r).2.2).2) else (false,[],(C8 Q1 r).2.2)
def Ho (r:Str):Str:=r.takeWhile (isP 5)
def Ja (r:Str):Str:=r.dropWhile (isP 5)
def Kq (p:Str):Str:=if C7 (isP 1) p 0=p.length then J4 p else p
def Pc:Nat→Str→List Str × Str
 | 0,r=>([],r)
 | n + 1,r=>if (mkd (Ja r) && hdP (isP 5) (Ja r).tail)=true then (Kq (Ho r) :: (Pc n (Ja r).tail).1,(Pc n (Ja r).tail).2) else ([Kq (Ho r)],Ja r)
def EW (n:Nat) (r:Str):List Str × Str × (Int × Int):=match r with
 | 43 :: q=>if hdP (isP 5) q=true then ((Pc q.length q).1,(Pc q.length q).2,(0,0)) else ([],q,JZ n 5 q)
 | _=>([],r,(0,0))
section
variable {a:Str} (ha:a.length≤64)
include ha
theorem sD {i:Nat} {r:Str} (h:Suf a i r) (x8:Str) (x10:List Str) (x24:Int) (x25:Str):∃ j:Nat,D7 a i 0 0 x8 x10 x24 x25 false [] false [] ([]:List Str)=some ((j:Int),(Fe r).1,(Fe r).2.1)∧Suf a j (Fe r).2.2:=by
 have hi:=h.1
 unfold D7
 have hw1:w64 ((i:Int) + 1)=((i + 1:Nat):Int):=by rw[CK (by omega) (by omega)]; rfl
 rw[hw1]
 have key:Option.bind (if (decide (((i + 1:Nat):Int) < (List.length a:Int)))=true then Option.bind (idx a i) (fun x18=>some (x18 == 45)) else some false:Option (Bool)) (fun x17=>(if x17=true then Option.bind (idx a ((i + 1:Nat):Int)) (fun x22=>Option.bind (DZ x22 1) (fun x23=>some x23)) else some false:Option (Bool)))=some (YP r):=by
  cases r with
  | nil=>have:=h.nil; rw[if_neg (by simp; omega)]; rfl
  | cons c q=>
   obtain⟨h1,h2,h3⟩:=h.cons
   cases q with
   | nil=>
    have:=h3.nil
    rw[if_neg (by simp; omega)]
    simp only[Option.bind_some,Bool.false_eq_true,if_false,Option.some.injEq]
    unfold YP
    split
    · rename_i q e; cases e; rfl
    · rfl
   | cons c2 q2=>
    obtain⟨h4,h5,h6⟩:=h3.cons
    rw[if_pos (by simp; omega),h2]
    simp only[Option.bind_some]
    rw[show ((c.toNat:Int) == 45)=(c == 45) from HO c 45,h5]
    simp only[Option.bind_some,D3]
    by_cases hc:c=45
    · subst hc; rfl
    · have:(c == 45)=false:=by simp[hc]
      rw[this]
      simp only[Bool.false_eq_true,if_false,Option.some.injEq]
      unfold YP
      split
      · rename_i q e; cases e; exact absurd rfl hc
      · rfl
 rw[← VX,key]
 simp only[Option.bind_some]
 unfold Fe
 cases hd:YP r with
 | true=>
  obtain⟨q,rfl,hq⟩:∃ q,r=45 :: q∧hdP (isP 1) q=true:=by
   unfold YP at hd
   split at hd
   · rename_i q; exact⟨q,rfl,hd⟩
   · cases hd
  obtain⟨h1,h2,h3⟩:=h.cons
  obtain⟨j,g1,g2⟩:=Nf ha h3 0 0
  refine⟨j,?_,g2⟩
  simp only[if_true]
  rw[g1]
  rfl
 | false=>
  simp only[Bool.false_eq_true,if_false]
  obtain⟨j,g1,g2⟩:=YW ha h (ws:=Q1) (by decide)
  rw[show ([[112,111,115,116],[114,101,118],[114]]:List Str)=Q1 from rfl,g1]
  simp only[Option.bind_some]
  cases hz:(C8 Q1 r).2.1 with
  | true=>
   obtain⟨j2,k1,k2⟩:=LV ha g2
   refine⟨j2,?_,k2⟩
   simp only[if_true]
   rw[k1]
   rfl
  | false=>exact⟨j,rfl,g2⟩
omit ha in
theorem u7 {r:Str} (h:hdP (isP 5) r=true):(Ja r).length < r.length:=by
 cases r with
 | nil=>cases h
 | cons c q=>
  have:Ja (c :: q)=q.dropWhile (isP 5):=by
   unfold Ja
   rw[List.dropWhile_cons_of_pos (show isP 5 c=true from h)]
  rw[this]
  have:=Bx (p:=isP 5) q
  simp only[List.length_cons]
  omega
theorem lR:∀ (n:Nat) (i:Nat) (r:Str) (acc:List Str),r.length≤n→Suf a i r→hdP (isP 5) r=true→acc.length≤i→∃ j:Nat,Bi (Bp a) ((i:Int),0,0,acc)=some (Sum.inl (acc ++ (Pc n r).1,(j:Int),0,0))∧Suf a j (Pc n r).2
 | 0,i,r,acc,hn,h,hd,hacc=>by
  have:r=[]:=List.length_eq_zero_iff.1 (by omega)
  subst this
  cases hd
 | n + 1,i,r,acc,hn,h,hd,hacc=>by
  obtain⟨j,g1,g2⟩:=oR ha h 0 0 5
  change Suf a j (Ja r) at g2
  have hlt:=u7 hd
  have hij:i < j:=by have:=h.pos; have:=g2.pos; omega
  have hjl:j≤a.length:=g2.1
  have hm:JZ a.length 5 r=(0,0):=by unfold JZ; rw[if_pos hd]
  have hpl:(Ho r).length≤64:=by
   have:=(List.takeWhile_prefix (isP 5) (l:=r)).length_le
   have:=h.pos
   unfold Ho
   omega
  have hw:w64 ((j:Int) + 1)=((j + 1:Nat):Int):=by rw[CK (by omega) (by omega)]; rfl
  have hnorm:Option.bind (Cq (Ho r) 0 1) (fun x102=>(if (x102 == (List.length (Ho r):Int))=true then Option.bind (DF (Ho r)) (fun x103=>some x103) else some (Ho r)))=some (Kq (Ho r)):=by
   have:=gA hpl (Suf.start (Ho r)) 1
   rw[show ((0:Nat):Int)=0 from rfl] at this
   rw[this]
   simp only[Option.bind_some]
   unfold Kq
   by_cases hz:C7 (isP 1) (Ho r) 0=(Ho r).length
   · rw[if_pos (by simp[hz]),if_pos hz,FD _ (by omega)]
     rfl
   · rw[if_neg (by simp; omega),if_neg hz]
  have hcont:Option.bind (if ((!(mkd (Ja r))) || (decide (((j + 1:Nat):Int)≥(List.length a:Int))))=true then some true else Option.bind (idx a ((j + 1:Nat):Int)) (fun x109=>Option.bind (DZ x109 5) (fun x110=>some (!x110))):Option (Bool)) (fun x108=>(if x108=true then some (Step.done (Sum.inl (acc ++ [Kq (Ho r)],(j:Int),(0:Int),(0:Int)))) else some (Step.next (((j + 1:Nat):Int),(0:Int),(0:Int),acc ++ [Kq (Ho r)]))))=(if (mkd (Ja r) && hdP (isP 5) (Ja r).tail)=true then some (Step.next (((j + 1:Nat):Int),(0:Int),(0:Int),acc ++ [Kq (Ho r)])) else some (Step.done (Sum.inl (acc ++ [Kq (Ho r)],(j:Int),(0:Int),(0:Int)))):Option (Step (Int × Int × Int × List Str) ((List Str × Int × Int × Int) ⊕ (List Str × Int × Int × Int)))):=by
   cases hmk:mkd (Ja r) with
   | false=>rfl
   | true=>
    generalize Ja r=z at g2 hmk
    cases z with
    | nil=>cases hmk
    | cons c q=>
     obtain⟨e1,e2,e3⟩:=g2.cons
     simp only[Bool.not_true,Bool.false_or,Bool.true_and,List.tail_cons]
     cases q with
     | nil=>
      have:=e3.nil
      rw[if_pos (by simp; omega)]
      rfl
     | cons c2 q2=>
      obtain⟨e4,e5,e6⟩:=e3.cons
      rw[if_neg (by simp; omega),e5]
      simp only[Option.bind_some,D3]
      have e:hdP (isP 5) (c2 :: q2)=isB (c2.toNat:Int) 5:=rfl
      rw[e]
      cases isB (c2.toNat:Int) 5 <;> rfl
  have hstep:Bp a ((i:Int),0,0,acc)=(if (mkd (Ja r) && hdP (isP 5) (Ja r).tail)=true then some (Step.next (((j + 1:Nat):Int),(0:Int),(0:Int),acc ++ [Kq (Ho r)])) else some (Step.done (Sum.inl (acc ++ [Kq (Ho r)],(j:Int),(0:Int),(0:Int)))):Option (Step (Int × Int × Int × List Str) ((List Str × Int × Int × Int) ⊕ (List Str × Int × Int × Int)))):=by
   rw[← hcont]
   unfold Bp
   simp only[]
   rw[Sx ha h,hd,hm]
   simp only[Option.bind_some,if_true]
   rw[g1]
   simp only[Option.bind_some]
   change Option.bind (Option.bind (Cq (Ho r) 0 1) (fun x102=>(if (x102 == (List.length (Ho r):Int))=true then Option.bind (DF (Ho r)) (fun x103=>some x103) else some (Ho r)))) _=_
   rw[hnorm]
   simp only[Option.bind_some]
   rw[dD (by simp; omega) (by simp; omega)]
   simp only[Option.bind_some]
   rw[Rt ha g2]
   simp only[Option.bind_some,hw]
  cases hc:(mkd (Ja r) && hdP (isP 5) (Ja r).tail) with
  | false=>
   rw[hc] at hstep
   refine⟨j,?_,?_⟩
   · rw[DQ hstep]
     simp only[Pc,hc]
     rfl
   · simp only[Pc,hc]
     exact g2
  | true=>
   rw[hc] at hstep
   simp only[Bool.and_eq_true] at hc
   obtain⟨c,q,hz⟩:∃ c q,Ja r=c :: q:=by
    cases hp:Ja r with
    | nil=>rw[hp] at hc; cases hc.1
    | cons c q=>exact⟨c,q,rfl⟩
   rw[hz] at g2 hlt
   simp only[List.length_cons] at hlt
   obtain⟨e1,e2,e3⟩:=g2.cons
   rw[hz,List.tail_cons] at hc
   obtain⟨j2,k1,k2⟩:=lR n (j + 1) q (acc ++ [Kq (Ho r)]) (by omega) e3 hc.2 (by simp; omega)
   refine⟨j2,?_,?_⟩
   · rw[Jr hstep,k1]
     simp only[Pc,hz,List.tail_cons,hc.1,hc.2,Bool.and_self,if_true,List.append_assoc,List.singleton_append]
   · simp only[Pc,hz,List.tail_cons,hc.1,hc.2,Bool.and_self,if_true]
     exact k2
theorem rK {i:Nat} {r:Str} (h:Suf a i r):∃ j:Nat,Dk a i 0 0=some ((EW a.length r).1,(j:Int),(EW a.length r).2.2)∧Suf a j (EW a.length r).2.1:=by
 unfold Dk
 have hi:=h.1
 cases r with
 | nil=>
  have:=h.nil
  refine⟨i,?_,h⟩
  rw[if_pos (by simp; omega)]
  rfl
 | cons c q=>
  obtain⟨h1,h2,h3⟩:=h.cons
  rw[if_neg (by simp; omega),h2]
  simp only[Option.bind_some]
  have e7:((c.toNat:Int) != 43) = !(c == 43):=by rw[bne,show ((c.toNat:Int) == 43)=(c == 43) from HO c 43]
  rw[e7]
  by_cases hc:c=43
  · subst hc
    have hw:w64 ((i:Int) + 1)=((i + 1:Nat):Int):=by rw[CK (by omega) (by omega)]; rfl
    simp only[beq_self_eq_true,Bool.not_true,Bool.false_eq_true,if_false,hw]
    have e9:EW a.length (43 :: q)=if hdP (isP 5) q=true then ((Pc q.length q).1,(Pc q.length q).2,(0,0)) else ([],q,JZ a.length 5 q):=rfl
    rw[e9]
    cases hd:hdP (isP 5) q with
    | true=>
     obtain⟨j,g1,g2⟩:=lR ha q.length (i + 1) q [] (Nat.le_refl _) h3 hd (Nat.zero_le _)
     refine⟨j,?_,g2⟩
     rw[g1]
     rfl
    | false=>
     refine⟨i + 1,?_,h3⟩
     have:Bp a (((i + 1:Nat):Int),0,0,[])=some (.done (Sum.inr ([],((i + 1:Nat):Int),JZ a.length 5 q))):=by
      unfold Bp
      simp only[]
      rw[Sx ha h3,hd]
      rfl
     rw[DQ this]
     rfl
  · have e8:(c == 43)=false:=by simp[hc]
    have e9:EW a.length (c :: q)=([],c :: q,(0,0)):=by
     unfold EW
     split
     · rename_i e; cases e; exact absurd rfl hc
     · rfl
    rw[e8,e9]
    exact⟨i,rfl,h⟩
end
end Go.Vm
namespace Go.Vm
open Go
def Gi (s:Str):Str:=ofb ((s.map fun c:UInt8=>(c.toNat:Int)).map mV)
theorem TT (s:Str):(Gi s).length=s.length:=by simp[Gi,ofb]
def zP:AF:=⟨[],[],0,[],false,[],false,[],[]⟩
def jZ (w:Str):Int:=match w with
 | []=>0
 | c :: _=>if c=99∨c=112∨c=114 then 114 else (c.toNat:Int)
theorem rX {w:Str} (h:w∈SG):Option.bind (idx w 0) (fun x29=>Option.bind (Fj w 0 1) (fun x33=>Option.bind (strings_ContainsAny x33 [99,112,114]) (fun x34=>(if x34=true then some 114 else some x29))))=some (jZ w):=by
 simp only[SG,List.mem_cons,List.not_mem_nil,or_false] at h
 rcases h with rfl | rfl | rfl | rfl | rfl | rfl | rfl | rfl <;> decide
theorem wW {β:Type} {w:Str} (h:w∈SG) (k:Int→Option β):Option.bind (idx w 0) (fun x29=>Option.bind (Option.bind (Fj w 0 1) (fun x33=>Option.bind (strings_ContainsAny x33 [99,112,114]) (fun x34=>(if x34=true then some 114 else some x29)))) k)=k (jZ w):=by
 rw[← show Option.bind (some (jZ w)) k=k (jZ w) from rfl,← rX h,VX]
theorem pV {ws:List Str} {r:Str} (h:(C8 ws r).2.1=true):(C8 ws r).1∈ws:=by
 unfold C8 at h ⊢
 split at h
 · rename_i q
   rw[if_pos q]
   simp only[Bool.and_eq_true] at q
   exact (FL q.2).1
 · rename_i q
   rw[if_neg q]
   split at h
   · rename_i q2
     rw[if_pos q2]
     exact (FL q2).1
   · cases h
def v0M (a:Str):Str:=match a with
 | 118 :: q=>q
 | _=>a
def Gh (r:Str):Int × Str × Str:=if (C8 SG r).2.1=true then (jZ (C8 SG r).1,(Dq (C8 SG r).2.2).1,(Dq (C8 SG r).2.2).2) else (0,[],(C8 SG r).2.2)
def Sp (r:Str):Bool × Str × Str:=if (C8 Ye r).2.1=true then (true,(Dq (C8 Ye r).2.2).1,(Dq (C8 Ye r).2.2).2) else (false,[],(C8 Ye r).2.2)
def iX (n:Nat) (ep:Str) (r:Str):AF × FB:=
 let R:=E1 n r
 if R.2.2.1≠0 then (zP,⟨R.2.2.1,R.2.2.2⟩) else
 let P:=Gh R.2.1
 let O:=Fe P.2.2
 let D:=Sp O.2.2
 let L:=EW n D.2.2
 if L.2.2.1≠0 then (zP,⟨L.2.2.1,L.2.2.2⟩) else
 if L.2.1≠[] then (zP,⟨10,posR n L.2.1⟩) else
 (⟨ep,R.1,P.1,P.2.1,O.1,O.2.1,D.1,D.2.1,L.1⟩,⟨0,0⟩)
def A3 (s:Str):AF × FB:=
 if 64 < s.length then (zP,⟨12,64⟩) else iX s.length (Ex (v0M (Gi s))).1 (Ex (v0M (Gi s))).2
theorem Vi (n:Nat) (k:Int) (r:Str):JZ n k r=(0,0)∨(JZ n k r).1≠0:=by
 unfold JZ
 split
 · exact .inl rfl
 · split <;> exact .inr (by simp)
theorem tL (n:Nat) (r:Str):(E1 n r).2.2=(0,0)∨(E1 n r).2.2.1≠0:=by
 unfold E1
 split
 · exact .inl rfl
 · exact Vi n 1 r
theorem n8 (n:Nat) (r:Str):(EW n r).2.2=(0,0)∨(EW n r).2.2.1≠0:=by
 unfold EW
 split
 · split
   · exact .inl rfl
   · exact Vi n 5 _
 · exact .inl rfl
theorem GM (s:Str):FG s=some (A3 s):=by
 unfold FG A3
 by_cases hs:s.length≤64
 · rw[if_neg (by simp; omega),if_neg (by omega),HN s (by omega)]
   simp only[Option.bind_some]
   rw[show ofb ((s.map fun c:UInt8=>(c.toNat:Int)).map mV)=Gi s from rfl]
   have hl:(Gi s).length≤64:=by rw[TT]; exact hs
   have hn:s.length=(Gi s).length:=(TT s).symm
   rw[hn]
   generalize Gi s=a at hl
   have hv:∃ i:Nat,Option.bind (if (decide (0 < (List.length a:Int)))=true then Option.bind (idx a 0) (fun x7=>some (x7 == 118)) else some false:Option (Bool)) (fun x6=>(if x6=true then some (w64 (0 + 1)) else some 0))=some (i:Int)∧Suf a i (v0M a):=by
    cases a with
    | nil=>exact⟨0,rfl,Suf.start _⟩
    | cons c q=>
     obtain⟨h1,h2,h3⟩:=(Suf.start (c :: q)).cons
     have h2':idx (c :: q) 0=some (c.toNat:Int):=h2
     rw[if_pos (by simp),h2']
     simp only[Option.bind_some]
     rw[show ((c.toNat:Int) == 118)=(c == 118) from HO c 118]
     by_cases hc:c=118
     · subst hc
       exact⟨1,rfl,h3⟩
     · have e8:(c == 118)=false:=by simp[hc]
       have e9:v0M (c :: q)=c :: q:=by
        unfold v0M
        split
        · rename_i e; cases e; exact absurd rfl hc
        · rfl
       rw[e8,e9]
       exact⟨0,rfl,Suf.start _⟩
   obtain⟨i0,e0,s0⟩:=hv
   rw[e0]
   simp only[Option.bind_some]
   obtain⟨i1,e1,s1⟩:=pZ hl s0
   rw[e1]
   simp only[Option.bind_some]
   generalize (Ex (v0M a)).1=ep
   generalize (Ex (v0M a)).2=r at s1
   obtain⟨i2,e2,s2⟩:=gP hl s1
   rw[e2]
   simp only[Option.bind_some]
   unfold iX
   simp only[]
   rcases tL a.length r with herr | herr
   · rw[herr]
     simp only[ne_eq,not_true_eq_false,if_false]
     generalize (E1 a.length r).1=rel
     generalize (E1 a.length r).2.1=r2 at s2
     obtain⟨i3,e3,s3⟩:=YW hl s2 (ws:=SG) (by decide)
     have hp:∃ j:Nat,Option.bind (BY a (i2:Int) 0 0 SG) (fun (x26,x27,x28)=>(if x27=true then Option.bind (idx x26 0) (fun x29=>Option.bind (Option.bind (Fj x26 0 1) (fun x33=>Option.bind (strings_ContainsAny x33 [99,112,114]) (fun x34=>(if x34=true then some 114 else some x29))):Option (Int)) (fun x32=>Option.bind (Bc a x28 0 0) (fun (x35,x36)=>some (x36,x32,x35)))) else some (x28,0,[])))=some ((j:Int),(Gh r2).1,(Gh r2).2.1)∧Suf a j (Gh r2).2.2:=by
      rw[e3]
      simp only[Option.bind_some]
      unfold Gh
      cases hz:(C8 SG r2).2.1 with
      | true=>
       obtain⟨i4,e4,s4⟩:=LV hl s3
       refine⟨i4,?_,s4⟩
       simp only[if_true]
       rw[wW (pV hz),e4]
       rfl
      | false=>exact⟨i3,rfl,s3⟩
     obtain⟨i4,e4,s4⟩:=hp
     rw[show ([[97,108,112,104,97],[97],[98,101,116,97],[98],[112,114,101,118,105,101,119],[112,114,101],[99],[114,99]]:List Str)=SG from rfl,e4]
     simp only[Option.bind_some,beq_self_eq_true,if_true]
     obtain⟨i5,e5,s5⟩:=sD hl s4 ep rel (Gh r2).1 (Gh r2).2.1
     rw[e5]
     simp only[Option.bind_some]
     obtain⟨i6,e6,s6⟩:=YW hl s5 (ws:=Ye) (by decide)
     have hd:∃ j:Nat,Option.bind (BY a (i5:Int) 0 0 Ye) (fun (x55,x56,x57)=>(if x56=true then Option.bind (Bc a x57 0 0) (fun (x58,x59)=>some (x59,true,x58)) else some (x57,false,[])))=some ((j:Int),(Sp (Fe (Gh r2).2.2).2.2).1,(Sp (Fe (Gh r2).2.2).2.2).2.1)∧Suf a j (Sp (Fe (Gh r2).2.2).2.2).2.2:=by
      rw[e6]
      simp only[Option.bind_some]
      unfold Sp
      cases hz:(C8 Ye (Fe (Gh r2).2.2).2.2).2.1 with
      | true=>
       obtain⟨i7,e7,s7⟩:=LV hl s6
       refine⟨i7,?_,s7⟩
       simp only[if_true]
       rw[e7]
       rfl
      | false=>exact⟨i6,rfl,s6⟩
     obtain⟨i7,e7,s7⟩:=hd
     rw[show ([[100,101,118]]:List Str)=Ye from rfl,e7]
     simp only[Option.bind_some]
     obtain⟨i8,e8,s8⟩:=rK hl s7
     rw[e8]
     simp only[Option.bind_some]
     have hLe:=n8 a.length (Sp (Fe (Gh r2).2.2).2.2).2.2
     generalize EW a.length (Sp (Fe (Gh r2).2.2).2.2).2.2=L at s8 hLe
     rcases hLe with hL | hL
     · rw[hL]
       have hpos:=s8.posR
       have hps:=s8.pos
       by_cases hr:L.2.1=[]
       · have h9:¬ ((i8:Int) < (a.length:Int)):=by rw[hr] at hps; simp only[List.length_nil] at hps; omega
         simp[hr,h9]
       · have h9:(i8:Int) < (a.length:Int):=by
          have:=List.length_pos_iff.2 hr
          omega
         simp[hr,h9,hpos,zP]
     · simp[hL,zP]
   · rw[if_pos herr]
     have hw:∀ (i:Int) (ws:List Str),BY a i (E1 a.length r).2.2.1 (E1 a.length r).2.2.2 ws=some ([],false,i):=fun i ws=>by
      unfold BY
      rw[if_pos (by simpa using herr)]
     rw[hw]
     simp only[Option.bind_some,Bool.false_eq_true,if_false]
     have hb:((E1 a.length r).2.2.1 == 0)=false:=by simpa using herr
     rw[hb]
     simp only[Bool.false_eq_true,if_false,Option.bind_some]
     rw[hw]
     simp[herr,zP]
 · rw[if_pos (by simp; omega),if_pos (by omega)]
   rfl
end Go.Vm
namespace Go.Vm
open Go
def b2i (b:Bool):Int:=if b=true then 1 else 0
theorem u6 (a b:Bool):w64 (b2i a - b2i b)=RX (b2i a) (b2i b):=by cases a <;> cases b <;> decide
theorem gR {α:Type} (c:α→α→Int) (x y:α):oC c [x] [y]=c x y:=by
 simp only[oC]
 split
 · rfl
 · rename_i h; simp at h; exact h.symm
end Go.Vm
namespace Go.Vm
open Go
def Zh (d:Str):Bool:=!(d == []) && (C7 (isP 1) d 0 == d.length) && (J4 d == d)
def Ys (b:Bool) (d:Str):Bool:=if b=true then Zh d else d == []
def aI (p:Str):Bool:=!(p == []) && (C7 (isP 5) p 0 == p.length) && (Gi p == p) && (!(C7 (isP 1) p 0 == p.length) || (J4 p == p))
def sW (p:Int):Bool:=((p == 97) || (p == 98)) || (p == 114)
def gU (v:AF):Bool:=Zh v.Epoch && !(v.Release == []) && ((v.Pre == 0) || sW v.Pre) && Ys (sW v.Pre) v.PreNum && Ys v.Post v.PostNum && Ys v.Dev v.DevNum && v.Release.all Zh && v.Local.all aI
structure QT (v:AF):Prop where
 e:v.Epoch.length≤1048576
 p:v.PreNum.length≤1048576
 o:v.PostNum.length≤1048576
 d:v.DevNum.length≤1048576
 r:v.Release.length≤1048576
 l:v.Local.length≤1048576
 rs:∀ x∈v.Release,x.length≤1048576
 ls:∀ x∈v.Local,x.length≤1048576
theorem wV (s:Str) (k:Int) (hs:s.length≤1048576):Cq s 0 k=some (C7 (isP k) s 0:Int):=by
 rw[Oz _ _ _ (by omega)]
 unfold tM
 rw[if_neg (by omega)]
 rfl
theorem FW (d:Str) (b:Bool) (hd:d.length≤1048576):Dx d b=some (Ys b d):=by
 unfold Dx Ys
 cases b with
 | false=>rfl
 | true=>
  rw[wV d 1 hd,FD d (by omega)]
  simp only[Bool.not_true,Bool.false_eq_true,if_false,if_true,Option.bind_some]
  unfold Zh
  have e:((C7 (isP 1) d 0:Int) == (d.length:Int))=(C7 (isP 1) d 0 == d.length):=by
   rw[Bool.eq_iff_iff]; simp; omega
  rw[e]
  cases (d == []) <;> cases (C7 (isP 1) d 0 == d.length) <;> rfl
theorem iC (p:Str) (hp:p.length≤1048576):Ob p=some (aI p):=by
 unfold Ob aI
 rw[wV p 1 hp,wV p 5 hp,FD p (by omega),HN p (by omega)]
 simp only[Option.bind_some]
 rw[show ofb ((p.map fun c:UInt8=>(c.toNat:Int)).map mV)=Gi p from rfl]
 have e:∀ k,((C7 (isP k) p 0:Int) != (p.length:Int)) = !(C7 (isP k) p 0 == p.length):=fun k=>by
  rw[bne,Bool.not_inj_iff,Bool.eq_iff_iff]; simp; omega
 rw[e,e]
 cases (p == []) <;> cases (C7 (isP 5) p 0 == p.length) <;> cases (Gi p == p) <;> cases (C7 (isP 1) p 0 == p.length) <;> cases (J4 p == p) <;> rfl
theorem lU {α:Type} {l:List α} {p:α→Bool} {f:Int→Option (Step Int (Int ⊕ Unit))} (h1:∀ (i:Nat) (h:i < l.length),f (i:Int)=if p l[i]=true then some (.done (.inl (i:Int))) else some (.next ((i + 1:Nat):Int))) (h2:f (l.length:Int)=some (.done (.inr ()))) :
 ∃ t,Bi f 0=some t∧(match t with | .inl k=>0≤k∧l.any p=true | .inr _=>l.any p=false):=by
 refine rH (fun x:Int=>∃ i:Nat,x=i∧i≤l.length∧(l.take i).any p=false) (fun x:Int=>l.length - x.toNat) _ (fun x hx=>?_) (x:=0) ⟨0,rfl,Nat.zero_le _,rfl⟩
 obtain⟨i,rfl,hi,ht⟩:=hx
 rcases Nat.lt_or_ge i l.length with h | h
 · rw[h1 i h]
   cases hp:p l[i] with
   | true=>
    left
    refine⟨_,rfl,by simp,?_⟩
    exact List.any_eq_true.2 ⟨l[i],List.getElem_mem h,hp⟩
   | false=>
    right
    refine⟨_,rfl,⟨i + 1,rfl,h,?_⟩,by simp only[Int.toNat_natCast]; omega⟩
    rw[List.take_add_one,List.getElem?_eq_getElem h,List.any_append,ht]
    simp[hp]
 · have:i=l.length:=by omega
   subst this
   left
   refine⟨_,h2,?_⟩
   simpa using ht
theorem Zc (l:List Str) (hl:l.length≤1048576) (hs:∀ x∈l,x.length≤1048576):Az l=some (l.any fun d=>!Zh d):=by
 unfold Az BO
 obtain⟨t,h1,h2⟩:=lU (l:=l) (p:=fun d=>!Zh d) (f:=A0 l) (fun i h=>by
  unfold A0
  rw[if_pos (by simp; omega),Eb h]
  simp only[Option.bind_some,P4]
  rw[FW _ _ (hs _ (List.getElem_mem h)),CK (by omega) (by omega)]
  rfl) (by
  unfold A0
  rw[if_neg (by simp)])
 rw[h1]
 cases t with
 | inl k=>simp only at h2; rw[h2.2]; simp[h2.1]
 | inr u=>simp only at h2; rw[h2]; rfl
theorem Yv (l:List Str) (hl:l.length≤1048576) (hs:∀ x∈l,x.length≤1048576):A1 l=some (l.any fun d=>!aI d):=by
 unfold A1 BM
 obtain⟨t,h1,h2⟩:=lU (l:=l) (p:=fun d=>!aI d) (f:=AI l) (fun i h=>by
  unfold AI
  rw[if_pos (by simp; omega),Eb h]
  simp only[Option.bind_some,QB]
  rw[iC _ (hs _ (List.getElem_mem h)),CK (by omega) (by omega)]
  rfl) (by
  unfold AI
  rw[if_neg (by simp)])
 rw[h1]
 cases t with
 | inl k=>simp only at h2; rw[h2.2]; simp[h2.1]
 | inr u=>simp only at h2; rw[h2]; rfl
theorem cW {α:Type} (p:α→Bool):∀ l:List α,(l.any fun d=>!p d) = !l.all p
 | []=>rfl
 | x :: l=>by simp only[List.any_cons,List.all_cons,cW p l,Bool.not_and]
theorem X6 (v:AF) (h:QT v):P5 v=some (gU v):=by
 unfold P5 gU
 rw[FW _ _ h.e,FW _ _ h.p,FW _ _ h.o,FW _ _ h.d,Zc _ h.r h.rs,Yv _ h.l h.ls,cW,cW]
 simp only[Option.bind_some]
 have e1:Ys true v.Epoch=Zh v.Epoch:=rfl
 have e2:((v.Release.length:Int) == 0)=(v.Release == []):=by
  cases v.Release <;> simp <;> omega
 rw[e1,e2]
 change (Option.bind (if (((!Zh v.Epoch) || (v.Release == [])) || ((v.Pre != 0) && (!sW v.Pre)))=true then some true else some (!Ys (sW v.Pre) v.PreNum)) _)=_
 rw[bne]
 cases Zh v.Epoch <;> cases (v.Release == []) <;> cases (v.Pre == 0) <;> cases sW v.Pre <;> cases Ys _ v.PreNum <;> cases Ys v.Post v.PostNum <;> cases Ys v.Dev v.DevNum <;> cases v.Release.all Zh <;> cases v.Local.all aI <;> rfl
end Go.Vm
namespace Go.Vm
open Go
def wA (m:Str) (c:Str→Str→Int):List Str→Int
 | []=>0
 | y :: b=>if c m y≠0 then c m y else wA m c b
def OL (m:Str) (c:Str→Str→Int):List Str→List Str→Int
 | [],b=>wA m c b
 | x :: a,[]=>if c x m≠0 then c x m else OL m c a []
 | x :: a,y :: b=>if c x y≠0 then c x y else OL m c a b
theorem q9 {m:Str} {c:Str→Str→Int}:∀ (a b:List Str) (i:Nat),(i < a.length∨i < b.length)→OL m c (a.drop i) (b.drop i)=if c (a.getD i m) (b.getD i m)≠0 then c (a.getD i m) (b.getD i m) else OL m c (a.drop (i + 1)) (b.drop (i + 1)):=by
 intro a b i h
 rcases Nat.lt_or_ge i a.length with h1 | h1 <;> rcases Nat.lt_or_ge i b.length with h2 | h2
 · rw[List.drop_eq_getElem_cons h1,List.drop_eq_getElem_cons h2]
   simp only[OL,List.getD_eq_getElem?_getD,List.getElem?_eq_getElem h1,List.getElem?_eq_getElem h2,Option.getD_some]
 · rw[List.drop_eq_getElem_cons h1,List.drop_eq_nil_of_le h2,List.drop_eq_nil_of_le (by omega:b.length≤i + 1)]
   simp only[OL,List.getD_eq_getElem?_getD,List.getElem?_eq_getElem h1,List.getElem?_eq_none h2,Option.getD_some,Option.getD_none]
 · rw[List.drop_eq_getElem_cons h2,List.drop_eq_nil_of_le h1,List.drop_eq_nil_of_le (by omega:a.length≤i + 1)]
   simp only[OL,wA,List.getD_eq_getElem?_getD,List.getElem?_eq_getElem h2,List.getElem?_eq_none h1,Option.getD_some,Option.getD_none]
 · omega
theorem gH {m:Str} {c:Str→Str→Int} {a b:List Str} {f:Int→Option (Step Int (Int ⊕ Unit))} (h1:∀ i:Nat,(i < a.length∨i < b.length)→f (i:Int)=if c (a.getD i m) (b.getD i m)≠0 then some (.done (.inl (c (a.getD i m) (b.getD i m)))) else some (.next ((i + 1:Nat):Int))) (h2:∀ i:Nat,a.length≤i→b.length≤i→f (i:Int)=some (.done (.inr ()))) :
 Bi f 0=some (if OL m c a b≠0 then .inl (OL m c a b) else .inr ()):=by
 have:=Cw (f:=f) (fun x:Int=>∃ i:Nat,x=i) (fun x:Int=>(a.length + b.length) - x.toNat) (fun x=>if OL m c (a.drop x.toNat) (b.drop x.toNat)≠0 then .inl (OL m c (a.drop x.toNat) (b.drop x.toNat)) else .inr ()) (fun x hx=>by
  obtain⟨i,rfl⟩:=hx
  simp only[Int.toNat_natCast]
  by_cases h:i < a.length∨i < b.length
  · rw[h1 i h,q9 a b i h]
    by_cases z:c (a.getD i m) (b.getD i m)≠0
    · left
      rw[if_pos z,if_pos z,if_pos z]
    · right
      rw[if_neg z,if_neg z]
      exact⟨_,rfl,⟨i + 1,rfl⟩,by simp only[Int.toNat_natCast]; omega,by simp only[Int.toNat_natCast]⟩
  · left
    rw[h2 i (by omega) (by omega),List.drop_eq_nil_of_le (by omega),List.drop_eq_nil_of_le (by omega)]
    simp[OL,wA]) (x:=0) ⟨0,rfl⟩
 simpa using this
theorem vP (a b:List Str) (i:Nat):decide ((i:Int) < (if (List.length b:Int) > (List.length a:Int) then (List.length b:Int) else (List.length a:Int)))=decide (i < a.length∨i < b.length):=by
 rw[Bool.eq_iff_iff]
 simp only[decide_eq_true_eq]
 split <;> omega
theorem vO (a:List Str) (i:Nat) (m:Str):(if (decide ((i:Int) < (List.length a:Int)))=true then Option.bind (ixl a i) (fun x22=>some x22) else some m:Option Str)=some (a.getD i m):=by
 rcases Nat.lt_or_ge i a.length with h | h
 · rw[if_pos (by simp; omega),Eb h]
   simp[List.getD_eq_getElem?_getD,h]
 · rw[if_neg (by simp; omega)]
   simp[List.getD_eq_getElem?_getD,List.getElem?_eq_none h]
theorem Sw {a:List Str} {m:Str} (h:∀ x∈a,x.length≤1048576) (hm:m.length≤1048576) (i:Nat):(a.getD i m).length≤1048576:=by
 rw[List.getD_eq_getElem?_getD]
 cases e:a[i]? with
 | none=>exact hm
 | some x=>exact h x (List.mem_of_getElem? e)
theorem uZ (a b:List Str) (ha:a.length≤1048576) (hb:b.length≤1048576) (hsa:∀ x∈a,x.length≤1048576) (hsb:∀ x∈b,x.length≤1048576):Cc a b=some (OL [48] WM a b):=by
 unfold Cc
 rw[gH (m:=[48]) (c:=WM) (a:=a) (b:=b) (fun i hi=>by
  unfold Ch
  rw[vP,if_pos (by simpa using hi)]
  simp only[HU,Option.bind_some]
  rw[vO,vO]
  simp only[Option.bind_some]
  rw[FI _ _ (by have:=Sw hsa (m:=[48]) (by simp) i; omega) (by have:=Sw hsb (m:=[48]) (by simp) i; omega)]
  simp only[Option.bind_some]
  rw[CK (by omega) (by omega)]
  generalize a.getD i [48]=u
  generalize b.getD i [48]=v
  by_cases z:WM u v=0
  · rw[if_neg (by simp[z]),if_neg (by simp[z])]; rfl
  · rw[if_pos (by simp[z]),if_pos z]) (fun i h1 h2=>by
  unfold Ch
  rw[vP,if_neg (by simp; omega)])]
 by_cases z:OL [48] WM a b=0 <;> simp[z]
def XP (p:Str):Bool:=!(p == []) && (C7 (isP 1) p 0 == p.length)
def O1 (p:Str):Int:=if p=[] then 0 else if XP p=true then 2 else 1
def kd (p:Str):List Str:=if XP p=true then [p] else []
def kn (p:Str):List Str:=if XP p=true then [] else [p]
def lpM:Str→Str→Int:=lex2 (fun x y=>RX (O1 x) (O1 y)) (lex2 (fun x y=>oC WM (kd x) (kd y)) (fun x y=>oC Lib.compareBytes (kn x) (kn y)))
theorem RF (p:Str) (hp:p.length≤1048576):DE p=some (XP p):=by
 unfold DE XP
 rw[wV p 1 hp]
 have e:((C7 (isP 1) p 0:Int) == (p.length:Int))=(C7 (isP 1) p 0 == p.length):=by
  rw[Bool.eq_iff_iff]; simp; omega
 simp only[Option.bind_some]
 rw[e]
 cases (p == []) <;> cases (C7 (isP 1) p 0 == p.length) <;> rfl
theorem kC (p:Str) (hp:p.length≤1048576):Bt p=some (O1 p):=by
 unfold Bt O1
 rw[RF p hp]
 by_cases h:p=[]
 · simp[h]
 · cases hd:XP p <;> simp[h,hd]
theorem U0 (x y:Str) (hx:x.length≤1048576) (hy:y.length≤1048576):Ff x y=some (lpM x y):=by
 unfold Ff
 rw[kC x hx,kC y hy,RF x hx,FI x y (by omega) (by omega)]
 simp only[Option.bind_some,Fm,Ju]
 unfold lpM lex2
 simp only[]
 by_cases h:RX (O1 x) (O1 y)=0
 · have e:=qX h
   rw[if_neg (show ¬ ((RX (O1 x) (O1 y) != 0)=true) by simp[h]),if_neg (show ¬ (RX (O1 x) (O1 y)≠0) by simp[h])]
   have hdy:XP x=XP y:=by
    unfold O1 at e
    by_cases hx0:x=[]
    · by_cases hy0:y=[]
      · rw[hx0,hy0]
      · rw[if_pos hx0,if_neg hy0] at e
        split at e <;> simp at e
    · by_cases hy0:y=[]
      · rw[if_neg hx0,if_pos hy0] at e
        split at e <;> simp at e
      · rw[if_neg hx0,if_neg hy0] at e
        cases h1:XP x <;> cases h2:XP y <;> simp[h1,h2] at e <;> rfl
   unfold kd kn
   rw[← hdy]
   cases hd:XP x with
   | true=>
    simp only[if_true,gR]
    by_cases z:WM x y=0 <;> simp[z,oC]
   | false=>
    simp only[Bool.false_eq_true,if_false,gR]
    simp[oC]
 · rw[if_pos (by simp[h]),if_pos h]
theorem sZ (a b:List Str) (ha:a.length≤1048576) (hb:b.length≤1048576) (hsa:∀ x∈a,x.length≤1048576) (hsb:∀ x∈b,x.length≤1048576):Cf a b=some (OL [] lpM a b):=by
 unfold Cf
 rw[gH (m:=[]) (c:=lpM) (a:=a) (b:=b) (fun i hi=>by
  unfold Cm
  rw[vP,if_pos (by simpa using hi)]
  simp only[Hh,Option.bind_some]
  rw[vO,vO]
  simp only[Option.bind_some]
  rw[U0 _ _ (Sw hsa (by simp) i) (Sw hsb (by simp) i)]
  simp only[Option.bind_some]
  rw[CK (by omega) (by omega)]
  generalize a.getD i []=u
  generalize b.getD i []=v
  by_cases z:lpM u v=0
  · rw[if_neg (by simp[z]),if_neg (by simp[z])]; rfl
  · rw[if_pos (by simp[z]),if_pos z]) (fun i h1 h2=>by
  unfold Cm
  rw[vP,if_neg (by simp; omega)])]
 by_cases z:OL [] lpM a b=0 <;> simp[z]
def cA (v:AF):Int:=if (((v.Pre == 0) && (!v.Post)) && v.Dev)=true then 0 else if (v.Pre == 0)=true then 4 else if (v.Pre == 97)=true then 1 else if (v.Pre == 98)=true then 2 else 3
theorem TF (v:AF):Jj v=some (cA v):=by
 unfold Jj cA
 split
 · rfl
 · split
   · rfl
   · split
     · rfl
     · split <;> rfl
theorem d5 (b:Bool):HL b=some (b2i b):=by cases b <;> rfl
def xK:AF→AF→Int:=
 lex2 (fun x y=>WM x.Epoch y.Epoch) (lex2 (fun x y=>OL [48] WM x.Release y.Release) (lex2 (fun x y=>RX (cA x) (cA y)) (lex2 (fun x y=>WM x.PreNum y.PreNum) (lex2 (fun x y=>RX (b2i x.Post) (b2i y.Post)) (lex2 (fun x y=>WM x.PostNum y.PostNum) (lex2 (fun x y=>RX (-b2i x.Dev) (-b2i y.Dev)) (lex2 (fun x y=>WM x.DevNum y.DevNum) (fun x y=>OL [] lpM x.Local y.Local))))))))
theorem uB (a b:Bool):w64 (b2i b - b2i a)=RX (-b2i a) (-b2i b):=by cases a <;> cases b <;> decide
theorem xF (x y:Int) (l:List Int):(((x :: y :: l).find? (· != 0)).getD 0)=if x≠0 then x else (((y :: l).find? (· != 0)).getD 0):=by
 by_cases h:x=0 <;> simp[h]
theorem yE (x:Int):(([x].find? (· != 0)).getD 0)=x:=by
 by_cases h:x=0 <;> simp[h]
theorem fS (a b:AF) (ha:QT a) (hb:QT b):EU a b=some (if gU a=true∧gU b=true then xK a b else 0):=by
 unfold EU
 have ae:=ha.e; have ap:=ha.p; have ao:=ha.o; have ad:=ha.d
 have be:=hb.e; have bp:=hb.p; have bo:=hb.o; have bd:=hb.d
 rw[X6 a ha,X6 b hb,FI _ _ (by omega) (by omega),FI _ _ (by omega) (by omega),FI _ _ (by omega) (by omega),FI _ _ (by omega) (by omega),uZ _ _ ha.r hb.r ha.rs hb.rs,sZ _ _ ha.l hb.l ha.ls hb.ls,TF,TF]
 simp only[Option.bind_some,d5,Fm]
 rw[Q3 _ (by simp)]
 simp only[xF,yE,Option.bind_some]
 rw[u6,uB]
 cases h1:gU a <;> cases h2:gU b <;> simp[xK,lex2]
end Go.Vm
namespace Go.Vm
open Go
def xS (c:UInt8):UInt8:=UInt8.ofNat (mV (c.toNat:Int)).toNat
theorem tF (s:Str):Gi s=s.map xS:=by
 simp only[Gi,ofb,List.map_map]
 rfl
theorem Pb (r:Str):RP r <:+ r:=List.dropWhile_suffix _
theorem t6 (r:Str):Ja r <:+ r:=List.dropWhile_suffix _
theorem oO (a:Str):v0M a <:+ a:=by
 unfold v0M
 split
 · exact List.suffix_cons _ _
 · exact List.suffix_rfl
theorem n0 (r:Str):(Ex r).2 <:+ r:=by
 unfold Ex
 split
 · exact List.suffix_rfl
 · rename_i c q e
   split
   · have:q <:+ RP r:=by rw[e]; exact List.suffix_cons _ _
     exact this.trans (Pb r)
   · exact List.suffix_rfl
theorem jB:∀ (n:Nat) (r:Str),(MI n r).2 <:+ r
 | 0,_=>List.suffix_rfl
 | n + 1,r=>by
  simp only[MI]
  have h:=Pb r
  split
  · rename_i q e
    rw[e] at h
    split
    · exact (jB n q).trans ((List.suffix_cons _ _).trans h)
    · exact h
  · exact h
theorem r8 (n:Nat) (r:Str):(E1 n r).2.1 <:+ r:=by
 unfold E1
 split
 · exact jB _ _
 · exact List.suffix_rfl
theorem FJ (ws:List Str) (r:Str):(C8 ws r).2.2 <:+ r:=by
 unfold C8
 split
 · exact (List.drop_suffix _ _).trans (List.tail_suffix _)
 · split
   · exact List.drop_suffix _ _
   · exact List.suffix_rfl
theorem Ou (r:Str):(Dq r).2 <:+ r:=by
 have h:EY r <:+ r:=by
  unfold EY
  split
  · exact List.tail_suffix _
  · exact List.suffix_rfl
 unfold Dq
 split
 · exact (Pb _).trans h
 · exact h
theorem t7 (r:Str):(Gh r).2.2 <:+ r:=by
 unfold Gh
 split
 · exact (Ou _).trans (FJ _ _)
 · exact FJ _ _
theorem qS (r:Str):(Fe r).2.2 <:+ r:=by
 unfold Fe
 split
 · exact (Pb _).trans (List.tail_suffix _)
 · split
   · exact (Ou _).trans (FJ _ _)
   · exact FJ _ _
theorem uM (r:Str):(Sp r).2.2 <:+ r:=by
 unfold Sp
 split
 · exact (Ou _).trans (FJ _ _)
 · exact FJ _ _
end Go.Vm
namespace Go.Vm
open Go
def okc (c:UInt8):Bool:=isP 5 c || c == 45 || c == 46 || c == 95 || c == 33 || c == 43
def DJ (r q:Str):Prop:=∃ p,r=p ++ q∧∀ c∈p,okc c=true
theorem DJ.refl (r:Str):DJ r r:=⟨[],rfl,fun c h=>by cases h⟩
theorem DJ.trans {a b c:Str} (h:DJ a b) (k:DJ b c):DJ a c:=by
 obtain⟨p,rfl,h1⟩:=h
 obtain⟨q,rfl,h2⟩:=k
 exact⟨p ++ q,by rw[List.append_assoc],fun x hx=>(List.mem_append.1 hx).elim (h1 x) (h2 x)⟩
theorem DJ.cons {c:UInt8} {r:Str} (h:okc c=true):DJ (c :: r) r:=⟨[c],rfl,fun x hx=>by rw[List.mem_singleton.1 hx]; exact h⟩
theorem VD {p:UInt8→Bool}:∀ {r:Str} {c:UInt8},c∈r.takeWhile p→p c=true
 | [],c,h=>by cases h
 | d :: r,c,h=>by
  cases hd:p d with
  | true=>
   rw[List.takeWhile_cons_of_pos hd] at h
   rcases List.mem_cons.1 h with rfl | h
   · exact hd
   · exact VD h
  | false=>rw[List.takeWhile_cons_of_neg (by simp[hd])] at h; cases h
theorem DJ.drop {p:UInt8→Bool} (hp:∀ c,p c=true→okc c=true) (r:Str):DJ r (r.dropWhile p):=
 ⟨r.takeWhile p,(List.takeWhile_append_dropWhile ..).symm,fun c hc=>hp c (VD hc)⟩
theorem wI {c:UInt8} (h:isP 1 c=true):okc c=true:=by
 have:isP 5 c=true:=by
  unfold isP isB at h ⊢
  rw[if_pos rfl] at h
  rw[if_neg (by decide),if_neg (by decide),if_neg (by decide),if_neg (by decide),if_pos rfl,h]
  rfl
 unfold okc
 rw[this]
 rfl
theorem vF {c:UInt8} (h:isP 5 c=true):okc c=true:=by
 unfold okc
 rw[h]
 rfl
theorem YG {c:UInt8} (h:gN c=true):okc c=true:=by
 unfold gN at h
 unfold okc
 simp only[Bool.or_eq_true] at h ⊢
 rcases h with (h | h) | h
 · exact .inl (.inl (.inl (.inl (.inr h))))
 · exact .inl (.inl (.inr h))
 · exact .inl (.inl (.inl (.inr h)))
theorem TM (r:Str):DJ r (RP r):=DJ.drop (fun c h=>wI h) r
theorem nX (r:Str):DJ r (Ex r).2:=by
 unfold Ex
 cases h:RP r with
 | nil=>exact DJ.refl r
 | cons c q=>
  simp only
  split
  · rename_i hc
    have h1:=TM r
    rw[h] at h1
    refine h1.trans (DJ.cons ?_)
    rw[hc.2]; decide
  · exact DJ.refl r
theorem jQ:∀ (n:Nat) (r:Str),DJ r (MI n r).2
 | 0,r=>DJ.refl r
 | n + 1,r=>by
  have h1:=TM r
  unfold MI
  split
  · rename_i q h
    rw[h] at h1
    split
    · exact (h1.trans (DJ.cons (by decide))).trans (jQ n q)
    · exact h1
  · exact h1
theorem qB {n:Nat} {r:Str} (h:(E1 n r).2.2.1=0):DJ r (E1 n r).2.1∧r≠[]:=by
 unfold E1 at h ⊢
 split
 · rename_i hd
   exact⟨jQ _ r,fun e=>by rw[e] at hd; cases hd⟩
 · rename_i hd
   rw[if_neg hd] at h
   unfold JZ at h
   rw[if_neg hd] at h
   split at h <;> simp at h
theorem lS:∀ (ws:List Str) (r:Str) (b:Str × Bool),(b.2=true→r.take b.1.length=b.1)→(ws.foldl (CD r 0) b).2=true→r.take (ws.foldl (CD r 0) b).1.length=(ws.foldl (CD r 0) b).1
 | [],r,b,hb,h=>hb h
 | w :: ws,r,b,hb,h=>by
  simp only[List.foldl_cons] at h ⊢
  refine lS ws r _ (fun q=>?_) h
  unfold CD at q ⊢
  split
  · rename_i g
    simp only[Bool.and_eq_true] at g
    have:=g.1
    unfold stM at this
    simp only[Bool.and_eq_true,beq_iff_eq] at this
    simpa using this.2
  · rename_i g
    rw[if_neg g] at q
    exact hb q
theorem rC {ws:List Str} {r:Str} (h:(BZ ws r).2=true):r.take (BZ ws r).1.length=(BZ ws r).1:=lS ws r ([],false) (fun q=>by cases q) h
theorem Xm {ws:List Str} {r:Str} (hw:∀ w∈ws,∀ c∈w,okc c=true) (h:(BZ ws r).2=true):DJ r (r.drop (BZ ws r).1.length):=
 ⟨(BZ ws r).1,by conv=>lhs; rw[← List.take_append_drop (BZ ws r).1.length r,rC h],hw _ (FL h).1⟩
theorem Gw {ws:List Str} (hw:∀ w∈ws,∀ c∈w,okc c=true) (r:Str):DJ r (C8 ws r).2.2:=by
 unfold C8
 split
 · rename_i h
   simp only[Bool.and_eq_true] at h
   cases r with
   | nil=>cases h.1
   | cons c q=>exact (DJ.cons (YG h.1)).trans (Xm hw h.2)
 · split
   · rename_i h; exact Xm hw h
   · exact DJ.refl r
theorem bS (r:Str):DJ r (EY r):=by
 unfold EY
 split
 · rename_i h
   simp only[Bool.and_eq_true] at h
   cases r with
   | nil=>cases h.1
   | cons c q=>exact DJ.cons (YG h.1)
 · exact DJ.refl r
theorem Xg (r:Str):DJ r (Dq r).2:=by
 unfold Dq
 split
 · exact (bS r).trans (TM _)
 · exact bS r
theorem MW:(∀ w∈SG,∀ c∈w,okc c=true)∧(∀ w∈Q1,∀ c∈w,okc c=true)∧∀ w∈Ye,∀ c∈w,okc c=true:=by decide
theorem sK (r:Str):DJ r (Gh r).2.2:=by
 unfold Gh
 split
 · exact (Gw MW.1 r).trans (Xg _)
 · exact Gw MW.1 r
theorem qO (r:Str):DJ r (Fe r).2.2:=by
 unfold Fe
 split
 · rename_i h
   cases r with
   | nil=>cases h
   | cons c q=>
    have hc:okc c=true:=by
     unfold YP at h
     split at h
     · rename_i e; cases e; decide
     · cases h
    exact (DJ.cons hc).trans (TM q)
 · split
   · exact (Gw MW.2.1 r).trans (Xg _)
   · exact Gw MW.2.1 r
theorem tO (r:Str):DJ r (Sp r).2.2:=by
 unfold Sp
 split
 · exact (Gw MW.2.2 r).trans (Xg _)
 · exact Gw MW.2.2 r
theorem lV (r:Str):DJ r (Ja r):=DJ.drop (fun c h=>vF h) r
theorem lF:∀ (n:Nat) (r:Str),DJ r (Pc n r).2
 | 0,r=>DJ.refl r
 | n + 1,r=>by
  unfold Pc
  split
  · rename_i h
    simp only[Bool.and_eq_true] at h
    refine (lV r).trans ?_
    cases hr:Ja r with
    | nil=>rw[hr] at h; cases h.1
    | cons c q=>
     rw[hr] at h
     exact (DJ.cons (YG h.1)).trans (lF n q)
  · exact lV r
theorem nA (n:Nat) (r:Str):DJ r (EW n r).2.1:=by
 unfold EW
 split
 · split
   · exact (DJ.cons (by decide)).trans (lF _ _)
   · exact DJ.cons (by decide)
 · exact DJ.refl _
theorem Pv {s:Str} (h:(A3 s).2.Err=0):(∀ c∈s,okc c=true)∧s≠[]∧s.length≤64:=by
 have hlen:s.length≤64:=by
  unfold A3 at h
  split at h
  · cases h
  · omega
 have key:(∀ c∈Gi s,okc c=true)∧Gi s≠[]:=by
  unfold A3 at h
  rw[if_neg (by omega)] at h
  have hv:DJ (Gi s) (v0M (Gi s)):=by
   unfold v0M
   split
   · rename_i q e; rw[e]; exact DJ.cons (by decide)
   · exact DJ.refl _
  have he:=hv.trans (nX (v0M (Gi s)))
  generalize (Ex (v0M (Gi s))).1=ep at h
  generalize (Ex (v0M (Gi s))).2=r at h he
  unfold iX at h
  simp only at h
  split at h
  · rename_i q; exact absurd h q
  · rename_i q1
    split at h
    · rename_i q; exact absurd h q
    · rename_i q2
      split at h
      · cases h
      · rename_i q3
        obtain⟨e1,e2⟩:=qB (n:=s.length) (r:=r) (by simpa using q1)
        have e5:=(((he.trans e1).trans (sK _)).trans (qO _)).trans (tO _)
        have e6:=e5.trans (nA s.length _)
        have hnil:(EW s.length (Sp (Fe (Gh (E1 s.length r).2.1).2.2).2.2).2.2).2.1=[]:=by
         simpa using q3
        rw[hnil] at e6
        obtain⟨p,hp1,hp2⟩:=e6
        rw[List.append_nil] at hp1
        rw[hp1]
        refine⟨hp2,fun e=>e2 ?_⟩
        obtain⟨p',hp3,_⟩:=he
        rw[hp1,e] at hp3
        exact (List.append_eq_nil_iff.1 hp3.symm).2
 rw[tF] at key
 refine⟨fun c hc=>?_,fun e=>key.2 (by rw[e]; rfl),hlen⟩
 have:=key.1 (xS c) (List.mem_map_of_mem hc)
 revert this
 have all:∀ n:Fin 256,okc (xS (UInt8.ofNat n.val))=true→okc (UInt8.ofNat n.val)=true:=by decide +kernel
 have:=all ⟨c.toNat,c.toNat_lt⟩
 simpa using this
end Go.Vm
namespace Go.Vm
open Go
theorem PP (i:Nat) (h:i≤9223372036854775806):w64 ((i:Int) + 1)=((i + 1:Nat):Int):=by rw[CK (by omega) (by omega)]; rfl
end Go.Vm
namespace Go.Vm
open Go
def Bz:List Str:=[[126,61],[61,61],[33,61],[60,61],[62,61],[60],[62],[61,61,61]]
def eqW:Str:=[61,61]
def neW:Str:=[33,61]
def teW:Str:=[126,61]
def Pe:Str:=[61,61,61]
def JJ (s:Str) (i:Nat) (c:UInt8):Bool:=s[i]? == some c
def blk (s:Str) (i:Nat):Nat:=C7 (isP 6) s i
def Rp (s:Str) (i:Nat):Int × Int:=if s.length≤i then (11,(s.length:Int)) else (10,(i:Int))
def opE (s:Str) (i:Nat):Str × Nat × Int × Int:=
 let w:=Bz.foldl (CD s i) ([],false)
 if w.2=true then (w.1,i + w.1.length,0,0)
 else
  let j:=if (JJ s i 126 || JJ s i 33 || JJ s i 61)=true then i + 1 else i
  (w.1,j + w.1.length,Rp s j)
def CL (c:UInt8):Bool:=!isP 6 c && !(c == 44)
def Zr (s:Str) (f:Nat):Nat:=C7 CL s f
def Rk (c:UInt8):Bool:=decide (c.toNat < 33) || decide (126 < c.toNat)
def CX:Str:=[46,42]
def Ke (w:Str):Bool:=decide (2≤w.length) && (w.drop (w.length - 2) == CX)
def Yf (v:AF):Bool:=(v.Pre == 0) && !v.Post && !v.Dev && v.Local.isEmpty
def Ld (o:Str) (star:Bool) (v:AF):Bool:=
 (star && !Yf v) || ((o == teW) && decide (v.Release.length < 2)) || (!(o == eqW) && !(o == neW) && !v.Local.isEmpty)
def J2 (o w:Str) (f:Nat):Str × Bool × Int × Int:=
 let st:=Ke w && ((o == eqW) || (o == neW))
 let b:=if st=true then w.take (w.length - 2) else w
 let p:=A3 b
 (b,st,if p.2.Err≠0 then (p.2.Err,(f:Int) + p.2.At) else if Ld o st p.1=true then (19,(f:Int)) else (0,0))
theorem pD {o w:Str} {f:Nat}:(J2 o w f).2.2.1=0→(J2 o w f).2.2.2=0:=by
 unfold J2
 simp only[]
 generalize (Ke w && ((o == eqW) || (o == neW)))=st
 generalize A3 (if st=true then w.take (w.length - 2) else w)=p
 by_cases hp:p.2.Err=0
 · rw[if_neg (show ¬ p.2.Err≠0 by simp[hp])]
   cases Ld o st p.1 <;> simp
 · rw[if_pos hp]
   intro q
   exact absurd q hp
def E4 (s:Str) (i:Nat) (o:Str):Str × Bool × Nat × Int × Int:=
 let f:=blk s i
 let e:=Zr s f
 let w:=(s.drop f).take (e - f)
 if w=[] then ([],false,e,Rp s e)
 else if o=Pe then (w,false,e,match w.findIdx? Rk with
  | some k=>(10,((f + k:Nat):Int))
  | none=>(0,0))
 else ((J2 o w f).1,(J2 o w f).2.1,e,(J2 o w f).2.2)
def Cz:Nat→Str→Nat→Nat→List AD→List AD × Int × Int
 | 0,_,_,_,acc=>(acc,0,0)
 | k + 1,s,x,n,acc=>
  let x1:=blk s x
  if n=32∧x1 < s.length then (acc,12,(x1:Int))
  else
   let o:=opE s x1
   if o.2.2.1≠0 then (acc,o.2.2)
   else
    let w:=E4 s o.2.1 o.1
    if w.2.2.2.1≠0 then (acc,w.2.2.2)
    else
     let acc2:=acc ++ [⟨o.1,w.1,w.2.1⟩]
     let x2:=blk s w.2.2.1
     if s.length≤x2 then (acc2,0,0)
     else if JJ s x2 44=true then Cz k s (x2 + 1) (n + 1) acc2
     else (acc2,Rp s x2)
def ST (s:Str):List AD × Int × Int:=
 if 256 < s.length then ([],12,256)
 else
  let x:=blk s 0
  if s.length≤x then ([],0,0)
  else
   let r:=Cz (s.length + 1) s x 0 []
   if r.2.1≠0 then ([],r.2) else (r.1,0,0)
section
variable (s:Str) (hs:s.length≤256)
include hs
theorem c9 {i:Nat} (hi:i≤s.length) (e f:Int):BT s i e f=some (blk s i:Int):=by
 unfold BT
 rw[Oz _ _ _ (by omega)]
 unfold tM
 rw[if_neg (by omega),Int.toNat_natCast]
 try rfl
omit hs in
theorem Uy {i:Nat} (hi:i≤s.length):i≤blk s i∧blk s i≤s.length:=⟨Wx _ _ _,Wy hi⟩
omit hs in
theorem kH (i:Nat) (c:UInt8) (e f:Int):BA s i e f (c.toNat:Int)=some (JJ s i c):=by
 unfold BA JJ
 by_cases h:i < s.length
 · rw[if_pos (by simpa using h),P8 h,List.getElem?_eq_getElem h]
   simp only[Option.bind_some]
   rw[HO]
   congr 1
 · rw[if_neg (by simpa using h),List.getElem?_eq_none (by omega)]
   rfl
omit hs in
theorem Yg (i:Nat):Bn s i 0 0=some (Rp s i):=by
 unfold Bn Rp A6 Av
 by_cases h:s.length≤i
 · rw[if_pos (by simpa using h),if_pos h]; rfl
 · rw[if_neg (by simpa using h),if_neg h]; rfl
omit hs in
theorem Lv (i:Nat):(Rp s i).1≠0:=by
 unfold Rp
 split <;> simp
omit hs in
theorem o8 (i:Nat) (hi:i≤s.length):((Bz.foldl (CD s i) ([],false)).2=true→(Bz.foldl (CD s i) ([],false)).1∈Bz∧i + (Bz.foldl (CD s i) ([],false)).1.length≤s.length)∧((Bz.foldl (CD s i) ([],false)).2=false→(Bz.foldl (CD s i) ([],false)).1=[]):=by
 have hS:Suf s i (s.drop i):=⟨hi,rfl⟩
 rw[L4 hS]
 refine⟨fun h=>?_,fun h=>?_⟩
 · obtain⟨h1,h2⟩:=FL (ws:=Bz) (r:=s.drop i) h
   refine⟨h1,?_⟩
   simp only[List.length_drop] at h2
   show i + (BZ Bz (s.drop i)).1.length≤s.length
   omega
 · have key:∀ (ws:List Str) (r:Str) (b:Str × Bool),(ws.foldl (CD r 0) b).2=false→(ws.foldl (CD r 0) b)=b:=by
    intro ws
    induction ws with
    | nil=>intro r b _; rfl
    | cons w ws ih=>
     intro r b hb
     simp only[List.foldl_cons] at hb ⊢
     have:=ih r _ hb
     rw[this] at hb ⊢
     unfold CD at hb ⊢
     split
     · rename_i q; rw[if_pos q] at hb; cases hb
     · rfl
   rw[key _ _ _ h]
theorem y5 {i:Nat} (hi:i≤s.length):CB s i 0 0=some ((opE s i).1,((opE s i).2.1:Int),(opE s i).2.2):=by
 unfold CB
 rw[S9 _ _ _ (by omega) (by simp)]
 simp only[Option.bind_some]
 obtain⟨h1,h2⟩:=o8 s i hi
 have hops:([[126,61],[61,61],[33,61],[60,61],[62,61],[60],[62],[61,61,61]]:List Str)=Bz:=rfl
 rw[hops]
 unfold opE
 generalize hW:Bz.foldl (CD s i) ([],false)=W at h1 h2
 obtain⟨w,b⟩:=W
 cases b with
 | true=>
  obtain⟨_,h3⟩:=h1 rfl
  simp only[Bool.not_true,Bool.false_eq_true,if_false,Option.bind_some,if_true]
  simp only at h3
  rw[CK (by omega) (by omega)]
  rfl
 | false=>
  have h3:=h2 rfl
  simp only at h3
  subst h3
  simp only[Bool.not_false,if_true,Bool.false_eq_true,if_false]
  have e1:=kH s i 126 0 0
  have e2:=kH s i 33 0 0
  have e3:=kH s i 61 0 0
  simp only[show ((126:UInt8).toNat:Int)=126 from rfl,show ((33:UInt8).toNat:Int)=33 from rfl,show ((61:UInt8).toNat:Int)=61 from rfl] at e1 e2 e3
  rw[e1,e2,e3]
  have hj:Option.bind (some (JJ s i 126)) (fun x35=>Option.bind (if x35=true then some true else Option.bind (some (JJ s i 33)) (fun x38=>some x38):Option (Bool)) (fun x37=>Option.bind (if x37=true then some true else Option.bind (some (JJ s i 61)) (fun x41=>some x41):Option (Bool)) (fun x40=>(if x40=true then some (w64 ((i:Int) + 1)) else some (i:Int)))))=some (((if (JJ s i 126 || JJ s i 33 || JJ s i 61)=true then i + 1 else i:Nat)):Int):=by
   rw[PP i (by omega)]
   cases JJ s i 126 <;> cases JJ s i 33 <;> cases JJ s i 61 <;> rfl
  rw[hj]
  simp only[Option.bind_some]
  have hle:(if (JJ s i 126 || JJ s i 33 || JJ s i 61)=true then i + 1 else i:Nat)≤257:=by split <;> omega
  generalize (if (JJ s i 126 || JJ s i 33 || JJ s i 61)=true then i + 1 else i:Nat)=j at hle
  rw[Yg]
  simp only[Option.bind_some,List.length_nil,Nat.add_zero]
  have hz:(([]:Str).length:Int)=0:=rfl
  rw[CK (by omega) (by omega)]
  try simp
theorem xE {f:Nat} (hf:f≤s.length) (e g:Int):Bi (CO s e g) f=some (Zr s f:Int):=by
 refine rP (p:=CL) (s:=s) (i:=f) ?_ ?_ hf
 · unfold CO
   rw[if_neg (by simp)]
   rfl
 · intro i h
   unfold CO
   have e3:=kH s i 44 e g
   simp only[show ((44:UInt8).toNat:Int)=44 from rfl] at e3
   rw[if_pos (by simp; omega),P8 h,e3,PP i (by omega)]
   simp only[Option.bind_some,D3]
   unfold CL JJ
   rw[List.getElem?_eq_getElem h]
   show Option.bind (if (!isP 6 s[i])=true then _ else _) _=_
   have e4:(some s[i] == some (44:UInt8))=(s[i] == 44):=by rw[Bool.eq_iff_iff]; simp
   rw[e4]
   cases isP 6 s[i] <;> cases s[i] == 44 <;> rfl
theorem yD (f x:Int) (w:Str) (hw:w.length≤256) (hf0:0≤f) (hf:f≤256):Bi (CT s f x w) (0,0,0)=some (match w.findIdx? Rk with
 | some k=>(10,f + (k:Int))
 | none=>(0,0)):=by
 have:=Cw (f:=CT s f x w) (fun z=>∃ i:Nat,z.2.2=(i:Int)∧i≤w.length∧((z.1=0∧z.2.1=0∧w.findIdx? Rk=((w.drop i).findIdx? Rk).map (· + i))∨(∃ k,w.findIdx? Rk=some k∧z.1=10∧z.2.1=f + (k:Int)))) (fun z=>w.length - z.2.2.toNat) (fun _=>match w.findIdx? Rk with
  | some k=>(10,f + (k:Int))
  | none=>(0,0)) (fun z hz=>by
  obtain⟨a,b,z⟩:=z
  obtain⟨i,e,hi,hI⟩:=hz
  simp only at e hI
  subst e
  unfold CT
  simp only[]
  rcases Nat.lt_or_ge i w.length with h | h
  · right
    rw[if_pos (by simpa using h),P8 h,PP i (by omega)]
    simp only[Option.bind_some]
    have hbad:(Option.bind (if (decide ((w[i].toNat:Int) < 33))=true then some true else some (decide ((w[i].toNat:Int) > 126)):Option Bool) (fun x114=>(if x114=true then Option.bind (A6 s x a b 10 (w64 (f + (i:Int)))) (fun (x116,x117)=>some (x116,x117)) else some (a,b))))=some (if Rk w[i]=true then (if a=0 then (10,f + (i:Int)) else (a,b)) else (a,b)):=by
     have hb:Rk w[i]=(decide ((w[i].toNat:Int) < 33) || decide ((w[i].toNat:Int) > 126)):=by
      unfold Rk
      rw[Bool.eq_iff_iff]
      simp
      omega
     rw[hb,CK (by omega) (by omega)]
     unfold A6 Av
     by_cases ha:a=0
     · subst ha
       cases decide ((w[i].toNat:Int) < 33) <;> cases decide ((w[i].toNat:Int) > 126) <;> rfl
     · have:(a == 0)=false:=by simpa using ha
       rw[this,if_neg ha]
       cases decide ((w[i].toNat:Int) < 33) <;> cases decide ((w[i].toNat:Int) > 126) <;> rfl
    rw[hbad]
    simp only[Option.bind_some]
    refine⟨_,rfl,⟨i + 1,rfl,h,?_⟩,by simp only[Int.toNat_natCast]; omega,by first | trivial | rfl⟩
    rcases hI with ⟨rfl,rfl,hI⟩ | ⟨k,hk,rfl,rfl⟩
    · rw[List.drop_eq_getElem_cons h,List.findIdx?_cons] at hI
      cases hb:Rk w[i] with
      | true=>
       rw[hb] at hI
       right
       exact⟨i,by simpa using hI,by simp,by simp⟩
      | false=>
       left
       rw[hb] at hI
       refine⟨by simp,by simp,?_⟩
       rw[hI]
       simp only[Bool.false_eq_true,if_false,Option.map_map]
       congr 1
       funext q
       simp only[Function.comp_apply]
       omega
    · right
      refine⟨k,hk,?_,?_⟩
      · split <;> rfl
      · split <;> rfl
  · left
    have:i=w.length:=by omega
    subst this
    rw[if_neg (by simp)]
    rcases hI with ⟨rfl,rfl,hI⟩ | ⟨k,hk,rfl,rfl⟩
    · rw[List.drop_length] at hI
      rw[hI]
      rfl
    · rw[hk]) (x:=((0:Int),(0:Int),(0:Int))) ⟨0,rfl,Nat.zero_le _,.inl ⟨rfl,rfl,by simp⟩⟩
 rw[this]
end
theorem u5 (w:Str) (hw:w.length≤256):DM w [46,42]=some (Ke w):=by
 unfold DM C4 Ke
 by_cases h:2≤w.length
 · rw[if_pos (by simp; omega),CK (by simp; omega) (by simp; omega),show ((w.length:Int) - (([46,42]:Str).length:Int))=((w.length - 2:Nat):Int) by simp; omega,Ul (by omega),decide_eq_true h]
   rfl
 · rw[if_neg (by simp; omega),decide_eq_false h]
   rfl
theorem fF (s:Str) (x:Int) (a b:Int):A6 s x 0 0 a b=some (a,b):=rfl
theorem qH (v:AF):Fc v=some (Yf v):=by
 unfold Fc Yf
 congr 2
 cases v.Local <;> rfl
theorem qV (b:Str) (hb:b.length≤256) : -1≤(A3 b).2.At∧(A3 b).2.At≤1048576:=by
 unfold A3
 split
 · exact⟨by decide,by decide⟩
 · unfold iX E1 EW JZ posR
   simp only
   repeat' split
   all_goals first
    | (constructor <;> (try simp only) <;> omega)
    | skip
section
variable (s:Str) (hs:s.length≤256)
include hs
theorem wH {i:Nat} (hi:i≤s.length) (o:Str):C2 s i 0 0 o=some ((E4 s i o).1,(E4 s i o).2.1,((E4 s i o).2.2.1:Int),(E4 s i o).2.2.2):=by
 obtain⟨b1,b2⟩:=Uy s hi
 unfold C2 E4
 rw[c9 s hs hi]
 simp only[Option.bind_some]
 rw[xE s hs b2]
 simp only[Option.bind_some]
 have e1:blk s i≤Zr s (blk s i):=Wx _ _ _
 have e2:Zr s (blk s i)≤s.length:=Wy b2
 rw[Od e1 e2]
 simp only[Option.bind_some]
 have hwl:(List.take (Zr s (blk s i) - blk s i) (List.drop (blk s i) s)).length≤256:=by
  rw[List.length_take,List.length_drop]; omega
 generalize List.take (Zr s (blk s i) - blk s i) (List.drop (blk s i) s)=w at hwl
 by_cases hw:w=[]
 · rw[if_pos (by simp[hw]),if_pos hw,Yg]
   rfl
 · rw[if_neg (by simpa using hw),if_neg hw]
   by_cases ho:o=Pe
   · rw[if_pos (by rw[ho]; rfl),if_pos ho,yD s hs _ _ w hwl (by omega) (by omega)]
     simp only[Option.bind_some]
     cases w.findIdx? Rk with
     | none=>rfl
     | some k=>simp
   · rw[if_neg (by simpa[Pe] using ho),if_neg ho,u5 w hwl]
     simp only[Option.bind_some]
     unfold J2
     show Option.bind (if (Ke w && ((o == eqW) || (o == neW)))=true then _ else _) _=_
     have hb:(if (Ke w && ((o == eqW) || (o == neW)))=true then Option.bind (Fj w 0 (w64 ((List.length w:Int) - 2))) (fun x121=>some x121) else some w:Option Str)=some (if (Ke w && ((o == eqW) || (o == neW)))=true then w.take (w.length - 2) else w):=by
      split
      · rename_i q
        simp only[Bool.and_eq_true] at q
        have h2:=q.1
        unfold Ke at h2
        simp only[Bool.and_eq_true,decide_eq_true_eq] at h2
        rw[CK (by omega) (by omega),show (w.length:Int) - 2=((w.length - 2:Nat):Int) by omega,Uz (by omega)]
        rfl
      · rfl
     rw[hb]
     simp only[Option.bind_some]
     have hbl:(if (Ke w && ((o == eqW) || (o == neW)))=true then w.take (w.length - 2) else w).length≤256:=by
      split
      · rw[List.length_take]; omega
      · exact hwl
     have hpa:=qV _ hbl
     rw[GM]
     simp only[Option.bind_some]
     show Option.bind _ _=_
     generalize hst:(Ke w && ((o == eqW) || (o == neW)))=st at hpa
     generalize A3 (if st=true then w.take (w.length - 2) else w)=p at hpa
     by_cases hp:p.2.Err=0
     · rw[if_neg (show ¬ ((p.2.Err != 0)=true) by simp[hp]),if_neg (show ¬ (p.2.Err≠0) by simp[hp])]
       rw[qH]
       have hx:(Option.bind (if (Ke w && ((o == [61,61]) || (o == [33,61])))=true then Option.bind (some (Yf ⟨p.1.Epoch,p.1.Release,p.1.Pre,p.1.PreNum,p.1.Post,p.1.PostNum,p.1.Dev,p.1.DevNum,p.1.Local⟩)) (fun x139=>some (!x139)) else some false:Option (Bool)) (fun x138=>(if x138=true then some true else (if ((o == [126,61]) && (decide ((List.length p.1.Release:Int) < 2)))=true then some true else some (((!(o == [61,61])) && (!(o == [33,61]))) && (decide ((List.length p.1.Local:Int) > 0)))))))=some (Ld o st p.1):=by
        rw[show (Ke w && ((o == [61,61]) || (o == [33,61])))=st from hst]
        unfold Ld
        have hl:decide ((List.length p.1.Local:Int) > 0) = !p.1.Local.isEmpty:=by cases p.1.Local <;> simp
        have hr:decide ((List.length p.1.Release:Int) < 2)=decide (p.1.Release.length < 2):=by
         rw[decide_eq_decide]; omega
        rw[hl,hr]
        show Option.bind (if st=true then some (!Yf p.1) else some false) _=_
        cases st with
        | false=>
         simp only[Bool.false_eq_true,if_false,Option.bind_some,Bool.false_and,Bool.false_or]
         show (if ((o == teW) && decide (p.1.Release.length < 2))=true then some true else some (((!(o == eqW)) && (!(o == neW))) && (!p.1.Local.isEmpty)))=_
         cases (o == teW) && decide (p.1.Release.length < 2) <;> rfl
        | true=>
         simp only[if_true,Option.bind_some,Bool.true_and]
         show (if (!Yf p.1)=true then some true else if ((o == teW) && decide (p.1.Release.length < 2))=true then some true else some (((!(o == eqW)) && (!(o == neW))) && (!p.1.Local.isEmpty)))=_
         cases Yf p.1 <;> cases (o == teW) && decide (p.1.Release.length < 2) <;> rfl
       rw[hx]
       simp only[Option.bind_some,fF]
       have hst2:(Ke w && ((o == [61,61]) || (o == [33,61])))=st:=hst
       rw[hst2]
       cases Ld o st p.1 <;> rfl
     · rw[if_pos (show (p.2.Err != 0)=true by simpa using hp),if_pos (show p.2.Err≠0 from hp),fF]
       simp only[Option.bind_some]
       have hst2:(Ke w && ((o == [61,61]) || (o == [33,61])))=st:=hst
       rw[hst2,CK (by omega) (by omega)]
theorem sT {i:Nat} (hi:i≤s.length) (o:Str):blk s i≤(E4 s i o).2.2.1∧(E4 s i o).2.2.1≤s.length:=by
 obtain⟨b1,b2⟩:=Uy s hi
 have e1:blk s i≤Zr s (blk s i):=Wx _ _ _
 have e2:Zr s (blk s i)≤s.length:=Wy b2
 unfold E4
 simp only[]
 split
 · exact⟨e1,e2⟩
 · split <;> exact⟨e1,e2⟩
theorem xO {i:Nat} (hi:i≤s.length) (h:(opE s i).2.2.1=0):i < (opE s i).2.1∧(opE s i).2.1≤s.length∧(Bz.foldl (CD s i) ([],false)).2=true:=by
 obtain⟨h1,h2⟩:=o8 s i hi
 unfold opE at h ⊢
 generalize hW:Bz.foldl (CD s i) ([],false)=W at h1 h2 h
 obtain⟨w,b⟩:=W
 cases b with
 | true=>
  obtain⟨h3,h4⟩:=h1 rfl
  have hpos:0 < w.length:=by
   have all:∀ w∈Bz,0 < w.length:=by decide
   exact all _ h3
  exact⟨by simp only[if_true]; omega,h4,rfl⟩
 | false=>
  exfalso
  simp only[Bool.false_eq_true,if_false] at h
  exact Lv s _ h
theorem u0:∀ (k x n:Nat) (acc:List AD),s.length - x < k→x≤s.length→n≤x→acc.length=n →
 ∃ y:Int,Bi (Ap s) ((x:Int),0,0,(n:Int),acc)=some (Sum.inl (y,(Cz k s x n acc).2.1,(Cz k s x n acc).2.2,(Cz k s x n acc).1)):=by
 intro k
 induction k with
 | zero=>intro x n acc h; omega
 | succ k ih=>
  intro x n acc hk hx hn han
  obtain⟨b1,b2⟩:=Uy s hx
  have step:∃ r,Ap s ((x:Int),0,0,(n:Int),acc)=some r∧((∃ y:Int,r = .done (Sum.inl (y,(Cz (k + 1) s x n acc).2.1,(Cz (k + 1) s x n acc).2.2,(Cz (k + 1) s x n acc).1))) ∨
   ∃ x2 acc2,r = .next (((x2:Nat):Int),0,0,((n + 1:Nat):Int),acc2)∧x < x2∧x2≤s.length∧acc2.length=n + 1∧Cz (k + 1) s x n acc=Cz k s x2 (n + 1) acc2):=by
   unfold Ap
   simp only[Av,Option.bind_some,beq_self_eq_true,if_true]
   rw[c9 s hs hx]
   simp only[Option.bind_some]
   rw[Cz]
   simp only[]
   by_cases h1:n=32∧blk s x < s.length
   · rw[if_pos (by simp; omega),if_pos h1,fF]
     exact⟨_,rfl,.inl ⟨_,rfl⟩⟩
   · rw[if_neg (by simp; omega),if_neg h1,y5 s hs b2]
     simp only[Option.bind_some]
     by_cases h2:(opE s (blk s x)).2.2.1=0
     · have h2':((opE s (blk s x)).2.2.1 == 0)=true:=by simp[h2]
       obtain⟨o1,o2,o3⟩:=xO s hs b2 h2
       have h22:(opE s (blk s x)).2.2.2=0:=by
        unfold opE
        simp only[]
        rw[o3]
        rfl
       rw[h2',if_neg (by decide),if_neg (by simp[h2]),h2,h22,wH s hs o2]
       simp only[Option.bind_some]
       obtain⟨w1,w2⟩:=sT s hs o2 (opE s (blk s x)).1
       obtain⟨w3,w4⟩:=Uy s w2
       obtain⟨w5,_⟩:=Uy s o2
       by_cases h3:(E4 s (opE s (blk s x)).2.1 (opE s (blk s x)).1).2.2.2.1=0
       · have h3':((E4 s (opE s (blk s x)).2.1 (opE s (blk s x)).1).2.2.2.1 == 0)=true:=by simp[h3]
         have h32:(E4 s (opE s (blk s x)).2.1 (opE s (blk s x)).1).2.2.2.2=0:=by
          revert h3
          unfold E4
          simp only[]
          split
          · intro q; exact absurd q (Lv s _)
          · split
            · simp only
              split
              · intro q; cases q
              · intro _; rfl
            · exact fun q=>pD q
         rw[h3',if_neg (by decide),if_neg (by simp[h3]),dD (by simp only[List.length_singleton]; omega) (by simp only[List.length_singleton]; omega)]
         simp only[Option.bind_some,Bool.false_eq_true,if_false]
         rw[h3,h32,c9 s hs w2]
         simp only[Option.bind_some]
         by_cases h4:s.length≤blk s (E4 s (opE s (blk s x)).2.1 (opE s (blk s x)).1).2.2.1
         · rw[if_pos (by simpa using h4),if_pos h4]
           exact⟨_,rfl,.inl ⟨_,rfl⟩⟩
         · rw[if_neg (by simpa using h4),if_neg h4]
           have e3:=kH s (blk s (E4 s (opE s (blk s x)).2.1 (opE s (blk s x)).1).2.2.1) 44 0 0
           simp only[show ((44:UInt8).toNat:Int)=44 from rfl] at e3
           rw[e3]
           simp only[Option.bind_some]
           by_cases h5:JJ s (blk s (E4 s (opE s (blk s x)).2.1 (opE s (blk s x)).1).2.2.1) 44=true
           · rw[h5,if_neg (by decide),if_pos rfl,PP _ (by omega),PP n (by omega)]
             exact⟨_,rfl,.inr ⟨_,_,rfl,by omega,by omega,by simp only[List.length_append,List.length_singleton]; omega,rfl⟩⟩
           · rw[if_pos (by simpa using h5),if_neg h5,Yg]
             exact⟨_,rfl,.inl ⟨_,rfl⟩⟩
       · have h3':((E4 s (opE s (blk s x)).2.1 (opE s (blk s x)).1).2.2.2.1 == 0)=false:=by simpa using h3
         rw[h3',if_pos (by decide),if_pos h3]
         simp only[Option.bind_some,if_true]
         exact⟨_,rfl,.inl ⟨_,rfl⟩⟩
     · have h2':((opE s (blk s x)).2.2.1 == 0)=false:=by simpa using h2
       rw[h2',if_pos (by decide),if_pos h2]
       exact⟨_,rfl,.inl ⟨_,rfl⟩⟩
  obtain⟨r,e,h⟩:=step
  rcases h with ⟨y,rfl⟩ | ⟨x2,acc2,rfl,g1,g2,g3,g4⟩
  · exact⟨y,DQ e⟩
  · rw[Jr e,g4]
    exact ih x2 (n + 1) acc2 (by omega) g2 (by omega) g3
end
theorem PT (s:Str):B8 s=some (ST s):=by
 unfold B8 ST
 by_cases hs:s.length≤256
 · rw[if_neg (by simp; omega),if_neg (by omega)]
   unfold C3 B5 A9
   have e0:=c9 s hs (Nat.zero_le _) 0 0
   rw[Int.natCast_zero] at e0
   obtain⟨b1,b2⟩:=Uy s (Nat.zero_le s.length)
   rw[e0]
   simp only[Option.bind_some]
   by_cases h:s.length≤blk s 0
   · rw[if_pos (by simpa using h),if_pos h]
     rfl
   · rw[if_neg (by simpa using h),if_neg h]
     obtain⟨y,hy⟩:=u0 s hs (s.length + 1) (blk s 0) 0 [] (by omega) b2 (Nat.zero_le _) rfl
     rw[Int.natCast_zero] at hy
     rw[hy]
     simp only[Option.bind_some,Av]
     by_cases h2:(Cz (s.length + 1) s (blk s 0) 0 []).2.1=0
     · rw[if_neg (by simp[h2]),if_neg (by simp[h2])]
     · rw[if_pos (by simpa using h2),if_pos h2]
 · rw[if_pos (by simp; omega),if_pos (by omega)]
end Go.Vm
namespace Go.Vm
open Go
def dI (o w:Str):Option (Str × Bool):=
 if o=Pe then (match w.findIdx? Rk with
  | some _=>none
  | none=>some (w,false))
 else if (J2 o w 0).2.2.1=0 then some ((J2 o w 0).1,(J2 o w 0).2.1) else none
def bC (r:Str):Option (AD × Str):=
 let o:=BZ Bz r
 if o.2=true then
  let r1:=(r.drop o.1.length).dropWhile (isP 6)
  let w:=r1.takeWhile CL
  if w=[] then none else (dI o.1 w).map fun q=>(⟨o.1,q.1,q.2⟩,r1.dropWhile CL)
 else none
def Jz:Nat→Nat→Str→Option (List AD)
 | 0,_,_=>none
 | k + 1,n,r=>
  let r1:=r.dropWhile (isP 6)
  if n=32∧r1≠[] then none
  else match bC r1 with
   | none=>none
   | some (c,q)=>match q.dropWhile (isP 6) with
    | []=>some [c]
    | d :: q2=>if d=44 then (Jz k (n + 1) q2).map (c :: ·) else none
def FS (s:Str):Option (List AD):=
 if 256 < s.length then none else if s.dropWhile (isP 6)=[] then some [] else Jz (s.length + 1) 0 (s.dropWhile (isP 6))
theorem yB (o w:Str) (f:Nat):(J2 o w f).1=(J2 o w 0).1∧(J2 o w f).2.1=(J2 o w 0).2.1∧((J2 o w f).2.2.1=(J2 o w 0).2.2.1)∧((J2 o w f).2.2.1=0→(J2 o w f).2.2.2=0):=by
 refine⟨rfl,rfl,?_,pD⟩
 unfold J2
 simp only[]
 generalize (Ke w && ((o == eqW) || (o == neW)))=st
 generalize A3 (if st=true then w.take (w.length - 2) else w)=p
 by_cases hp:p.2.Err=0
 · rw[if_neg (show ¬ p.2.Err≠0 by simp[hp]),if_neg (show ¬ p.2.Err≠0 by simp[hp])]
   cases Ld o st p.1 <;> simp
 · rw[if_pos hp,if_pos hp]
theorem Wt {s:Str} {i:Nat} {r:Str} (h:Suf s i r):Suf s (blk s i) (r.dropWhile (isP 6)):=(h.run (isP 6)).1
theorem vD {s:Str} {i:Nat} {r:Str} (h:Suf s i r):((BZ Bz r).2=true→opE s i=((BZ Bz r).1,i + (BZ Bz r).1.length,0,0)∧Suf s (i + (BZ Bz r).1.length) (r.drop (BZ Bz r).1.length))∧((BZ Bz r).2=false→(opE s i).2.2.1≠0):=by
 refine⟨fun g=>⟨?_,h.drop (FL g).2⟩,fun g=>?_⟩
 · unfold opE
   rw[L4 h]
   show (if (BZ Bz r).2=true then _ else _)=_
   rw[if_pos g]
   rfl
 · unfold opE
   rw[L4 h]
   show (if (BZ Bz r).2=true then _ else _:Str × Nat × Int × Int).2.2.1≠0
   rw[if_neg (by rw[g]; decide)]
   exact Lv s _
theorem qT {s:Str} {i:Nat} {r:Str} (h:Suf s i r) (o:Str) :
 (∀ q,(if ((r.dropWhile (isP 6)).takeWhile CL)=[] then none else dI o ((r.dropWhile (isP 6)).takeWhile CL))=some q→(E4 s i o).1=q.1∧(E4 s i o).2.1=q.2∧(E4 s i o).2.2.2=(0,0)∧Suf s (E4 s i o).2.2.1 ((r.dropWhile (isP 6)).dropWhile CL)) ∧
 ((if ((r.dropWhile (isP 6)).takeWhile CL)=[] then none else dI o ((r.dropWhile (isP 6)).takeWhile CL))=none→(E4 s i o).2.2.2.1≠0):=by
 have h1:=Wt h
 obtain⟨h2,h3,h4⟩:=h1.run CL
 have hw:(s.drop (blk s i)).take (Zr s (blk s i) - blk s i)=(r.dropWhile (isP 6)).takeWhile CL:=by
  have e:=Od h4 h2.1
  rw[h3] at e
  exact (Option.some.inj e).symm
 have h2':Suf s (Zr s (blk s i)) ((r.dropWhile (isP 6)).dropWhile CL):=h2
 unfold E4
 simp only[]
 rw[hw]
 generalize (r.dropWhile (isP 6)).takeWhile CL=w
 by_cases hn:w=[]
 · rw[if_pos hn,if_pos hn]
   exact⟨fun q hq=>(by cases hq),fun _=>Lv s _⟩
 · rw[if_neg hn,if_neg hn]
   unfold dI
   by_cases ho:o=Pe
   · rw[if_pos ho,if_pos ho]
     cases hb:w.findIdx? Rk with
     | some k=>exact⟨fun q hq=>(by simp at hq),fun _=>by simp⟩
     | none=>exact⟨fun q hq=>by simp only[Option.some.injEq] at hq; subst hq; exact⟨rfl,rfl,rfl,h2'⟩,fun hq=>by simp at hq⟩
   · rw[if_neg ho,if_neg ho]
     obtain⟨v1,v2,v3,v4⟩:=yB o w (blk s i)
     by_cases hv:(J2 o w 0).2.2.1=0
     · rw[if_pos hv]
       refine⟨fun q hq=>?_,fun hq=>by cases hq⟩
       cases hq
       rw[hv] at v3
       exact⟨v1,v2,Prod.ext v3 (v4 v3),h2'⟩
     · rw[if_neg hv]
       exact⟨fun q hq=>by (cases hq),fun _=>(by rw[v3]; exact hv)⟩
theorem rW {s:Str} {i:Nat} {r:Str} (h:Suf s i r) (c:UInt8):JJ s i c=(match r with | []=>false | d :: _=>d == c):=by
 unfold JJ
 cases r with
 | nil=>
  have:=h.nil
  rw[List.getElem?_eq_none (by omega)]
  rfl
 | cons d q=>
  obtain⟨h1,_,_⟩:=h.cons
  have h2:=h.2
  rw[List.drop_eq_getElem_cons h1] at h2
  rw[List.getElem?_eq_getElem h1,(List.cons.inj h2).1,Bool.eq_iff_iff]
  simp
theorem TC:∀ (k:Nat) {s:Str} {x:Nat} {r:Str} (n:Nat) (acc:List AD),Suf s x r →
 (∀ l,Jz k n r=some l→Cz k s x n acc=(acc ++ l,0,0))∧(Jz k n r=none→k≠0→r.length < k→(Cz k s x n acc).2.1≠0)
 | 0,s,x,r,n,acc,h=>⟨fun l hl=>(by cases hl),fun _ h=>absurd rfl h⟩
 | k + 1,s,x,r,n,acc,h=>by
  have h1:=Wt h
  have hend:∀ {i:Nat} {q:Str},Suf s i q→(s.length≤i↔q=[]):=fun {i q} hq=>by
   have:=hq.pos
   have h0:=hq.1
   constructor
   · intro g
     exact List.length_eq_zero_iff.1 (by omega)
   · intro g
     subst g
     simp only[List.length_nil] at this
     omega
  unfold Jz Cz
  simp only[]
  have hc:(n=32∧r.dropWhile (isP 6)≠[])↔(n=32∧blk s x < s.length):=by
   have:=hend h1
   constructor
   · rintro⟨a,b⟩; exact⟨a,by have:=mt this.1 b; omega⟩
   · rintro⟨a,b⟩; exact⟨a,fun e=>by have:=this.2 e; omega⟩
  by_cases h32:n=32∧r.dropWhile (isP 6)≠[]
  · rw[if_pos h32,if_pos (hc.1 h32)]
    exact⟨fun l hl=>(by cases hl),fun _ _ _=>by simp⟩
  · rw[if_neg h32,if_neg (fun q=>h32 (hc.2 q))]
    obtain⟨o1,o2⟩:=vD h1
    unfold bC
    simp only[]
    cases ho:(BZ Bz (r.dropWhile (isP 6))).2 with
    | false=>
     rw[if_neg (by decide)]
     have:=o2 ho
     rw[if_pos this]
     exact⟨fun l hl=>(by cases hl),fun _ _ _=>this⟩
    | true=>
     obtain⟨e1,s1⟩:=o1 ho
     rw[if_pos rfl,e1]
     simp only[ne_eq,not_true,if_false]
     obtain⟨w1,w2⟩:=qT s1 (BZ Bz (r.dropWhile (isP 6))).1
     generalize hR:((r.dropWhile (isP 6)).drop (BZ Bz (r.dropWhile (isP 6))).1.length).dropWhile (isP 6)=r1 at w1 w2
     generalize hO:(BZ Bz (r.dropWhile (isP 6))).1=o at w1 w2 s1
     have hlen:r1.length≤r.length∧(r1≠[]→r1.length < r.length):=by
      have a1:=Bx (p:=isP 6) r
      have a2:=Bx (p:=isP 6) ((r.dropWhile (isP 6)).drop o.length)
      rw[hO] at hR
      rw[hR,List.length_drop] at a2
      have hm:=(FL ho).1
      rw[hO] at hm
      have hpos:0 < o.length:=by
       have all:∀ w∈Bz,0 < w.length:=by decide
       exact all _ hm
      refine⟨by omega,fun g=>?_⟩
      have:=List.length_pos_iff.2 g
      omega
     by_cases hw:r1.takeWhile CL=[]
     · rw[if_pos hw] at w1 w2 ⊢
       have:=w2 rfl
       rw[if_pos this]
       exact⟨fun l hl=>(by cases hl),fun _ _ _=>this⟩
     · rw[if_neg hw] at w1 w2 ⊢
       cases hv:dI o (r1.takeWhile CL) with
       | none=>
        have:=w2 hv
        rw[if_pos this]
        exact⟨fun l hl=>(by cases hl),fun _ _ _=>this⟩
       | some q=>
        obtain⟨q1,q2,q3,q4⟩:=w1 q hv
        rw[q1,q2,q3]
        simp only[Option.map_some,ne_eq,not_true,if_false]
        have s2:=Wt q4
        have hl2:=Bx (p:=isP 6) (r1.dropWhile CL)
        have hl3:=Bx (p:=CL) r1
        have hne:r1≠[]:=fun e=>hw (by rw[e]; rfl)
        have hlt:=hlen.2 hne
        generalize (r1.dropWhile CL).dropWhile (isP 6)=z at s2 hl2
        have hz:=hend s2
        cases z with
        | nil=>
         rw[if_pos (hz.2 rfl)]
         exact⟨fun l hl=>(by cases hl; rfl),fun hl=>by cases hl⟩
        | cons d z2=>
         rw[if_neg (fun g=>by cases hz.1 g),rW s2]
         simp only
         obtain⟨_,_,s3⟩:=s2.cons
         by_cases hd:d=44
         · rw[if_pos hd,if_pos (by simp[hd])]
           obtain⟨c1,c2⟩:=TC k (n + 1) (acc ++ [⟨o,q.1,q.2⟩]) s3
           refine⟨fun l hl=>?_,fun hl _ hk=>?_⟩
           · obtain⟨l2,g1,g2⟩:=Option.map_eq_some_iff.1 hl
             rw[c1 l2 g1,← g2,List.append_assoc]
             rfl
           · have hnone:Jz k (n + 1) z2=none:=by
              cases hp:Jz k (n + 1) z2 with
              | none=>rfl
              | some l2=>rw[hp] at hl; cases hl
             simp only[List.length_cons] at hl2
             exact c2 hnone (by omega) (by omega)
         · rw[if_neg hd,if_neg (by simp[hd])]
           exact⟨fun l hl=>(by cases hl),fun _ _ _=>Lv s _⟩
theorem Mu (s:Str):(∀ l,FS s=some l→ST s=(l,0,0))∧(FS s=none→(ST s).1=[]∧(ST s).2.1≠0):=by
 unfold FS ST
 by_cases h:256 < s.length
 · rw[if_pos h,if_pos h]
   exact⟨fun l hl=>(by cases hl),fun _=>⟨rfl,by simp⟩⟩
 · rw[if_neg h,if_neg h]
   simp only[]
   have s1:=Wt (Suf.start s)
   have hp:=s1.pos
   have hz:(s.length≤blk s 0)↔s.dropWhile (isP 6)=[]:=by
    constructor
    · intro g; exact List.length_eq_zero_iff.1 (by omega)
    · intro g; rw[g] at hp; simp only[List.length_nil] at hp; omega
   by_cases h2:s.dropWhile (isP 6)=[]
   · rw[if_pos h2,if_pos (hz.2 h2)]
     exact⟨fun l hl=>(by cases hl; rfl),fun hl=>by cases hl⟩
   · rw[if_neg h2,if_neg (fun g=>h2 (hz.1 g))]
     obtain⟨c1,c2⟩:=TC (s.length + 1) 0 [] s1
     refine⟨fun l hl=>?_,fun hl=>?_⟩
     · rw[c1 l hl]
       simp
     · have:=c2 hl (by omega) (by have:=Bx (p:=isP 6) s; omega)
       rw[if_pos this]
       exact⟨rfl,this⟩
end Go.Vm
namespace Go.Vm
open Go
def N1 (c:AD):Prop:=
 c.Op∈Bz∧c.Ver≠[]∧(∀ x∈c.Ver,CL x=true) ∧
 ((c.Op=Pe∧c.Star=false∧c.Ver.findIdx? Rk=none)∨(c.Op≠Pe∧(A3 c.Ver).2.Err=0∧Ld c.Op c.Star (A3 c.Ver).1=false∧(c.Star=true→c.Op=eqW∨c.Op=neW)))
def opT (c:AD):Str:=c.Op ++ (c.Ver ++ (if c.Star=true then CX else []))
theorem fN {x:UInt8} (h:okc x=true):CL x=true∧x≠61∧x≠42∧isP 6 x=false:=by
 have all:∀ n:Fin 256,okc (UInt8.ofNat n.val)=true→CL (UInt8.ofNat n.val)=true∧UInt8.ofNat n.val≠61∧UInt8.ofNat n.val≠42∧isP 6 (UInt8.ofNat n.val)=false:=by decide +kernel
 have:=all ⟨x.toNat,x.toNat_lt⟩
 simpa using this (by simpa using h)
theorem l7 {x:UInt8}:CL x=true↔isP 6 x=false∧x≠44:=by
 unfold CL
 cases isP 6 x <;> simp
theorem kO {w:Str}:Ke w=true↔∃ b,w=b ++ CX:=by
 unfold Ke
 simp only[Bool.and_eq_true,decide_eq_true_eq,beq_iff_eq]
 constructor
 · rintro⟨h1,h2⟩
   exact⟨w.take (w.length - 2),by rw[← h2,List.take_append_drop]⟩
 · rintro⟨b,rfl⟩
   refine⟨by simp[CX],?_⟩
   simp[CX]
theorem tC {v:Str} (h:(A3 v).2.Err=0):Ke v=false:=by
 cases hs:Ke v with
 | false=>rfl
 | true=>
  obtain⟨b,rfl⟩:=kO.1 hs
  have:=(Pv h).1 42 (by simp[CX])
  exact absurd rfl (fN this).2.2.1
theorem qN {o w b:Str} {st:Bool} (ho:o∈Bz) (hw:w≠[]) (hn:∀ x∈w,CL x=true) (h:dI o w=some (b,st)):N1 ⟨o,b,st⟩∧w=b ++ (if st=true then CX else []):=by
 unfold dI at h
 by_cases he:o=Pe
 · rw[if_pos he] at h
   cases hb:w.findIdx? Rk with
   | some k=>rw[hb] at h; cases h
   | none=>
    rw[hb] at h
    simp only[Option.some.injEq,Prod.mk.injEq] at h
    obtain⟨rfl,rfl⟩:=h
    exact⟨⟨ho,hw,hn,.inl ⟨he,rfl,hb⟩⟩,by simp⟩
 · rw[if_neg he] at h
   split at h
   · rename_i hv
     cases h
     unfold J2 at hv ⊢
     simp only at hv ⊢
     generalize hst:(Ke w && ((o == eqW) || (o == neW)))=s at hv ⊢
     have hwb:w=(if s=true then w.take (w.length - 2) else w) ++ (if s=true then CX else []):=by
      cases s with
      | false=>simp
      | true=>
       simp only[Bool.and_eq_true] at hst
       have h2:=hst.1
       unfold Ke at h2
       simp only[Bool.and_eq_true,decide_eq_true_eq,beq_iff_eq] at h2
       rw[if_pos rfl,if_pos rfl,← h2.2,List.take_append_drop]
     have hp:(A3 (if s=true then w.take (w.length - 2) else w)).2.Err=0:=by
      rcases Classical.em ((A3 (if s=true then w.take (w.length - 2) else w)).2.Err=0) with q | q
      · exact q
      · rw[if_pos q] at hv; exact absurd hv q
     have hwr:Ld o s (A3 (if s=true then w.take (w.length - 2) else w)).1=false:=by
      rw[if_neg (by simp[hp])] at hv
      cases hq:Ld o s (A3 (if s=true then w.take (w.length - 2) else w)).1 with
      | false=>rfl
      | true=>rw[hq,if_pos rfl] at hv; cases hv
     refine⟨⟨ho,(Pv hp).2.1,fun x hx=>(fN ((Pv hp).1 x hx)).1,.inr ⟨he,hp,hwr,fun hs=>?_⟩⟩,hwb⟩
     simp only at hs
     subst hs
     simp only[Bool.and_eq_true,Bool.or_eq_true,beq_iff_eq] at hst
     exact hst.2
   · cases h
theorem qU {c:AD} (h:N1 c):dI c.Op (c.Ver ++ (if c.Star=true then CX else []))=some (c.Ver,c.Star):=by
 obtain⟨h1,h2,h3,h4⟩:=h
 unfold dI
 rcases h4 with ⟨a,b,d⟩ | ⟨a,b,d,e⟩
 · rw[if_pos a,b,if_neg (by decide),List.append_nil,d]
 · rw[if_neg a]
   have hv:J2 c.Op (c.Ver ++ (if c.Star=true then CX else [])) 0=(c.Ver,c.Star,0,0):=by
    unfold J2
    cases hs:c.Star with
    | true=>
     rw[if_pos rfl]
     have hS:Ke (c.Ver ++ CX)=true:=kO.2 ⟨_,rfl⟩
     have ho:((c.Op == eqW) || (c.Op == neW))=true:=by
      rcases e hs with q | q <;> simp[q]
     simp only[hS,ho,Bool.and_self,if_true]
     have ht:(c.Ver ++ CX).take ((c.Ver ++ CX).length - 2)=c.Ver:=by simp[CX]
     rw[ht,if_neg (by simp[b]),← hs,d,hs]
     rfl
    | false=>
     rw[if_neg (by decide),List.append_nil]
     have hS:=tC b
     simp only[hS,Bool.false_and,Bool.false_eq_true,if_false]
     rw[if_neg (by simp[b]),← hs,d,hs]
     rfl
   rw[hv]
   rfl
theorem nY {p:UInt8→Bool} {a r:Str} (ha:∀ x∈a,p x=true) (hr:∀ d q,r=d :: q→p d=false):(a ++ r).takeWhile p=a∧(a ++ r).dropWhile p=r:=by
 induction a with
 | nil=>
  cases r with
  | nil=>exact⟨rfl,rfl⟩
  | cons d q=>
   have:=hr d q rfl
   exact⟨List.takeWhile_cons_of_neg (by simp[this]),List.dropWhile_cons_of_neg (by simp[this])⟩
 | cons x a ih=>
  obtain⟨h1,h2⟩:=ih fun y hy=>ha y (List.mem_cons_of_mem x hy)
  have hx:=ha x (List.mem_cons_self ..)
  exact⟨by rw[List.cons_append,List.takeWhile_cons_of_pos hx,h1],by rw[List.cons_append,List.dropWhile_cons_of_pos hx,h2]⟩
theorem yY (r w:Str):stM r 0 w=(r.take w.length == w):=by
 unfold stM
 rw[decide_eq_true (show (0:Int)≤0∧(0:Int)≤(r.length:Int) from ⟨by omega,by omega⟩)]
 simp
theorem vQ {o:Str} (ho:o∈Bz) {h:UInt8} {t:Str} (hh:o=Pe∨h≠61):BZ Bz (o ++ h :: t)=(o,true):=by
 have hb:∀ {l:Str},l ++ h :: t=l ++ (h :: t):=fun {l}=>rfl
 simp only[Bz,List.mem_cons,List.not_mem_nil,or_false] at ho
 rcases hh with rfl | hh
 · simp[BZ,Bz,CD,yY,Pe]
 · have h61:(h == 61)=false:=by simpa using hh
   rcases ho with rfl | rfl | rfl | rfl | rfl | rfl | rfl | rfl <;> simp[BZ,Bz,CD,yY,h61,hh]
theorem aU {c:AD} (h:N1 c) {rest:Str} (hr:∀ d q,rest=d :: q→d=44):bC (opT c ++ rest)=some (c,rest):=by
 have hg:=qU h
 obtain⟨h1,h2,h3,h4⟩:=h
 obtain⟨v,vs,hv⟩:=List.exists_cons_of_ne_nil h2
 have hhead:c.Op=Pe∨v≠61:=by
  rcases h4 with ⟨a,_⟩ | ⟨_,b,_⟩
  · exact .inl a
  · exact .inr (fN ((Pv b).1 v (by rw[hv]; exact List.mem_cons_self ..))).2.1
 have hW:BZ Bz (opT c ++ rest)=(c.Op,true):=by
  unfold opT
  rw[List.append_assoc,List.append_assoc,hv]
  exact vQ h1 hhead
 have hvb:isP 6 v=false:=(l7.1 (h3 v (by rw[hv]; exact List.mem_cons_self ..))).1
 have hd:(opT c ++ rest).drop c.Op.length=(c.Ver ++ (if c.Star=true then CX else [])) ++ rest:=by
  unfold opT
  rw[List.append_assoc,List.drop_left]
 have hbl:((c.Ver ++ (if c.Star=true then CX else [])) ++ rest).dropWhile (isP 6)=(c.Ver ++ (if c.Star=true then CX else [])) ++ rest:=by
  rw[hv]
  exact List.dropWhile_cons_of_neg (by simp[hvb])
 obtain⟨t1,t2⟩:=nY (p:=CL) (a:=c.Ver ++ (if c.Star=true then CX else [])) (r:=rest) (fun x hx=>by
  rcases List.mem_append.1 hx with hx | hx
  · exact h3 x hx
  · split at hx
    · simp only[CX,List.mem_cons,List.not_mem_nil,or_false] at hx
      rcases hx with rfl | rfl <;> decide
    · cases hx) (fun d q e=>by rw[hr d q e]; decide)
 unfold bC
 simp only[]
 rw[hW]
 simp only[if_true]
 rw[hd,hbl,t1,t2,if_neg (by rw[hv]; simp),hg]
 rfl
theorem pN {r q:Str} {c:AD} (h:bC r=some (c,q)):N1 c∧(opT c).length + q.length≤r.length∧r≠[]:=by
 unfold bC at h
 simp only[] at h
 split at h
 · rename_i ho
   obtain⟨m1,m2⟩:=FL ho
   have hlen1:=Bx (p:=isP 6) (r.drop (BZ Bz r).1.length)
   rw[List.length_drop] at hlen1
   generalize (r.drop (BZ Bz r).1.length).dropWhile (isP 6)=r1 at h hlen1
   split at h
   · cases h
   · rename_i hw
     obtain⟨⟨b,st⟩,hv,he⟩:=Option.map_eq_some_iff.1 h
     cases he
     obtain⟨g1,g2⟩:=qN m1 hw (fun x hx=>VD hx) hv
     refine⟨g1,?_,fun e=>?_⟩
     · have e2:r1.length=(r1.takeWhile CL).length + (r1.dropWhile CL).length:=by
        rw[← List.length_append,List.takeWhile_append_dropWhile]
       rw[g2] at e2
       unfold opT
       simp only[List.length_append] at e2 ⊢
       omega
     · subst e
       simp only[List.length_nil] at m2
       have all:∀ w∈Bz,0 < w.length:=by decide
       have:=all _ m1
       omega
 · cases h
def Bv (l:List AD):Str:=Lib.join (l.map opT) [44]
theorem join_cons (x:Str) (y:Str) (l:List Str):Lib.join (x :: y :: l) [44]=x ++ 44 :: Lib.join (y :: l) [44]:=by
 rw[Lib.join_cons,Lib.join_cons]
 simp[Lib.joinTail]
theorem oV {c:AD} (h:N1 c):∃ d q,opT c=d :: q∧isP 6 d=false:=by
 have all:∀ w∈Bz,∃ d q,w=d :: q∧isP 6 d=false:=by
  intro w hw
  simp only[Bz,List.mem_cons,List.not_mem_nil,or_false] at hw
  rcases hw with rfl | rfl | rfl | rfl | rfl | rfl | rfl | rfl <;> exact⟨_,_,rfl,by decide⟩
 obtain⟨d,q,e,hd⟩:=all _ h.1
 exact⟨d,q ++ (c.Ver ++ (if c.Star=true then CX else [])),by unfold opT; rw[e]; rfl,hd⟩
theorem Xh {c:AD} (h:N1 c) (l:List AD):∃ d q,Bv (c :: l)=d :: q∧isP 6 d=false:=by
 obtain⟨d,q,e,hd⟩:=oV h
 unfold Bv
 cases l with
 | nil=>exact⟨d,q,by rw[List.map_cons,List.map_nil,Lib.join_one,e],hd⟩
 | cons y l=>exact⟨d,q ++ 44 :: Lib.join ((y :: l).map opT) [44],by rw[List.map_cons,List.map_cons,join_cons,e]; rfl,hd⟩
theorem Vy:∀ (l:List AD) (k n:Nat),l≠[]→(∀ c∈l,N1 c)→n + l.length≤32→l.length≤k→Jz k n (Bv l)=some l
 | [],_,_,h,_,_,_=>absurd rfl h
 | c :: l,0,n,_,_,_,hk=>by simp at hk
 | c :: l,k + 1,n,_,hg,hn,hk=>by
  have hc:=hg c (List.mem_cons_self ..)
  obtain⟨d,q,e,hd⟩:=Xh hc l
  have hdw:(Bv (c :: l)).dropWhile (isP 6)=Bv (c :: l):=by
   rw[e]; exact List.dropWhile_cons_of_neg (by simp[hd])
  simp only[List.length_cons] at hn hk
  unfold Jz
  simp only[]
  rw[hdw,if_neg (by omega)]
  cases l with
  | nil=>
   have hi:=aU hc (rest:=[]) (fun d q e=>by cases e)
   rw[List.append_nil] at hi
   have:Bv [c]=opT c:=by simp[Bv,Lib.join_one]
   rw[this,hi]
   rfl
  | cons y l=>
   have:Bv (c :: y :: l)=opT c ++ 44 :: Bv (y :: l):=by
    unfold Bv
    rw[List.map_cons,List.map_cons,join_cons]
    try rfl
   rw[this,aU hc (rest:=44 :: Bv (y :: l)) (fun d q e=>by cases e; rfl)]
   simp only
   rw[List.dropWhile_cons_of_neg (show ¬ (isP 6 44=true) by decide)]
   simp only[if_true]
   rw[Vy (y :: l) k (n + 1) (by simp) (fun z hz=>hg z (List.mem_cons_of_mem c hz)) (by omega) (by omega)]
   rfl
theorem qG {l:List AD} (h:∀ c∈l,N1 c):l.length≤(Bv l).length:=by
 induction l with
 | nil=>exact Nat.zero_le _
 | cons c l ih=>
  obtain⟨d,q,e,_⟩:=oV (h c (List.mem_cons_self ..))
  have ih:=ih fun x hx=>h x (List.mem_cons_of_mem c hx)
  cases l with
  | nil=>simp[Bv,Lib.join_one,e]
  | cons y l=>
   have:Bv (c :: y :: l)=opT c ++ 44 :: Bv (y :: l):=by
    unfold Bv
    rw[List.map_cons,List.map_cons,join_cons]
    try rfl
   rw[this]
   simp only[List.length_append,List.length_cons] at ih ⊢
   omega
theorem Vl {l:List AD} (hg:∀ c∈l,N1 c) (hn:l.length≤32) (hl:(Bv l).length≤256):FS (Bv l)=some l:=by
 unfold FS
 rw[if_neg (by omega)]
 cases l with
 | nil=>rfl
 | cons c l=>
  obtain⟨d,q,e,hd⟩:=Xh (hg c (List.mem_cons_self ..)) l
  have hdw:(Bv (c :: l)).dropWhile (isP 6)=Bv (c :: l):=by
   rw[e]; exact List.dropWhile_cons_of_neg (by simp[hd])
  rw[hdw,if_neg (by rw[e]; simp)]
  exact Vy (c :: l) _ 0 (by simp) hg (by omega) (by have:=qG hg; omega)
theorem Vo:∀ (k n:Nat) (r:Str) (l:List AD),Jz k n r=some l→n≤32→l≠[]∧(∀ c∈l,N1 c)∧n + l.length≤32∧(Bv l).length≤r.length
 | 0,n,r,l,h,_=>by cases h
 | k + 1,n,r,l,h,hn=>by
  unfold Jz at h
  simp only[] at h
  have hlen:=Bx (p:=isP 6) r
  split at h
  · cases h
  · rename_i h32
    generalize r.dropWhile (isP 6)=r1 at h hlen h32
    split at h
    · cases h
    · rename_i c q hi
      obtain⟨g1,g2,g3⟩:=pN hi
      have hn2:n < 32:=by
       rcases Nat.lt_or_ge n 32 with g | g
       · exact g
       · exact absurd ⟨by omega,g3⟩ h32
      have hq:=Bx (p:=isP 6) q
      split at h
      · cases h
        exact⟨by simp,fun x hx=>by rw[List.mem_singleton.1 hx]; exact g1,by simp only[List.length_singleton]; omega,by simp only[Bv,List.map_cons,List.map_nil,Lib.join_one]; omega⟩
      · rename_i d q2 hd
        split at h
        · obtain⟨l2,k1,k2⟩:=Option.map_eq_some_iff.1 h
          subst k2
          obtain⟨f1,f2,f3,f4⟩:=Vo k (n + 1) q2 l2 k1 (by omega)
          rw[hd,List.length_cons] at hq
          refine⟨by simp,fun x hx=>?_,by simp only[List.length_cons]; omega,?_⟩
          · rcases List.mem_cons.1 hx with rfl | hx
            · exact g1
            · exact f2 x hx
          · cases l2 with
            | nil=>exact absurd rfl f1
            | cons y l2=>
             have:Bv (c :: y :: l2)=opT c ++ 44 :: Bv (y :: l2):=by
              unfold Bv
              rw[List.map_cons,List.map_cons,join_cons]
              try rfl
             rw[this]
             simp only[List.length_append,List.length_cons] at f4 ⊢
             omega
        · cases h
theorem Hi {s:Str} {l:List AD} (h:FS s=some l):(∀ c∈l,N1 c)∧l.length≤32∧(Bv l).length≤s.length∧s.length≤256:=by
 unfold FS at h
 split at h
 · cases h
 · rename_i hs
   split at h
   · cases h
     exact⟨fun c hc=>by (cases hc),by simp,by simp[Bv,Lib.join_nil],by omega⟩
   · obtain⟨h1,h2,h3,h4⟩:=Vo _ 0 _ _ h (by omega)
     have:=Bx (p:=isP 6) s
     exact⟨h2,by omega,by omega,by omega⟩
end Go.Vm
namespace Go.Vm
open Go
theorem S8 (r:Str):(RZ r).length≤r.length + 1:=by
 have:=bF (r.takeWhile (isP 1))
 have:=(List.takeWhile_prefix (isP 1) (l:=r)).length_le
 unfold RZ
 omega
theorem lB:∀ (n:Nat) (r:Str),(MI n r).1.length≤n∧∀ x∈(MI n r).1,x.length≤r.length + 1
 | 0,_=>⟨Nat.le_refl _,fun x hx=>by cases hx⟩
 | n + 1,r=>by
  have h:=S8 r
  have hs:=(Pb r).length_le
  simp only[MI]
  split
  · rename_i q e
    rw[e] at hs
    simp only[List.length_cons] at hs
    obtain⟨h1,h2⟩:=lB n q
    split
    · refine⟨by simp; omega,fun x hx=>?_⟩
      rcases List.mem_cons.1 hx with rfl | hx
      · exact h
      · have:=h2 x hx; omega
    · exact⟨by simp,fun x hx=>by simp only[List.mem_singleton] at hx; subst hx; exact h⟩
  · exact⟨by simp,fun x hx=>by simp only[List.mem_singleton] at hx; subst hx; exact h⟩
theorem Oo (r:Str):(Dq r).1.length≤r.length + 1:=by
 have h:(EY r).length≤r.length:=by
  unfold EY
  split
  · simp
  · exact Nat.le_refl _
 unfold Dq
 split
 · have:=S8 (EY r); simp only[]; omega
 · simp
theorem qJ (p:Str):(Kq p).length≤p.length + 1:=by
 unfold Kq
 split
 · exact bF p
 · omega
theorem kI:∀ (n:Nat) (r:Str),(Pc n r).1.length≤n∧∀ x∈(Pc n r).1,x.length≤r.length + 1
 | 0,_=>⟨Nat.le_refl _,fun x hx=>by cases hx⟩
 | n + 1,r=>by
  have h:(Kq (Ho r)).length≤r.length + 1:=by
   have:=qJ (Ho r)
   have:=(List.takeWhile_prefix (isP 5) (l:=r)).length_le
   unfold Ho at *
   omega
  simp only[Pc]
  split
  · obtain⟨h1,h2⟩:=kI n (Ja r).tail
    have hs:=((List.tail_suffix _).trans (t6 r)).length_le
    refine⟨by simp; omega,fun x hx=>?_⟩
    rcases List.mem_cons.1 hx with rfl | hx
    · exact h
    · have:=h2 x hx; omega
  · exact⟨by simp,fun x hx=>by simp only[List.mem_singleton] at hx; subst hx; exact h⟩
theorem YB (s:Str):QT (A3 s).1:=by
 have hz:QT zP:=⟨by simp[zP],by simp[zP],by simp[zP],by simp[zP],by simp[zP],by simp[zP],by simp[zP],by simp[zP]⟩
 unfold A3
 split
 · exact hz
 · rename_i q
   have hr:=((n0 _).trans (oO (Gi s))).length_le
   rw[TT] at hr
   have hep:(Ex (v0M (Gi s))).1.length≤66:=by
    have h1:=(oO (Gi s)).length_le
    rw[TT] at h1
    have h2:=S8 (v0M (Gi s))
    unfold Ex
    split
    · simp
    · split
      · simp only[]; omega
      · simp
   generalize (Ex (v0M (Gi s))).1=ep at hep
   generalize (Ex (v0M (Gi s))).2=r at hr
   unfold iX
   simp only[]
   split
   · exact hz
   · split
     · exact hz
     · split
       · exact hz
       · have s1:=(r8 s.length r).length_le
         have s2:=(t7 (E1 s.length r).2.1).length_le
         have s3:=(qS (Gh (E1 s.length r).2.1).2.2).length_le
         have s4:=(uM (Fe (Gh (E1 s.length r).2.1).2.2).2.2).length_le
         have hrel:(E1 s.length r).1.length≤64∧∀ x∈(E1 s.length r).1,x.length≤65:=by
          unfold E1
          split
          · obtain⟨h1,h2⟩:=lB r.length r
            exact⟨by simp only[]; omega,fun x hx=>by have:=h2 x hx; omega⟩
          · exact⟨by simp,fun x hx=>by cases hx⟩
         have hloc:∀ z:Str,z.length≤64→(EW s.length z).1.length≤64∧∀ x∈(EW s.length z).1,x.length≤65:=fun z hz=>by
          unfold EW
          split
          · rename_i q
            simp only[List.length_cons] at hz
            split
            · obtain⟨h1,h2⟩:=kI q.length q
              exact⟨by simp only[]; omega,fun x hx=>by have:=h2 x hx; omega⟩
            · exact⟨by simp,fun x hx=>by cases hx⟩
          · exact⟨by simp,fun x hx=>by cases hx⟩
         obtain⟨l1,l2⟩:=hloc (Sp (Fe (Gh (E1 s.length r).2.1).2.2).2.2).2.2 (by omega)
         refine⟨by simp only[]; omega,?_,?_,?_,by simp only[]; omega,by simp only[]; omega,fun x hx=>by have:=hrel.2 x hx; omega,fun x hx=>by have:=l2 x hx; omega⟩
         · simp only[]
           unfold Gh
           split
           · have:=Oo (C8 SG (E1 s.length r).2.1).2.2
             have:=(FJ SG (E1 s.length r).2.1).length_le
             simp only[]; omega
           · simp
         · simp only[]
           have h0:=S8 (Gh (E1 s.length r).2.1).2.2.tail
           have h1:(Gh (E1 s.length r).2.1).2.2.tail.length≤64:=by rw[List.length_tail]; omega
           have h2:=Oo (C8 Q1 (Gh (E1 s.length r).2.1).2.2).2.2
           have h3:=(FJ Q1 (Gh (E1 s.length r).2.1).2.2).length_le
           unfold Fe
           split
           · simp only[]; omega
           · split
             · simp only[]; omega
             · simp
         · simp only[]
           have h2:=Oo (C8 Ye (Fe (Gh (E1 s.length r).2.1).2.2).2.2).2.2
           have h3:=(FJ Ye (Fe (Gh (E1 s.length r).2.1).2.2).2.2).length_le
           unfold Sp
           split
           · simp only[]; omega
           · simp
end Go.Vm
namespace Go.Vm
open Go
theorem tA (l:List Str) (h:l.length≤1048576):app 16 [] l=some l:=by
 unfold app
 rw[if_pos (by simp; omega)]
 rfl
theorem sP (l:List Str) (h:l.length≤1048576):Bg l=some l:=by
 unfold Bg
 rw[tA _ h]
 rfl
end Go.Vm
namespace Go.Vm
open Go
theorem v7 (c:AD):(opT c).length≤c.Op.length + c.Ver.length + 2:=by
 unfold opT
 split <;> simp[CX] <;> omega
theorem aS:∀ (l:List Str),(Lib.join l [44]).length≤(l.map fun x=>x.length + 1).sum
 | []=>by simp[Lib.join_nil]
 | [x]=>by rw[Lib.join_one]; simp
 | x :: y :: l=>by
  have ih:=aS (y :: l)
  rw[join_cons]
  simp only[List.map_cons,List.sum_cons,List.length_append,List.length_cons] at ih ⊢
  omega
theorem tJ {α:Type} {f:α→Nat} {B:Nat}:∀ (l:List α),(∀ x∈l,f x≤B)→(l.map f).sum≤l.length * B
 | [],_=>by simp
 | x :: l,h=>by
  have ih:=tJ l fun y hy=>h y (List.mem_cons_of_mem x hy)
  have:=h x (List.mem_cons_self ..)
  simp only[List.map_cons,List.sum_cons,List.length_cons,Nat.add_mul,Nat.one_mul]
  omega
structure yO (l:List AD):Prop where
 n:l.length≤1024
 o:∀ c∈l,c.Op.length≤1048576
 v:∀ c∈l,c.Ver.length≤1048576
theorem rT {l:List AD} (h:yO l):(Bv l).length≤4294967296:=by
 unfold Bv
 refine Nat.le_trans (aS _) ?_
 rw[List.map_map]
 refine Nat.le_trans (tJ (B:=2097155) l fun c hc=>?_) ?_
 · have:=v7 c
   have:=h.o c hc
   have:=h.v c hc
   simp only[Function.comp_apply]
   omega
 · have:=h.n
   calc l.length * 2097155≤1024 * 2097155:=Nat.mul_le_mul_right _ this
    _≤_:=by decide
theorem vJ (l:List AD) (h:yO l):Ha l=some (Bv l):=by
 unfold Ha
 have hn:=h.n
 have:=Cw (f:=GQ l) (fun x=>∃ i:Nat,x.2=(i:Int)∧i≤l.length∧x.1.length=i) (fun x=>l.length - x.2.toNat) (fun x=>x.1 ++ (l.drop x.2.toNat).map opT) (fun x hx=>by
  obtain⟨b,z⟩:=x
  obtain⟨i,e,hi,hb⟩:=hx
  simp only at e hb
  subst e
  unfold GQ
  simp only[Int.toNat_natCast]
  rcases Nat.lt_or_ge i l.length with g | g
  · right
    have o1:=h.o _ (List.getElem_mem g)
    have v1:=h.v _ (List.getElem_mem g)
    rw[if_pos (by simpa using g),Eb g]
    simp only[Option.bind_some]
    rw[sJ (by omega)]
    simp only[Option.bind_some]
    have hs:(if (l[i]).Star=true then Option.bind (cat (l[i].Op ++ l[i].Ver) [46,42]) (fun x20=>some x20) else some (l[i].Op ++ l[i].Ver):Option Str)=some (opT l[i]):=by
     unfold opT
     split
     · rw[sJ (by simp; omega),← List.append_assoc]; rfl
     · rw[List.append_nil]
    rw[hs]
    simp only[Option.bind_some]
    rw[dD (by simp only[List.length_singleton]; omega) (by simp only[List.length_singleton]; omega),PP i (by omega)]
    refine⟨_,rfl,⟨i + 1,rfl,g,by simp[hb]⟩,by simp only[Int.toNat_natCast]; omega,?_⟩
    simp only[Int.toNat_natCast]
    rw[List.drop_eq_getElem_cons g,List.map_cons,List.append_assoc]
    rfl
  · left
    rw[if_neg (by simp; omega),List.drop_of_length_le g]
    simp) (x:=(([]:List Str),(0:Int))) ⟨0,rfl,Nat.zero_le _,rfl⟩
 rw[this]
 simp only[Option.bind_some,Int.toNat_zero,List.drop_zero,List.nil_append]
 have hl:=rT h
 unfold strings_Join
 rw[if_pos ⟨by rw[List.length_map]; omega,by show (Bv l).length≤_; omega⟩]
 rfl
theorem aB (a b:AD):((a.Op == b.Op) && ((a.Ver == b.Ver) && (a.Star == b.Star)))=decide (a=b):=by
 cases a; cases b
 rw[Bool.eq_iff_iff]
 simp
theorem oW {F:Int→Option (Step Int (Unit ⊕ Unit))} {a b:List AD} (hl:a.length=b.length) (hn:a.length≤1048576) (h1:∀ (i:Nat) (h:i < a.length) (h2:i < b.length),F (i:Int)=if a[i]=b[i] then some (.next ((i + 1:Nat):Int)) else some (.done (Sum.inl ()))) (h2:F (a.length:Int)=some (.done (Sum.inr ()))) :
 Bi F 0=some (if a=b then Sum.inr () else Sum.inl ()):=by
 have:=Cw (f:=F) (fun x=>∃ i:Nat,x=(i:Int)∧i≤a.length∧a.take i=b.take i) (fun x=>a.length - x.toNat) (fun _=>if a=b then Sum.inr () else Sum.inl ()) (fun x hx=>by
  obtain⟨i,rfl,hi,hp⟩:=hx
  rcases Nat.lt_or_ge i a.length with h | h
  · rw[h1 i h (by omega)]
    by_cases e:a[i]=b[i]'(by omega)
    · right
      rw[if_pos e]
      exact⟨_,rfl,⟨i + 1,rfl,h,by rw[List.take_succ_eq_append_getElem h,List.take_succ_eq_append_getElem (by omega),hp,e]⟩,by omega,rfl⟩
    · left
      rw[if_neg e,if_neg]
      intro q
      subst q
      exact e rfl
  · left
    have:i=a.length:=by omega
    subst this
    rw[h2,if_pos]
    rw[List.take_length,hl,List.take_length] at hp
    exact hp) (x:=(0:Int)) ⟨0,rfl,Nat.zero_le _,by simp⟩
 exact this
theorem uG (a b:List AD) (h:a.length≤1048576):A2 a b=some (decide (a=b)):=by
 unfold A2
 by_cases hl:a.length=b.length
 · rw[if_neg (by simp[hl]),oW hl h (fun i h1 h2=>by
    unfold BC
    rw[if_pos (by simpa using h1),Eb h1,Eb h2]
    simp only[Option.bind_some,aB]
    rw[PP i (by omega)]
    by_cases e:a[i]=b[i]
    · rw[if_pos e,if_neg (by simp[e])]
    · rw[if_neg e,if_pos (by simp[e])]) (by
    unfold BC
    rw[if_neg (by simp)])]
   by_cases e:a=b
   · rw[if_pos e,decide_eq_true e]; rfl
   · rw[if_neg e,decide_eq_false e]; rfl
 · rw[if_pos (by simp; omega),decide_eq_false (fun e=>hl (by rw[e]))]
theorem jD (a:List AD) (h:a.length≤1048576):Fi a a=some true:=by
 unfold Fi
 rw[if_neg (by simp),oW (a:=a) (b:=a) rfl h (fun i h1 h2=>by
  unfold FN
  rw[if_pos (by simpa using h1),Eb h1]
  simp only[Option.bind_some,aB]
  rw[PP i (by omega)]
  simp) (by
  unfold FN
  rw[if_neg (by simp)]),if_pos rfl]
 rfl
def Wu (l:List AD):Str:=if FS (Bv l)=some l then Bv l else []
theorem rQ {s:Str}:(ST s).1.length≤1048576:=by
 obtain⟨h1,h2⟩:=Mu s
 cases h:FS s with
 | none=>rw[(h2 h).1]; simp
 | some l=>rw[h1 l h]; have:=(Hi h).2.1; simp only; omega
theorem aF (l:List AD) (h:yO l):ET l=some (Wu l):=by
 unfold ET Wu
 rw[vJ l h]
 simp only[Option.bind_some]
 rw[PT]
 obtain⟨h1,h2⟩:=Mu (Bv l)
 have hp:=rQ (s:=Bv l)
 simp only[Option.bind_some]
 cases hq:FS (Bv l) with
 | none=>
  obtain⟨g1,g2⟩:=h2 hq
  rw[if_pos (by simpa using g2)]
  simp
 | some k=>
  rw[h1 k hq]
  rw[h1 k hq] at hp
  simp only[bne_self_eq_false,Bool.false_eq_true,if_false]
  rw[uG _ _ hp]
  simp only[Option.bind_some]
  by_cases e:k=l
  · rw[if_neg (by simp[e]),if_pos (by rw[e])]
  · rw[if_pos (by simp[e]),if_neg (fun q=>e (Option.some.inj q))]
def Zk (c:AD):Bool:=decide (FS (opT c)=some [c])
theorem P3 (c:AD):Bv [c]=opT c:=by simp[Bv,Lib.join_one]
theorem uF (c:AD) (ho:c.Op.length≤1048576) (hv:c.Ver.length≤1048576):G4 c=some (Zk c):=by
 unfold G4 Zk
 rw[aF [c] ⟨by simp,fun x hx=>by rw[List.mem_singleton.1 hx]; exact ho,fun x hx=>by rw[List.mem_singleton.1 hx]; exact hv⟩]
 simp only[Option.bind_some]
 unfold Wu
 rw[P3]
 by_cases h:FS (opT c)=some [c]
 · rw[if_pos h,decide_eq_true h]
   congr 1
   have:opT c≠[]:=fun e=>by
    rw[e] at h
    cases h
   simpa using this
 · rw[if_neg h,decide_eq_false h]
   rfl
theorem sV {c:AD}:Zk c=true↔N1 c∧(opT c).length≤256:=by
 unfold Zk
 rw[decide_eq_true_eq]
 constructor
 · intro h
   obtain⟨g1,g2,g3,g4⟩:=Hi h
   exact⟨g1 c (by simp),g4⟩
 · rintro⟨h1,h2⟩
   have:=Vl (l:=[c]) (fun x hx=>by rw[List.mem_singleton.1 hx]; exact h1) (by simp) (by rw[P3]; exact h2)
   rwa [P3] at this
def HM (v:AF):AF:={ v with Local:=[] }
def Hm (v:AF):AF:=⟨v.Epoch,v.Release,0,[],false,[],false,[],[]⟩
def On (a b:AF):Int:=if gU a=true∧gU b=true then xK a b else 0
theorem QT.pub {v:AF} (h:QT v):QT (HM v):=⟨h.e,h.p,h.o,h.d,h.r,by simp[HM],h.rs,fun x hx=>by cases hx⟩
theorem QT.base {v:AF} (h:QT v):QT (Hm v):=⟨h.e,by simp[Hm],by simp[Hm],by simp[Hm],h.r,by simp[Hm],h.rs,fun x hx=>by cases hx⟩
def Tf (v:AF) (ep:Str) (rel:List Str):Bool:=(v.Epoch == ep) && (List.range rel.length).all fun i=>v.Release.getD i [48] == rel.getD i []
theorem bG (v:AF) (ep:Str) (rel:List Str) (h:rel.length≤1048576):ES v ep rel=some (Tf v ep rel):=by
 unfold ES Tf
 cases he:v.Epoch == ep with
 | false=>rfl
 | true=>
  simp only[Bool.not_true,Bool.false_eq_true,if_false,Bool.true_and]
  have:=Cw (f:=FE v rel) (fun x=>∃ i:Nat,x=(i:Int)∧i≤rel.length∧∀ j,j < i→(v.Release.getD j [48] == rel.getD j [])=true) (fun x=>rel.length - x.toNat) (fun _=>if ((List.range rel.length).all fun i=>v.Release.getD i [48] == rel.getD i [])=true then Sum.inr () else Sum.inl ()) (fun x hx=>by
   obtain⟨i,rfl,hi,hp⟩:=hx
   unfold FE
   rcases Nat.lt_or_ge i rel.length with g | g
   · rw[if_pos (by simpa using g),Eb g]
     simp only[Option.bind_some]
     have hm:(if (decide ((i:Int) < (List.length v.Release:Int)))=true then Option.bind (ixl v.Release (i:Int)) (fun x12=>some x12) else some [48]:Option Str)=some (v.Release.getD i [48]):=by
      rcases Nat.lt_or_ge i v.Release.length with q | q
      · rw[if_pos (by simpa using q),Eb q]
        simp[List.getD,q]
      · rw[if_neg (by simp; omega)]
        simp[List.getD,q]
     rw[hm]
     simp only[Option.bind_some]
     have hr:rel.getD i []=rel[i]:=by simp[List.getD,g]
     rw[PP i (by omega)]
     cases hq:v.Release.getD i [48] == rel[i] with
     | true=>
      right
      rw[if_neg (by decide)]
      refine⟨_,rfl,⟨i + 1,rfl,g,fun j hj=>?_⟩,by omega,by first | trivial | rfl⟩
      rcases Nat.lt_or_ge j i with w | w
      · exact hp j w
      · rw[show j=i by omega,hr]; exact hq
     | false=>
      left
      rw[if_pos (by decide),if_neg]
      intro q
      have:=List.all_eq_true.1 q i (List.mem_range.2 g)
      rw[hr,hq] at this
      cases this
   · left
     have:i=rel.length:=by omega
     subst this
     rw[if_neg (by simp),if_pos]
     exact List.all_eq_true.2 fun j hj=>hp j (List.mem_range.1 hj)) (x:=(0:Int)) ⟨0,rfl,Nat.zero_le _,fun j hj=>absurd hj (Nat.not_lt_zero _)⟩
  rw[this]
  simp only[Option.bind_some]
  cases (List.range rel.length).all fun i=>v.Release.getD i [48] == rel.getD i [] <;> rfl
def pK (v:AF):Bool:=(v.Pre != 0) || v.Dev
def yZ (c:AD) (t:Str) (v w:AF):Bool:=
 let eqq:Bool:=if c.Star=true then Tf v w.Epoch w.Release else On (if w.Local.length=0 then HM v else v) w == 0
 if c.Op=eqW then eqq
 else if c.Op=neW then !eqq
 else if c.Op=teW then decide (On (HM v) w≥0) && Tf v w.Epoch w.Release.dropLast
 else if c.Op=[60,61] then decide (On (HM v) w≤0)
 else if c.Op=[62,61] then decide (On (HM v) w≥0)
 else if c.Op=[60] then decide (On v w < 0) && !(pK v && !pK w && (On (Hm v) (Hm w) == 0))
 else if c.Op=[62] then decide (On v w > 0) && !((On (Hm v) (Hm w) == 0) && (decide (v.Local.length > 0) || (v.Post && !w.Post)))
 else Gi t == Gi c.Ver
theorem MQ (a:AF):AF.mk a.Epoch a.Release a.Pre a.PreNum a.Post a.PostNum a.Dev a.DevNum a.Local=a:=by cases a; rfl
theorem qW (a:AD):AD.mk a.Op a.Ver a.Star=a:=by cases a; rfl
section
variable {c:AD} {t:Str} {v w:AF} (hv:QT v) (hw:QT w)
theorem aY (a:AF) (h:QT a):G5 a=some (HM a):=by
 unfold G5
 rw[sP _ h.r]
 rfl
theorem L9 (a b:AF) (ha:QT a) (hb:QT b):EU a b=some (On a b):=fS a b ha hb
include hv hw
theorem Uo:Bo ⟨c,t,v,w⟩=some (On (HM v) w):=by
 unfold Bo
 simp only[MQ]
 rw[aY v hv]
 simp only[Option.bind_some]
 rw[L9 _ _ hv.pub hw]
 simp only[Option.bind_some]
theorem gS:CV ⟨c,t,v,w⟩=some (On (Hm v) (Hm w) == 0):=by
 unfold CV Hc
 simp only[Option.bind_some]
 have e1:AF.mk v.Epoch v.Release 0 [] false [] false [] []=Hm v:=rfl
 have e2:AF.mk w.Epoch w.Release 0 [] false [] false [] []=Hm w:=rfl
 rw[e1,e2,L9 _ _ hv.base hw.base]
 simp only[Option.bind_some]
theorem kD:CU ⟨c,t,v,w⟩=some (if c.Star=true then Tf v w.Epoch w.Release else On (if w.Local.length=0 then HM v else v) w == 0):=by
 unfold CU
 simp only[MQ]
 cases c.Star with
 | true=>
  simp only[if_true]
  rw[bG _ _ _ hw.r]
  simp only[Option.bind_some]
 | false=>
  simp only[Bool.false_eq_true,if_false]
  by_cases h:w.Local.length=0
  · rw[if_pos (by simpa using h),if_pos h,aY v hv]
    simp only[Option.bind_some,MQ]
    rw[L9 _ _ hv.pub hw]
    simp only[Option.bind_some]
  · rw[if_neg (by simpa using h),if_neg h]
    simp only[Option.bind_some,MQ]
    rw[L9 _ _ hv hw]
    simp only[Option.bind_some]
end
def R5 (c:AD) (t:Str):Bool:=decide ((A3 t).2.Err=0) && Zk c && yZ c t (A3 t).1 (A3 c.Ver).1
theorem sR (c:AD) (t:Str) (ho:c.Op.length≤1048576) (hv:c.Ver.length≤1048576) (ht:t.length≤1048576):GV c t=some (R5 c t):=by
 unfold GV R5
 rw[GM]
 simp only[Option.bind_some,MQ]
 have hP:=YB t
 by_cases h1:(A3 t).2.Err=0
 · rw[if_neg (by simp[h1]),uF c ho hv,decide_eq_true h1]
   simp only[Option.bind_some,Bool.true_and]
   cases hf:Zk c with
   | false=>rfl
   | true=>
    simp only[Bool.not_true,Bool.false_eq_true,if_false,Bool.true_and]
    rw[GM]
    simp only[Option.bind_some,Jc]
    have hW:=YB c.Ver
    obtain⟨hg,hlen⟩:=sV.1 hf
    obtain⟨g1,g2,g3,g4⟩:=hg
    generalize hvv:(A3 t).1=v at hP
    unfold yZ
    simp only[beq_iff_eq]
    have q1:([61,61]:Str)=eqW:=rfl
    have q2:([33,61]:Str)=neW:=rfl
    have q3:([126,61]:Str)=teW:=rfl
    have q4:([61,61,61]:Str)=Pe:=rfl
    rw[q4,q1,q2,q3]
    by_cases e1:c.Op=eqW
    · rw[if_pos e1,if_pos e1,kD hP hW]; simp only[Option.bind_some]
    rw[if_neg e1,if_neg e1]
    by_cases e2:c.Op=neW
    · rw[if_pos e2,if_pos e2]
      unfold Gb
      simp only[MQ,qW]
      rw[kD hP hW]; simp only[Option.bind_some]
    rw[if_neg e2,if_neg e2]
    by_cases e3:c.Op=teW
    · rw[if_pos e3,if_pos e3]
      unfold GE
      simp only[MQ,qW]
      rw[Uo hP hW]
      simp only[Option.bind_some]
      by_cases e4:On (HM v) (A3 c.Ver).1≥0
      · rw[if_pos (decide_eq_true e4),decide_eq_true e4]
        have hrel:2≤(A3 c.Ver).1.Release.length:=by
         rcases g4 with ⟨a,_⟩ | ⟨_,_,d,_⟩
         · rw[e3] at a; cases a
         · unfold Ld at d
           simp only[Bool.or_eq_false_iff] at d
           have:=d.1.2
           rw[e3] at this
           simpa using this
        have hr:=hW.r
        rw[CK (by omega) (by omega),show (((A3 c.Ver).1.Release.length:Int) - 1)=(((A3 c.Ver).1.Release.length - 1:Nat):Int) by omega,Uz (by omega),← List.dropLast_eq_take]
        simp only[Option.bind_some]
        rw[bG _ _ _ (by rw[List.length_dropLast]; omega)]
        simp only[Option.bind_some,Bool.true_and]
      · rw[if_neg (by simpa using e4),decide_eq_false e4]
        simp only[Option.bind_some,Bool.false_and]
    rw[if_neg e3,if_neg e3]
    by_cases e5:c.Op=[60,61]
    · rw[if_pos e5,if_pos e5]
      unfold GU
      simp only[MQ,qW]
      rw[Uo hP hW]; simp only[Option.bind_some]
    rw[if_neg e5,if_neg e5]
    by_cases e6:c.Op=[62,61]
    · rw[if_pos e6,if_pos e6]
      unfold Ga
      simp only[MQ,qW]
      rw[Uo hP hW]; simp only[Option.bind_some]
    rw[if_neg e6,if_neg e6]
    by_cases e7:c.Op=[60]
    · rw[if_pos e7,if_pos e7]
      unfold Gg
      simp only[MQ,qW]
      rw[L9 _ _ hP hW,gS hP hW]
      simp only[Option.bind_some,HS]
      unfold pK
      generalize decide (On v (A3 c.Ver).1 < 0)=A
      generalize (v.Pre != 0 || v.Dev)=B
      generalize ((A3 c.Ver).1.Pre != 0 || (A3 c.Ver).1.Dev)=C
      generalize (On (Hm v) (Hm (A3 c.Ver).1) == 0)=D
      cases A <;> cases B <;> cases C <;> cases D <;> rfl
    rw[if_neg e7,if_neg e7]
    by_cases e8:c.Op=[62]
    · rw[if_pos e8,if_pos e8]
      unfold GN
      simp only[MQ,qW]
      rw[L9 _ _ hP hW,gS hP hW]
      simp only[Option.bind_some]
      have hl:decide ((List.length v.Local:Int) > 0)=decide (v.Local.length > 0):=by rw[decide_eq_decide]; omega
      rw[hl]
      generalize decide (On v (A3 c.Ver).1 > 0)=A
      generalize (On (Hm v) (Hm (A3 c.Ver).1) == 0)=D
      generalize decide (v.Local.length > 0)=B
      cases A <;> cases B <;> cases D <;> rfl
    rw[if_neg e8,if_neg e8]
    have e9:c.Op=Pe:=by
     simp only[Bz,List.mem_cons,List.not_mem_nil,or_false] at g1
     rcases g1 with q | q | q | q | q | q | q | q
     · exact absurd q e3
     · exact absurd q e1
     · exact absurd q e2
     · exact absurd q e5
     · exact absurd q e6
     · exact absurd q e7
     · exact absurd q e8
     · exact q
    rw[if_pos e9]
    unfold GL
    rw[HN _ (by simp only; omega),HN _ (by simp only; omega)]
    simp only[Option.bind_some]
    try rfl
 · rw[if_pos (by simpa using h1),decide_eq_false h1]
   rfl
end Go.Vm
namespace Go.Vm
open Go
theorem tQ:∀ {l:List AD} {c:AD},c∈l→(opT c).length≤(Bv l).length
 | c :: [],x,h=>by
  rw[List.mem_singleton.1 h,P3]
  exact Nat.le_refl _
 | c :: y :: l,x,h=>by
  have:Bv (c :: y :: l)=opT c ++ 44 :: Bv (y :: l):=by
   unfold Bv
   rw[List.map_cons,List.map_cons,join_cons]
   try rfl
  rw[this]
  simp only[List.length_append,List.length_cons]
  rcases List.mem_cons.1 h with rfl | h
  · omega
  · have:=tQ h
    omega
theorem Vz {s:Str} {l:List AD} (h:FS s=some l):∀ c∈l,c.Op.length≤256∧c.Ver.length≤256:=fun c hc=>by
 obtain⟨_,_,h3,h4⟩:=Hi h
 have:=tQ hc
 unfold opT at this
 simp only[List.length_append] at this
 omega
def j3 (c:AD):Bool:=!((c.Op == neW) || (c.Op == [60]) || (c.Op == [62]) || (c.Op == Pe)) && !c.Star && decide ((A3 c.Ver).2.Err=0) && Zk c && pK (A3 c.Ver).1
theorem xQ (l:List AD) (hn:l.length≤1048576) (hl:∀ c∈l,c.Op.length≤256∧c.Ver.length≤256):Jq l=some (l.any j3):=by
 unfold Jq
 have:=Cw (f:=HQ l) (fun x=>∃ i:Nat,x=(i:Int)∧i≤l.length) (fun x=>l.length - x.toNat) (fun x=>match (l.drop x.toNat).any j3 with
  | true=>Sum.inl ()
  | false=>Sum.inr ()) (fun x hx=>by
  obtain⟨i,rfl,hi⟩:=hx
  unfold HQ
  simp only[Int.toNat_natCast]
  rcases Nat.lt_or_ge i l.length with h | h
  · obtain⟨o1,o2⟩:=hl _ (List.getElem_mem h)
    rw[if_pos (by simpa using h),Eb h,PP i (by omega),List.drop_eq_getElem_cons h,List.any_cons]
    simp only[Option.bind_some]
    rw[GM,uF _ (by omega) (by omega)]
    simp only[Option.bind_some,MQ]
    have hb:(Option.bind ((if (l[i].Op == [33,61])=true then some true else (if (l[i].Op == [60])=true then some true else (if (l[i].Op == [62])=true then some true else some (l[i].Op == [61,61,61])))):Option (Bool)) (fun x25=>(if x25=true then some (Sum.inl ()) else Option.bind (if ((!l[i].Star) && ((A3 l[i].Ver).2.Err == 0))=true then some (Zk l[i]) else some false:Option (Bool)) (fun x28=>Option.bind (if x28=true then Option.bind (HS (A3 l[i].Ver).1) (fun x32=>some x32) else some false:Option (Bool)) (fun x31=>(if x31=true then some (Sum.inr ()) else some (Sum.inl ())))))):Option (Unit ⊕ Unit))=some (if j3 l[i]=true then Sum.inr () else Sum.inl ()):=by
     unfold j3 HS
     have q2:([33,61]:Str)=neW:=rfl
     have q4:([61,61,61]:Str)=Pe:=rfl
     have q5:((A3 l[i].Ver).2.Err == 0)=decide ((A3 l[i].Ver).2.Err=0):=by rw[Bool.eq_iff_iff]; simp
     rw[q2,q4,q5]
     show _=some (if ((!((l[i].Op == neW) || (l[i].Op == [60]) || (l[i].Op == [62]) || (l[i].Op == Pe)) && !l[i].Star && decide ((A3 l[i].Ver).2.Err=0) && Zk l[i] && (((A3 l[i].Ver).1.Pre != 0) || (A3 l[i].Ver).1.Dev)))=true then Sum.inr () else Sum.inl ())
     cases (l[i].Op == neW) <;> cases (l[i].Op == [60]) <;> cases (l[i].Op == [62]) <;> cases (l[i].Op == Pe) <;> cases l[i].Star <;> cases decide ((A3 l[i].Ver).2.Err=0) <;> cases Zk l[i] <;> cases (((A3 l[i].Ver).1.Pre != 0) || (A3 l[i].Ver).1.Dev) <;> rfl
    rw[hb]
    cases hp:j3 l[i] with
    | true=>left; rfl
    | false=>
     right
     exact⟨_,rfl,⟨i + 1,rfl,h⟩,by simp only[Int.toNat_natCast]; omega,by simp only[Int.toNat_natCast,Bool.false_or]⟩
  · left
    rw[if_neg (by simp; omega),List.drop_of_length_le h]
    rfl) (x:=(0:Int)) ⟨0,rfl,Nat.zero_le _⟩
 rw[this]
 simp only[Option.bind_some,Int.toNat_zero,List.drop_zero]
 cases l.any j3 <;> rfl
def rU (s t:Str):Bool:=match FS s with
 | none=>false
 | some l=>decide ((A3 t).2.Err=0) && l.all (R5 · t) && (!pK (A3 t).1 || l.any j3)
theorem yC (l:List AD) (t:Str) (hn:l.length≤1048576) (hl:∀ c∈l,c.Op.length≤256∧c.Ver.length≤256) (ht:t.length≤1048576):Bi (D8 t l) 0=some (l.all (R5 · t)):=by
 have:=Cw (f:=D8 t l) (fun x=>∃ i:Nat,x=(i:Int)∧i≤l.length) (fun x=>l.length - x.toNat) (fun x=>(l.drop x.toNat).all (R5 · t)) (fun x hx=>by
  obtain⟨i,rfl,hi⟩:=hx
  unfold D8
  simp only[Int.toNat_natCast]
  rcases Nat.lt_or_ge i l.length with h | h
  · obtain⟨o1,o2⟩:=hl _ (List.getElem_mem h)
    rw[if_pos (by simpa using h),Eb h,PP i (by omega),List.drop_eq_getElem_cons h,List.all_cons]
    simp only[Option.bind_some]
    rw[sR _ _ (by omega) (by omega) ht]
    simp only[Option.bind_some]
    cases R5 l[i] t with
    | false=>left; rfl
    | true=>
     right
     exact⟨_,rfl,⟨i + 1,rfl,h⟩,by simp only[Int.toNat_natCast]; omega,by simp only[Int.toNat_natCast,Bool.true_and]⟩
  · left
    rw[if_neg (by simp; omega),List.drop_of_length_le h]
    rfl) (x:=(0:Int)) ⟨0,rfl,Nat.zero_le _⟩
 rw[this]
 simp
theorem Ez (s t:Str) (ht:t.length≤1048576):BU s t=some (rU s t):=by
 unfold BU rU
 rw[PT,GM]
 obtain⟨h1,h2⟩:=Mu s
 simp only[Option.bind_some,MQ]
 cases hq:FS s with
 | none=>
  obtain⟨g1,g2⟩:=h2 hq
  rw[if_pos (by simp[g2])]
 | some l=>
  rw[h1 l hq]
  obtain⟨_,k2,_,_⟩:=Hi hq
  have hsm:=Vz hq
  simp only
  by_cases hp:(A3 t).2.Err=0
  · rw[if_neg (by simp[hp]),yC l t (by omega) hsm ht,decide_eq_true hp,xQ l (by omega) hsm]
    simp only[Option.bind_some,HS]
    unfold pK
    cases l.all (R5 · t) <;> cases ((A3 t).1.Pre != 0 || (A3 t).1.Dev) <;> cases l.any j3 <;> rfl
  · rw[if_pos (by simp[hp]),decide_eq_false hp]
    rfl
theorem wO:GA=some true:=by
 unfold GA
 simp only[PT]
 rw[Ez _ _ (by decide),Ez _ _ (by decide),Ez _ _ (by decide),Ez _ _ (by decide),Ez _ _ (by decide),Ez _ _ (by decide),Ez _ _ (by decide),Ez _ _ (by decide),Ez _ _ (by decide),Ez _ _ (by decide),Ez _ _ (by decide)]
 decide +kernel
theorem WR (a0:Str) (m0:a0.length + 1≤1048576):Dh a0=some true:=by
 unfold Dh
 rw[PT]
 obtain⟨h1,h2⟩:=Mu a0
 simp only[Option.bind_some,wO]
 cases hq:FS a0 with
 | none=>
  obtain⟨g1,g2⟩:=h2 hq
  rw[if_pos (by simpa using g2),g1]
  rfl
 | some l=>
  rw[h1 l hq]
  obtain⟨k1,k2,k3,k4⟩:=Hi hq
  have hsm:=Vz hq
  simp only[bne_self_eq_false,Bool.false_eq_true,if_false]
  rw[aF l ⟨by omega,fun c hc=>by have:=(hsm c hc).1; omega,fun c hc=>by have:=(hsm c hc).2; omega⟩]
  have hpt:=Vl k1 k2 (by omega)
  unfold Wu
  rw[if_pos hpt]
  simp only[Option.bind_some]
  rw[PT,(Mu (Bv l)).1 l hpt]
  simp only[Option.bind_some]
  rw[if_pos (by simp; omega),jD l (by omega)]
  rfl
end Go.Vm

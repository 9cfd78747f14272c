/- The law PepReads, a part of its proof: what the functions that it reaches compute. -/
import Derived.WalkKit
import Derived.ProofKit
import Derived.OpenShut
import Derived.Below
import Derived.ChangeSame
import Derived.Deep.DeepHandedRow
import Derived.Carry
import Derived.Test.YthifafijkpkliaaGreatDoorFx3588a565
import Derived.Shelf.Small.Strs
import Derived.Test.YthifafijkpkliaaGreatDoorDxf61c61a0
import Derived.Shelf.Strings.IndexAnyAll
import Derived.Shelf.Strings.OnBuilder
import Derived.Sort.Row
import Derived.Sort.Grow
import Derived.Deep.Strs
import Derived.Test.YthifafijkpkliaaGreatDoorCx5277422d
import Derived.Test.YthifafijkpkliaaGreatDoorG0PepReads
import Derived.Test.YthifafijkpkliaaGreatDoorG1PepReads
import Derived.Test.YthifafijkpkliaaGreatDoorG2PepReads
/- What a row asks behind a call that has left all that was there as it was. -/
namespace Go.Vm
open Go Go.RowKit Go.WideShapes Go.ChangeShapes
theorem row_below {H:Type} {enc:TypeId × Value→H} {P:Program} {f:Func} {s:ChangeSpec} {apart fresh handsOn again:Bool} {W W':World} {args:Array Value} {v:Value} {ds gs:List (DataW H)} {before pa pv:List MemPlace}
    (hW:DataW.Whole enc P f.params.toList s.vars apart W args.toList ds gs before) (hb:Below W.heap.size W W') (hp:before=pa ++ pv)
    (hr:∀ (b:Nat) (sp:Nat→Bool) (hd:Bool),DataW.TrodAll enc P W' b sp hd f.resultTypes.toList (v.resultList f.resultTypes.size) (s.fn H (ds ++ gs)).results [])
    (ha:∀ sp:Nat→Bool,(∀ p∈before,sp p.block=true)→DataW.TrodAll enc P W' 0 sp true f.params.toList args.toList (s.fn H (ds ++ gs)).args pa)
    (hv:∀ sp:Nat→Bool,(∀ p∈before,sp p.block=true)→DataW.TrodVars enc P W' sp s.vars (s.fn H (ds ++ gs)).vars pv)
    (ho:∀ (j:Nat) (t:TypeId) (r:Value),f.resultTypes[j]? = some t→(v.resultList f.resultTypes.size)[j]? = some r→Value.okWide P W' .any 0 t r) :
    s.post enc P f apart fresh handsOn again W args v W':=by
  have small:∀ p∈before,decide (p.block < W.heap.size)=true:=fun p h=>decide_eq_true (hW.lt p h)
  refine⟨ds,gs,before,[],pa,pv,hW,hr _ _ _,ha (fun b=>decide (b < W.heap.size)) small,hv _ small,hb.frame _,fun _=>⟨ho,?_⟩⟩
  obtain⟨_,_,_,_,_,hz,hn⟩:=hW
  refine⟨_,_,([] ++ pa) ++ pv,⟨[] ++ pa,pv,trodAll_append (ha _ fun _ _=>rfl) (hr _ _ _),hv _ fun _ _=>rfl,rfl,fun b off hm=>?_,fun h=>?_⟩,?_⟩
  · have hm':MemPlace.cell b off∈before:=by rw[hp]; simpa using hm
    rw[hb.frozen (of_decide_eq_true (small _ hm'))]
    exact hz b off hm'
  · have:=hn h
    rw[hp] at this
    simpa using this
  · intro x hx _
    rw[hp]
    simpa using hx
end Go.Vm
/- Functions that are taken for known: from what the shelf says of them. -/
set_option linter.unusedVariables false
set_option linter.unusedSimpArgs false
namespace Go.Vm
open Go Go.RowKit
theorem post_below {K:Cx} {base:Nat} {h:AHeap} (H:HRel K base h) {v:AV} {cv:Value} {w':World} (hb:Below K.w.heap.size K.w w') (hv:∀ K',VRel K' v cv):CallPost K base h K.c v (.returned cv) w':=by
  let K':Cx:={ K with w:=w' }
  have S:K.Step K':=⟨Nat.le_refl _,fun _ _=>rfl,hb.os,hb.tape,hb.output,hb.size,fun b h1 h2=>⟨hb.block b h1,h2⟩,rfl,fun l ⟨R,hR⟩=>⟨R,(hb.block l (by
    rcases Nat.lt_or_ge l K.w.heap.size with hlt | hge
    · exact hlt
    · rw[Array.getElem?_eq_none hge] at hR; cases hR)).trans hR⟩⟩
  exact⟨K',cv,rfl,rfl,S,H.step S (fun b hL=>hb.block b (H.bs b hL).2) rfl,rfl,hv K'⟩
theorem prim_ss {P:Program} {g:FuncId} {p:List AV→Option AV} (hf:∀ args v,p args=some v→∃ a b r,args=[.s (.string a),.s (.string b)]∧v = .s r∧∀ w,Calls P g #[.string a,.string b] w fun e w'=>e = .returned r∧Below w.heap.size w w') :
    ∀ args v,p args=some v→∀ (K:Cx) (base:Nat) (h:AHeap) (cargs:Array Value),HRel K base h→VRels K args cargs.toList→∀ N,CallsIn Fence.wide N P g cargs K.w (CallPost K base h K.c v):=fun args v hp K base h cargs H hr N=>by
  obtain⟨a,b,r,rfl,rfl,hc⟩:=hf args v hp
  obtain⟨cl,rfl⟩:∃ l:List Value,cargs=l.toArray:=⟨cargs.toList,by simp⟩
  match cl,hr with
  | [x,y],hr=>
    simp only[VRels,VRel] at hr
    obtain⟨rfl,rfl,_⟩:=hr
    refine callsIn_wide.2 ((hc K.w).mono ?_)
    rintro e w' ⟨rfl,hb⟩
    exact post_below H hb fun K'=>by simp[VRel]
  | [],hr=>simp[VRels] at hr
  | [_],hr=>simp[VRels] at hr
  | _ :: _ :: _ :: _,hr=>simp[VRels] at hr
theorem prim_si {P:Program} {g:FuncId} {p:List AV→Option AV} (hf:∀ args v,p args=some v→∃ a k c r,args=[.s (.string a),.s (.int k c)]∧v = .s r∧∀ w,Calls P g #[.string a,.int k c] w fun e w'=>e = .returned r∧Below w.heap.size w w') :
    ∀ args v,p args=some v→∀ (K:Cx) (base:Nat) (h:AHeap) (cargs:Array Value),HRel K base h→VRels K args cargs.toList→∀ N,CallsIn Fence.wide N P g cargs K.w (CallPost K base h K.c v):=fun args v hp K base h cargs H hr N=>by
  obtain⟨a,k,c,r,rfl,rfl,hc⟩:=hf args v hp
  obtain⟨cl,rfl⟩:∃ l:List Value,cargs=l.toArray:=⟨cargs.toList,by simp⟩
  match cl,hr with
  | [x,y],hr=>
    simp only[VRels,VRel] at hr
    obtain⟨rfl,rfl,_⟩:=hr
    refine callsIn_wide.2 ((hc K.w).mono ?_)
    rintro e w' ⟨rfl,hb⟩
    exact post_below H hb fun K'=>by simp[VRel]
  | [],hr=>simp[VRels] at hr
  | [_],hr=>simp[VRels] at hr
  | _ :: _ :: _ :: _,hr=>simp[VRels] at hr
def strsB:List (List AV)→Option (List ByteArray)
  | []=>some []
  | [.s (.string b)] :: rs=>(strsB rs).map fun l=>b :: l
  | _=>none
theorem strsB_ok:∀ {rows:List (List AV)} {l:List Str},strsOf rows=some l→∃ xs,strsB rows=some xs∧xs.map (·.data.toList)=l∧xs.length=rows.length
  | [],l,h=>by cases h; exact⟨[],rfl,rfl,rfl⟩
  | r :: rs,l,h=>by
    unfold strsOf at h
    split at h
    · rename_i e; cases e
    · rename_i b rs' e
      cases e
      obtain⟨l2,h1,rfl⟩:=Option.map_eq_some_iff.1 h
      obtain⟨xs,h2,h3,h4⟩:=strsB_ok h1
      exact⟨b :: xs,by simp only[strsB,h2,Option.map_some],by simp[h3],by simp[h4]⟩
    · cases h
theorem strs_cells {K:Cx} {b:Nat}:∀ {rows:List (List AV)} {xs:List ByteArray} {o:Nat},strsB rows=some xs→RRel K.frz b o 1 rows→∀ (j:Nat) x,xs[j]? = some x→K.w.cell? ⟨b,o + j,none⟩=some (.string x)∧b < K.w.heap.size
  | [],xs,o,h,_,j,x,hx=>by cases h; simp at hx
  | r :: rs,xs,o,h,hr,j,x,hx=>by
    unfold strsB at h
    split at h
    · rename_i e; cases e
    · rename_i b' rs' e
      cases e
      obtain⟨l2,h1,rfl⟩:=Option.map_eq_some_iff.1 h
      simp only[RRel] at hr
      obtain⟨_,hc,hrest⟩:=hr
      cases j with
      | zero=>
        simp only[List.getElem?_cons_zero,Option.some.injEq] at hx
        subst hx
        simp only[CRel,VRel,and_true] at hc
        obtain⟨v,h2,h3,h4,h5⟩:=hc
        subst h5
        exact⟨h3,h2.1⟩
      | succ j=>
        have:=strs_cells h1 hrest j x (by simpa using hx)
        rw[show o + (j + 1)=o + 1 + j by omega]
        exact this
    · cases h
theorem prim_join {P:Program} {g:FuncId} (h0:∀ (a:Option Addr) (c:Nat) (sep:ByteArray) (w:World),Calls P g #[.slice a 0 c,.string sep] w fun e w'=>e = .returned (.string ⟨#[]⟩)∧w' = w)
    (h1:∀ (bk o c:Nat) (xs:List ByteArray) (sep:ByteArray) (w:World),(∀ (j:Nat) x,xs[j]? = some x→w.cell? ⟨bk,o + j,none⟩=some (.string x))→bk < w.heap.size→xs.length≤140737488355328→xs.length≤c→(Lib.join (xs.map (·.data.toList)) sep.data.toList).length≤140737488355328 →
      Calls P g #[.slice (some ⟨bk,o,none⟩) xs.length c,.string sep] w fun e w'=>e = .returned (.string ⟨(Lib.join (xs.map (·.data.toList)) sep.data.toList).toArray⟩)∧Below w.heap.size w w') :
    ∀ args v,joinP args=some v→∀ (K:Cx) (base:Nat) (h:AHeap) (cargs:Array Value),HRel K base h→VRels K args cargs.toList→∀ N,CallsIn Fence.wide N P g cargs K.w (CallPost K base h K.c v):=fun args v hp K base h cargs H hr N=>by
  unfold joinP at hp
  split at hp
  · rename_i x sep
    split at hp
    · rename_i l hl
      split at hp
      · rename_i hbound
        cases hp
        obtain⟨cl,rfl⟩:∃ l:List Value,cargs=l.toArray:=⟨cargs.toList,by simp⟩
        match cl,hr with
        | [y,z],hr=>
          simp only[VRels] at hr
          obtain⟨hx,hz,_⟩:=hr
          simp only[VRel] at hz
          subst hz
          have empty:∀ (a:Option Addr) (c:Nat),l=[]→CallsIn Fence.wide N P g #[.slice a 0 c,.string sep] K.w (CallPost K base h K.c (.s (.string ⟨(Lib.join l sep.data.toList).toArray⟩))):=fun a c e=>by
            subst e
            refine callsIn_wide.2 ((h0 a c sep K.w).mono ?_)
            rintro e w' ⟨rfl,rfl⟩
            exact post_below H (Below.refl _ _) fun K'=>by simp[VRel,Lib.join_nil]
          unfold strRow at hl
          split at hl
          · cases hl
            simp only[VRel] at hx
            subst hx
            exact empty none 0 rfl
          · cases hl
            simp only[VRel] at hx
            obtain⟨A,rfl,_⟩:=hx
            exact empty A 0 rfl
          · rename_i rows
            obtain⟨xs,e1,e2,e3⟩:=strsB_ok hl
            simp only[VRel] at hx
            obtain⟨A,cap,rfl,_,hcap,hcells⟩:=hx
            rcases hcells with hc | ⟨b,o,rfl,hc⟩
            · subst hc
              have:l=[]:=by cases hl; rfl
              exact empty A cap this
            · cases hxs:xs with
              | nil=>
                rw[hxs] at e2 e3
                have hrl:rows.length=0:=e3.symm
                rw[hrl]
                exact empty _ cap e2.symm
              | cons x0 xs0=>
                have hb:b < K.w.heap.size:=(strs_cells e1 hc 0 x0 (by rw[hxs]; rfl)).2
                rw[← e2] at hbound ⊢
                rw[← e3] at hcap ⊢
                refine callsIn_wide.2 ((h1 b o cap xs sep K.w (fun j x hj=>(strs_cells e1 hc j x hj).1) hb (by have:=hbound.1; simp at this; omega) hcap hbound.2).mono ?_)
                rintro e w' ⟨rfl,hbl⟩
                exact post_below H hbl fun K'=>by simp[VRel]
          · cases hl
        | [],hr=>simp[VRels] at hr
        | [_],hr=>simp[VRels] at hr
        | _ :: _ :: _ :: _,hr=>simp[VRels] at hr
      · cases hp
    · cases hp
  · cases hp
theorem ascii_ok {a:List UInt8} (h:asciiB a=true):∀ (j:Nat) b,a[j]? = some b→b.toNat < 128:=fun j b hb=>by
  have:=List.all_eq_true.1 h b (List.mem_of_getElem? hb)
  simpa using this
theorem prim_lift {P:Program} {g:FuncId} {p:List AV→Option AV} (hf:∀ args v,p args=some v→∀ (K:Cx) (base:Nat) (h:AHeap) (cargs:Array Value),HRel K base h→VRels K args cargs.toList→∀ N,CallsIn Fence.wide N P g cargs K.w (CallPost K base h K.c v)) :
    ∀ args h n v h' n',liftM p args h n=some (v,h',n')→∀ (K:Cx) (base:Nat) (cargs:Array Value),HRel K base h→K.c=n→VRels K args cargs.toList→∀ N,CallsIn Fence.wide N P g cargs K.w (CallPost K base h' n' v):=fun args h n v h' n' hp K base cargs H hc hr N=>by
  unfold liftM at hp
  obtain⟨v2,h1,h2⟩:=Option.map_eq_some_iff.1 hp
  cases h2
  subst hc
  exact hf args v h1 K base h cargs H hr N
end Go.Vm
set_option maxRecDepth 100000
namespace Go.Proofs
open Go.Shelf
def Tryz.z213f:Nat→Nat
  | 213=>140
  | 265=>154
  | n=>n
def Tryz.z213t:Nat→Nat
  | 9=>9
  | 3=>3
  | n=>n
def Tryz.z213g:Nat→Nat
  | n=>n
def Tryz.z213r:Ren:=⟨Tryz.z213f,Tryz.z213t,Tryz.z213g⟩
theorem Tryz.z213:Lays.n213 Tryz.prog Tryz.z213r where
  mixed:=by kernel_rfl
  f213:=by kernel_rfl
  f265:=by kernel_rfl
  t3:=Tryz.underlying3
  a3:=Tryz.isAgg3
  z3:=Tryz.sizeOf3
  v3:=Tryz.zeroValue3
  t9:=Tryz.underlying9
  a9:=Tryz.isAgg9
  z9:=Tryz.sizeOf9
  v9:=Tryz.zeroValue9
def Tryz.z137f:Nat→Nat
  | 137=>145
  | 217=>156
  | 266=>161
  | n=>n
def Tryz.z137t:Nat→Nat
  | 9=>9
  | 5=>5
  | 3=>3
  | n=>n
def Tryz.z137g:Nat→Nat
  | n=>n
def Tryz.z137r:Ren:=⟨Tryz.z137f,Tryz.z137t,Tryz.z137g⟩
theorem Tryz.z137:Lays.n137 Tryz.prog Tryz.z137r where
  mixed:=by kernel_rfl
  f137:=by kernel_rfl
  f217:=by kernel_rfl
  f266:=by kernel_rfl
  t3:=Tryz.underlying3
  a3:=Tryz.isAgg3
  z3:=Tryz.sizeOf3
  v3:=Tryz.zeroValue3
  t5:=Tryz.underlying5
  a5:=Tryz.isAgg5
  z5:=Tryz.sizeOf5
  v5:=Tryz.zeroValue5
  t9:=Tryz.underlying9
  a9:=Tryz.isAgg9
  z9:=Tryz.sizeOf9
  v9:=Tryz.zeroValue9
def Tryz.z150f:Nat→Nat
  | 150=>39
  | 153=>92
  | 152=>129
  | 226=>130
  | 227=>131
  | 228=>132
  | 137=>145
  | 119=>146
  | 224=>147
  | 225=>148
  | 217=>156
  | 266=>161
  | n=>n
def Tryz.z150t:Nat→Nat
  | 9=>9
  | 4=>4
  | 3=>3
  | 5=>5
  | 21=>21
  | 117=>111
  | 116=>110
  | 0=>0
  | 46=>126
  | 124=>127
  | n=>n
def Tryz.z150g:Nat→Nat
  | n=>n
def Tryz.z150r:Ren:=⟨Tryz.z150f,Tryz.z150t,Tryz.z150g⟩
theorem Tryz.z150:Lays.n150 Tryz.prog Tryz.z150r where
  mixed:=by kernel_rfl
  f119:=by kernel_rfl
  f137:=by kernel_rfl
  f150:=by kernel_rfl
  f152:=by kernel_rfl
  f153:=by kernel_rfl
  f217:=by kernel_rfl
  f224:=by kernel_rfl
  f225:=by kernel_rfl
  f226:=by kernel_rfl
  f227:=by kernel_rfl
  f228:=by kernel_rfl
  f266:=by kernel_rfl
  t0:=Tryz.underlying0
  a0:=Tryz.isAgg0
  z0:=Tryz.sizeOf0
  v0:=Tryz.zeroValue0
  t3:=Tryz.underlying3
  a3:=Tryz.isAgg3
  z3:=Tryz.sizeOf3
  v3:=Tryz.zeroValue3
  t4:=Tryz.underlying4
  a4:=Tryz.isAgg4
  z4:=Tryz.sizeOf4
  v4:=Tryz.zeroValue4
  t5:=Tryz.underlying5
  a5:=Tryz.isAgg5
  z5:=Tryz.sizeOf5
  v5:=Tryz.zeroValue5
  t9:=Tryz.underlying9
  a9:=Tryz.isAgg9
  z9:=Tryz.sizeOf9
  v9:=Tryz.zeroValue9
  t21:=Tryz.underlying21
  a21:=Tryz.isAgg21
  z21:=Tryz.sizeOf21
  v21:=Tryz.zeroValue21
  t46:=Tryz.underlying126
  a46:=Tryz.isAgg126
  z46:=Tryz.sizeOf126
  v46:=Tryz.zeroValue126
  t116:=Tryz.underlying110
  a116:=Tryz.isAgg110
  z116:=Tryz.sizeOf110
  t117:=Tryz.underlying111
  a117:=Tryz.isAgg111
  z117:=Tryz.sizeOf111
  v117:=Tryz.zeroValue111
  t124:=Tryz.underlying127
  a124:=Tryz.isAgg127
  z124:=Tryz.sizeOf127
  v124:=Tryz.zeroValue127
def Tryz.z156f:Nat→Nat
  | 156=>102
  | 165=>137
  | 166=>138
  | 169=>139
  | 240=>152
  | 241=>153
  | 276=>159
  | 277=>160
  | n=>n
def Tryz.z156t:Nat→Nat
  | 31=>22
  | 9=>9
  | 3=>3
  | 4=>4
  | 0=>0
  | 20=>20
  | 72=>117
  | 76=>121
  | 70=>115
  | 37=>92
  | 75=>120
  | 127=>130
  | 164=>134
  | 5=>5
  | 80=>53
  | n=>n
def Tryz.z156g:Nat→Nat
  | n=>n
def Tryz.z156r:Ren:=⟨Tryz.z156f,Tryz.z156t,Tryz.z156g⟩
theorem Tryz.z156:Lays.n156 Tryz.prog Tryz.z156r where
  mixed:=by kernel_rfl
  f156:=by kernel_rfl
  f165:=by kernel_rfl
  f166:=by kernel_rfl
  f169:=by kernel_rfl
  f240:=by kernel_rfl
  f241:=by kernel_rfl
  f276:=by kernel_rfl
  f277:=by kernel_rfl
  t0:=Tryz.underlying0
  a0:=Tryz.isAgg0
  z0:=Tryz.sizeOf0
  v0:=Tryz.zeroValue0
  t3:=Tryz.underlying3
  a3:=Tryz.isAgg3
  z3:=Tryz.sizeOf3
  v3:=Tryz.zeroValue3
  t4:=Tryz.underlying4
  a4:=Tryz.isAgg4
  z4:=Tryz.sizeOf4
  v4:=Tryz.zeroValue4
  t9:=Tryz.underlying9
  a9:=Tryz.isAgg9
  z9:=Tryz.sizeOf9
  v9:=Tryz.zeroValue9
  t20:=Tryz.underlying20
  a20:=Tryz.isAgg20
  z20:=Tryz.sizeOf20
  v20:=Tryz.zeroValue20
  t31:=Tryz.underlying22
  a31:=Tryz.isAgg22
  z31:=Tryz.sizeOf22
  v31:=Tryz.zeroValue22
  t37:=Tryz.underlying92
  a37:=Tryz.isAgg92
  z37:=Tryz.sizeOf92
  v37:=Tryz.zeroValue92
  t70:=Tryz.underlying115
  a70:=Tryz.isAgg115
  z70:=Tryz.sizeOf115
  v70:=Tryz.zeroValue115
  t72:=Tryz.underlying117
  a72:=Tryz.isAgg117
  z72:=Tryz.sizeOf117
  v72:=Tryz.zeroValue117
  t75:=Tryz.underlying120
  a75:=Tryz.isAgg120
  z75:=Tryz.sizeOf120
  v75:=Tryz.zeroValue120
  t76:=Tryz.underlying121
  a76:=Tryz.isAgg121
  z76:=Tryz.sizeOf121
  v76:=Tryz.zeroValue121
  t127:=Tryz.underlying130
  a127:=Tryz.isAgg130
  z127:=Tryz.sizeOf130
  v127:=Tryz.zeroValue130
  t164:=Tryz.underlying134
  a164:=Tryz.isAgg134
  z164:=Tryz.sizeOf134
  v164:=Tryz.zeroValue134
theorem Tryz.z156x:Builder.Extra Tryz.prog Tryz.z156r where
  sizeBuilder:=by kernel_rfl
  liesBuilder:=by kernel_rfl
  t5:=by kernel_rfl
  a5:=Tryz.isAgg5
  z5:=Tryz.sizeOf5
  v5:=Tryz.zeroValue5
  infoByte:=by kernel_rfl
  cellsByte:=by kernel_rfl
  sizeByte:=by kernel_rfl
  neB5:=by decide
end Go.Proofs
namespace Go.Vm
open Go Go.RowKit Go.Proofs
def funcOk (fn:Func):Bool:=!(fn.name == "runtime.NumGoroutine") && (match fn.body with | some c=>codeOk c | none=>true)
theorem funcsOk:E.P.funcs.toList.all funcOk=true:=by kernel_rfl
theorem pk_bytealg_CompareString:∀ args v,cmpP args=some v→∀ (K:Cx) (base:Nat) (h:AHeap) (cargs:Array Value),HRel K base h→VRels K args cargs.toList→∀ N,CallsIn Fence.wide N E.P 140 cargs K.w (CallPost K base h K.c v):=prim_ss fun args v hv=>by
  unfold cmpP at hv
  split at hv
  · rename_i a b
    cases hv
    exact⟨a,b,_,rfl,rfl,fun w=>(Go.Proofs.Any.bytealg_CompareString Go.Proofs.Tryz.z213 a b w).mono fun e w' ⟨h1,h2⟩=>⟨h1,h2 ▸ Below.refl _ _⟩⟩
  · cases hv
theorem pk_strings_IndexByte:∀ args v,ixbP args=some v→∀ (K:Cx) (base:Nat) (h:AHeap) (cargs:Array Value),HRel K base h→VRels K args cargs.toList→∀ N,CallsIn Fence.wide N E.P 145 cargs K.w (CallPost K base h K.c v):=prim_si fun args v hv=>by
  unfold ixbP at hv
  split at hv
  · rename_i a c
    cases hv
    exact⟨a,.u8,c,_,rfl,rfl,fun w=>(Go.Proofs.Any.strings_IndexByte Go.Proofs.Tryz.z137 a c w).mono fun e w' ⟨h1,h2⟩=>⟨h1,h2 ▸ Below.refl _ _⟩⟩
  · cases hv
theorem pk_strings_ContainsAny:∀ args v,ctaP args=some v→∀ (K:Cx) (base:Nat) (h:AHeap) (cargs:Array Value),HRel K base h→VRels K args cargs.toList→∀ N,CallsIn Fence.wide N E.P 39 cargs K.w (CallPost K base h K.c v):=prim_ss fun args v hv=>by
  unfold ctaP at hv
  split at hv
  · rename_i a b
    split at hv
    · rename_i h
      cases hv
      simp only[Bool.and_eq_true,decide_eq_true_eq] at h
      have z:=zero_of_info (P:=E.P) (t:=Go.Proofs.Tryz.z150r.t 116) (v:=.agg (Array.replicate 256 (.bool false))) (n:=256) (by kernel_rfl)
      exact⟨a,b,_,rfl,rfl,fun w=>Go.Proofs.Any.strings_ContainsAny Go.Proofs.Tryz.z150 z.1 z.2 a b w (by rw[Lib.size_eq]; exact h.1.2) (by rw[Lib.size_eq]; exact h.2) (ascii_ok h.1.1.1) (ascii_ok h.1.1.2)⟩
    · cases hv
  · cases hv
theorem pk_strings_Join:∀ args v,joinP args=some v→∀ (K:Cx) (base:Nat) (h:AHeap) (cargs:Array Value),HRel K base h→VRels K args cargs.toList→∀ N,CallsIn Fence.wide N E.P 102 cargs K.w (CallPost K base h K.c v):=prim_join (fun a c sep w=>Go.Proofs.Any.strings_Join_none Go.Proofs.Tryz.z156 Go.Proofs.Tryz.z156x a c sep w) (fun bk o c xs sep w h1 h2 h3 h4 h5=>Go.Proofs.Any.strings_Join Go.Proofs.Tryz.z156 Go.Proofs.Tryz.z156x bk o c xs sep w h1 h2 h3 h4 h5)
theorem envOk:EnvOk E:=by
  have key:∀ (f:FuncId) (fn:Func),E.P.funcs[f]? = some fn→funcOk fn=true:=fun f fn hf=>by
    have:=List.all_eq_true.1 funcsOk fn (by
      obtain⟨h1,h2⟩:=Array.getElem?_eq_some_iff.1 hf
      rw[← h2]
      simp)
    exact this
  refine⟨fun f fn hf=>?_,fun f fn c hf hc=>?_,fun g p hp=>?_,fun g p hp=>?_⟩
  · have:=key f fn hf
    unfold funcOk at this
    rw[Bool.and_eq_true] at this
    simpa using this.1
  · have:=key f fn hf
    unfold funcOk at this
    rw[Bool.and_eq_true,hc] at this
    exact this.2
  · simp only[E] at hp
    split at hp
    · rename_i hg
      subst hg
      cases hp
      exact⟨⟨Go.Proofs.Tryz.f140,by kernel_rfl,by kernel_rfl⟩,pk_bytealg_CompareString⟩
    · skip
      split at hp
      · rename_i hg
        subst hg
        cases hp
        exact⟨⟨Go.Proofs.Tryz.f145,by kernel_rfl,by kernel_rfl⟩,pk_strings_IndexByte⟩
      · skip
        split at hp
        · rename_i hg
          subst hg
          cases hp
          exact⟨⟨Go.Proofs.Tryz.f39,by kernel_rfl,by kernel_rfl⟩,pk_strings_ContainsAny⟩
        · skip
          cases hp
  · simp only[E] at hp
    split at hp
    · rename_i hg
      subst hg
      cases hp
      exact⟨⟨Go.Proofs.Tryz.f102,by kernel_rfl,by kernel_rfl⟩,prim_lift pk_strings_Join⟩
    · skip
      cases hp
theorem law_true {g:FuncId} {vs vs':List AV} {m:Option Bool} (hc:Ct E g vs m (fun r=>bv r)) (hm:m=some true) (hp:E.prim g=none) (hpf:E.pf g=true) (hv:All2 (VLe Rn.nil) vs vs') (hs:snapL (snap AHeap.nil depth) vs' = some (vs',false)) (w:World) {cargs:Array Value}
    (hr:VRels { w:=w,ι:=fun _=>(0,0,0),L:=fun _=>False,X:=fun _=>False,c:=0 } vs' cargs.toList) :
    Calls E.P g cargs w fun e w'=>e = .returned (.bool true)∧w'.os=w.os∧w'.tape=w.tape∧w'.output=w.output∧w.heap.size≤w'.heap.size∧(∀ b,b < w.heap.size→w'.heap[b]? = w.heap[b]?):=by
  obtain⟨u,h1,h2⟩:=hc true hm vs' hv AHeap.nil 0
  have hu:=h2.s_inv
  subst hu
  unfold callFn at h1
  rw[hp] at h1
  simp only[hpf,if_true,hs] at h1
  cases hcl:(rinf E).call g vs' AHeap.nil 0 with
  | none=>rw[hcl] at h1; cases h1
  | some q=>
    obtain⟨v,h3,n3⟩:=q
    rw[hcl] at h1
    simp only at h1
    cases hsn:snap h3 depth v with
    | none=>rw[hsn] at h1; cases h1
    | some q2=>
      obtain⟨v',b2⟩:=q2
      rw[hsn] at h1
      simp only[Bool.false_and,Bool.false_eq_true,if_false,Option.some.injEq,Prod.mk.injEq] at h1
      obtain⟨k,hk⟩:=rinf_call.1 hcl
      have hpc:pcall E k g vs' = some (bv true):=by
        unfold pcall
        rw[hk]
        simp only[hsn,h1.1]
      refine (pcall_sound envOk (fun r=>drawOk_all r) hpc w hr).mono ?_
      rintro e w' ⟨cv,h4,h5,h6,h7,h8,h9,h10⟩
      simp only[VRel] at h10
      subst h10
      exact⟨h4,h5,h6,h7,h8,h9⟩
end Go.Vm
/- What a call reads, as Lean data: an argument's reading by shape gives a value of the evaluator. -/
namespace Go.Vm
open Go
structure BulkOk {H:Type} (f:DataW H→Nat) (g:List (DataW H)→Nat):Prop where
  nil:g []=0
  cons:∀ d r,g (d :: r)=f d + g r
  pos:∀ d,1≤f d
  str:∀ l,f (.lit (.string l))=l.length + 1
  slice:∀ e s,f (.slice e s)=g e + g s + 1
  agg:∀ p,f (.agg p)=g p + 1
theorem BulkOk.sum {H:Type} {f:DataW H→Nat} {g:List (DataW H)→Nat} (B:BulkOk f g):∀ l,g l=(l.map f).sum
  | []=>B.nil
  | d :: r=>by rw[B.cons,B.sum r]; rfl
def Kw (W:World):Cx:={ w:=W,ι:=fun _=>(0,0,0),L:=fun _=>False,X:=fun _=>False,c:=0 }
def simpC:AV→Bool
  | .s _=>true
  | .fsl ..=>true
  | .esl=>true
  | _=>false
theorem snap_simpC {h:AHeap} {k:Nat} {c:AV} (hc:simpC c=true):snap h k c=some (c,false):=by
  cases c <;> first | (cases k <;> rfl) | cases hc
theorem snapL_simpC {h:AHeap} {k:Nat}:∀ {cs:List AV},cs.all simpC=true→snapL (snap h k) cs=some (cs,false)
  | [],_=>rfl
  | c :: cs,hc=>by
    simp only[List.all_cons,Bool.and_eq_true] at hc
    simp only[snapL,snap_simpC hc.1,snapL_simpC hc.2,Bool.or_self]
def simpA:AV→Bool
  | .agg cs=>cs.all simpC
  | c=>simpC c
theorem snap_simpA {h:AHeap} {k:Nat} {c:AV} (hc:simpA c=true):snap h (k + 1) c=some (c,false):=by
  unfold simpA at hc
  split at hc
  · simp only[snap,snapL_simpC hc,Option.map_some]
  · exact snap_simpC hc
theorem snapL_nil' (h:AHeap):snapL (snap h depth) []=some ([],false):=rfl
theorem snapL_cons' {h:AHeap} {c:AV} {cs:List AV} (hc:simpA c=true) (hs:snapL (snap h depth) cs=some (cs,false)):snapL (snap h depth) (c :: cs)=some (c :: cs,false):=by
  have h1:snap h depth c=some (c,false):=snap_simpA hc
  simp only[snapL,h1,hs,Bool.or_self]
section
variable {H:Type} {P:Program} {f:DataW H→Nat} {g:List (DataW H)→Nat}
structure Rd (P:Program) (f:DataW H→Nat) (t:TypeId) (n:Nat) {α:Type} (en:α→List AV) (ok:α→Prop) (μ:α→Nat):Prop where
  read:∀ {enc:TypeId × Value→H} {W:World} {fuel:Nat} {cs:List Value} {d:DataW H} {pl:List MemPlace},DataW.trod enc P W 0 (fun _=>true) true fuel t cs=some (d,pl) →
    ∃ x a,VRels (Kw W) a cs∧All2 (VLe Rn.nil) (en x) a∧a.all simpC=true∧ok x∧μ x≤f d∧cs.length=n∧(∀ v∈cs,v.oneCell' = true)
theorem Rd.str (B:BulkOk f g) {t:TypeId} (ht:P.underlying t=some .string):Rd P f t 1 (fun x:Str=>[bs x]) (fun _=>True) (fun x=>x.length + 1) where
  read h:=by
    obtain⟨s,rfl,e,_⟩:=DataW.trod_string ht h
    obtain⟨rfl,rfl⟩:=Prod.mk.inj e
    exact⟨s.data.toList,[.s (.string s)],by simp[VRels,VRel],⟨VLe.s_refl _,trivial⟩,rfl,trivial,by rw[B.str]; exact Nat.le_refl _,rfl,by simp; rfl⟩
theorem Rd.int (B:BulkOk f g) {t:TypeId} {k:IntKind} (ht:P.underlying t=some (.int k)):Rd P f t 1 (fun x:Int=>[.s (.int k x)]) (fun x=>(Lit.int k x).wf=true) (fun _=>1) where
  read h:=by
    obtain⟨n,rfl,e,w⟩:=DataW.trod_int ht h
    obtain⟨rfl,rfl⟩:=Prod.mk.inj e
    exact⟨n,[.s (.int k n)],by simp[VRels,VRel],⟨VLe.s_refl _,trivial⟩,rfl,w,B.pos _,rfl,by simp; rfl⟩
theorem Rd.bool (B:BulkOk f g) {t:TypeId} (ht:P.underlying t=some .bool):Rd P f t 1 (fun x:Bool=>[bv x]) (fun _=>True) (fun _=>1) where
  read h:=by
    obtain⟨n,rfl,e⟩:=DataW.trod_bool ht h
    obtain⟨rfl,rfl⟩:=Prod.mk.inj e
    exact⟨n,[bv n],by simp[VRels,VRel],⟨VLe.s_refl _,trivial⟩,rfl,trivial,B.pos _,rfl,by simp; rfl⟩
theorem VRels.len {K:Cx}:∀ {a:List AV} {x:List Value},VRels K a x→a.length=x.length
  | [],[],_=>rfl
  | _ :: a,_ :: x,h=>by simp only[List.length_cons]; rw[VRels.len (a:=a) (x:=x) (by simp only[VRels] at h; exact h.2)]
  | [],_ :: _,h=>by simp[VRels] at h
  | _ :: _,[],h=>by simp[VRels] at h
theorem crel_rd {W:World} {b:Nat}:∀ {a:List AV} {cs:List Value} {o:Nat},VRels (Kw W) a cs→(∀ i,i < cs.length→W.cell? ⟨b,o + i,none⟩=cs[i]?)→(∀ v∈cs,v.oneCell' = true)→CRel (Kw W) b o a
  | [],_,_,_,_,_=>by simp[CRel]
  | c :: a,[],_,h,_,_=>by simp[VRels] at h
  | c :: a,v :: cs,o,h,hc,h1=>by
    simp only[VRels] at h
    have h0:=hc 0 (by simp)
    simp only[Nat.add_zero,List.getElem?_cons_zero] at h0
    refine⟨⟨v,⟨?_,id,id⟩,h0,h1 v List.mem_cons_self,h.1⟩,crel_rd h.2 (fun i hi=>?_) fun u hu=>h1 u (List.mem_cons_of_mem _ hu)⟩
    · unfold World.cell? at h0
      split at h0
      · rename_i e
        exact (Array.getElem?_eq_some_iff.1 e).1
      · cases h0
    · have:=hc (i + 1) (by simp; omega)
      rw[Nat.add_assoc,Nat.add_comm 1 i,this]
      rfl
theorem Rd.slice (B:BulkOk f g) {t e:TypeId} {n:Nat} {α:Type} {en:α→List AV} {ok:α→Prop} {μ:α→Nat} (R:Rd P f e n en ok μ) (ht:P.underlying t=some (.slice e)) (hn:P.cellsOf e=n) (h0:0 < n) :
    Rd P f t 1 (fun x:List α=>[.fsl n (x.map en)]) (fun x=>∀ y∈x,ok y) (fun x=>(x.map μ).sum + 1) where
  read {enc W fuel cs d pl} h:=by
    rcases Deep.open_slice ht h with ⟨rfl,e'⟩ | ⟨a,len,cap,m,k,D,Pl,rfl,_,hl,_,hm,e',hx⟩
    · obtain⟨rfl,rfl⟩:=Prod.mk.inj e'
      exact⟨[],[nilS],by simp[VRels,VRel],⟨VLe.fsl_iff.2 (.inr ⟨rfl,.inl rfl⟩),trivial⟩,rfl,by simp,by simpa using B.pos _,rfl,by simp; rfl⟩
    · obtain⟨rfl,rfl⟩:=Prod.mk.inj e'
      have hlm:len≤m:=by rw[hm]; simpa using hl
      subst hn
      have hspot:0 < len→a.spot=none:=fun hp=>by
        obtain⟨cs',h1,h2⟩:=hx 0 (by omega)
        obtain⟨_,hlen,hc⟩:=World.cells?_some h1
        have:=hc 0 h0
        rw[List.getElem?_eq_getElem (by omega)] at this
        simp only[Nat.zero_mul,Addr.add,if_true] at this
        unfold World.cell? at this
        split at this
        · split at this
          · cases this
          · rename_i q; simpa using q
        · cases this
      obtain⟨ab,ao,sp⟩:=a
      have key:∀ j i,i + j=len→∃ (xs:List α) (rows:List (List AV)),RRel (Kw W) ab (ao + i * P.cellsOf e) (P.cellsOf e) rows∧All2 (All2 (VLe Rn.nil)) (xs.map en) rows∧xs.length=j∧(∀ x∈xs,ok x)∧(xs.map μ).sum≤((List.range' i j).map fun q=>f (D q)).sum:=by
        intro j
        induction j with
        | zero=>intro i _; exact⟨[],[],by simp[RRel],trivial,rfl,by simp,by simp⟩
        | succ j ih=>
          intro i hij
          obtain rfl:sp=none:=hspot (by omega)
          obtain⟨xs,rows,r1,r0,r2,r3,r4⟩:=ih (i + 1) (by omega)
          obtain⟨cs',h1,h2⟩:=hx i (by omega)
          obtain⟨x,a,x1,x0,_,x2,x3,x4,x5⟩:=R.read h2
          obtain⟨_,hlen,hc⟩:=World.cells?_some h1
          refine⟨x :: xs,a :: rows,?_,⟨x0,r0⟩,by simp[r2],by simpa using ⟨x2,r3⟩,?_⟩
          · simp only[RRel]
            refine⟨by rw[x1.len,x4],crel_rd x1 (fun q hq=>?_) x5,?_⟩
            · have:=hc q (by omega)
              rw[WideShapes.add_plain,WideShapes.add_plain] at this
              exact this
            · rw[Nat.add_assoc,show i * P.cellsOf e + P.cellsOf e=(i + 1) * P.cellsOf e by rw[Nat.add_mul,Nat.one_mul]]
              exact r1
          · simp only[List.map_cons,List.sum_cons,List.range'_succ]
            omega
      obtain⟨xs,rows,r1,r0,r2,r3,r4⟩:=key len 0 (by omega)
      have rl:rows.length=len:=by rw[r0.length,List.length_map,r2]
      refine⟨xs,[.fsl (P.cellsOf e) rows],?_,⟨VLe.fsl_iff.2 (.inl ⟨rows,rfl,r0⟩),trivial⟩,rfl,r3,?_,rfl,by simp; rfl⟩
      · simp only[VRels,VRel,and_true,rl]
        refine⟨some ⟨ab,ao,sp⟩,cap,rfl,by simp,hl,?_⟩
        rcases Nat.eq_zero_or_pos len with hz | hp
        · left
          exact List.length_eq_zero_iff.1 (by omega)
        · right
          obtain rfl:sp=none:=hspot hp
          exact⟨ab,ao,rfl,by rw[Nat.zero_mul,Nat.add_zero] at r1; exact r1⟩
      · rw[B.slice,B.sum,List.map_map,List.range_eq_range']
        have:(List.map (f ∘ D) (List.range' 0 len)).sum=((List.range' 0 len).map fun q=>f (D q)).sum:=rfl
        omega
structure Rds (P:Program) (f:DataW H→Nat) (g:List (DataW H)→Nat) (fs:List Field) (o n:Nat) {α:Type} (en:α→List AV) (ok:α→Prop) (μ:α→Nat):Prop where
  read:∀ {enc:TypeId × Value→H} {W:World} {fuel:Nat} {cs:List Value} {xs:List (DataW H × List MemPlace)},xs.length=fs.length→o + n≤cs.length →
    (∀ (i:Nat) (fd:Field),fs[i]? = some fd→DataW.trod enc P W 0 (fun _=>true) true fuel fd.type ((cs.drop fd.offset).take (P.cellsOf fd.type))=xs[i]?) →
    ∃ x a,VRels (Kw W) a ((cs.drop o).take n)∧All2 (VLe Rn.nil) (en x) a∧a.all simpC=true∧ok x∧μ x≤g (xs.map (·.1))∧(∀ v∈(cs.drop o).take n,v.oneCell' = true)
theorem Rds.nil (o:Nat):Rds P f g [] o 0 (fun _:Unit=>[]) (fun _=>True) (fun _=>0) where
  read _ _ _:=⟨(),[],by simp[VRels],trivial,rfl,trivial,Nat.zero_le _,by simp⟩
theorem Rds.cons (B:BulkOk f g) {fd:Field} {fs:List Field} {o n1 n2:Nat} {α β:Type} {e1:α→List AV} {ok1:α→Prop} {μ1:α→Nat} {e2:β→List AV} {ok2:β→Prop} {μ2:β→Nat} (R1:Rd P f fd.type n1 e1 ok1 μ1) (R2:Rds P f g fs (o + n1) n2 e2 ok2 μ2) (ho:fd.offset=o) (hn:P.cellsOf fd.type=n1) :
    Rds P f g (fd :: fs) o (n1 + n2) (fun x:α × β=>e1 x.1 ++ e2 x.2) (fun x=>ok1 x.1∧ok2 x.2) (fun x=>μ1 x.1 + μ2 x.2) where
  read {enc W fuel cs xs} hl hc h:=by
    cases xs with
    | nil=>simp at hl
    | cons y xs=>
      have h0:=h 0 fd rfl
      simp only[List.getElem?_cons_zero,ho,hn] at h0
      obtain⟨x1,l1,a1,a0,az,a2,a3,a4,a5⟩:=R1.read (d:=y.1) (pl:=y.2) h0
      obtain⟨x2,l2,b1,b0,bz,b2,b3,b5⟩:=R2.read (enc:=enc) (W:=W) (fuel:=fuel) (cs:=cs) (xs:=xs) (by simpa using hl) (by omega) (fun i fd' h'=>by have:=h (i + 1) fd' (by simpa using h'); simpa using this)
      have e:(cs.drop o).take (n1 + n2)=(cs.drop o).take n1 ++ (cs.drop (o + n1)).take n2:=by rw[List.take_add,List.drop_drop]
      refine⟨(x1,x2),l1 ++ l2,?_,a0.append b0,by rw[List.all_append,az,bz]; rfl,⟨a2,b2⟩,?_,?_⟩
      · rw[e]; exact a1.append b1
      · simp only[List.map_cons]; rw[B.cons]; omega
      · rw[e]
        intro v hv
        rcases List.mem_append.1 hv with hv | hv
        · exact a5 v hv
        · exact b5 v hv
theorem Rd.struct (B:BulkOk f g) {t:TypeId} {fs:Array Field} {n:Nat} {α β:Type} {en:α→List AV} {ok:α→Prop} {μ:α→Nat} (R:Rds P f g fs.toList 0 n en ok μ) (ht:P.underlying t=some (.struct fs)) (hn:P.cellsOf t=n) (mk:α→β) (hs:∀ y,∃ x,mk x=y) {en':β→List AV} (he:∀ x,en' (mk x)=en x) {ok':β→Prop} (hk:∀ x,ok x→ok' (mk x)) {μ':β→Nat} (hm:∀ x,μ' (mk x)≤μ x + 1) :
    Rd P f t n en' ok' μ' where
  read {enc W fuel cs d pl} h:=by
    obtain⟨xs,k,_,e,hl,hx,hf⟩:=DataW.trod_struct ht h
    obtain⟨rfl,rfl⟩:=Prod.mk.inj e
    obtain⟨x,a,h1,h0,hz,h2,h3,h4⟩:=R.read (enc:=enc) (W:=W) (fuel:=k) (cs:=cs) (xs:=xs) (by simpa using hx) (by omega) (fun i fd h'=>hf i fd (by simpa using h'))
    rw[List.drop_zero,List.take_of_length_le (by omega)] at h1 h4
    refine⟨mk x,a,h1,by rw[he]; exact h0,hz,hk x h2,?_,by omega,h4⟩
    rw[B.agg]
    have:=hm x
    omega
theorem Rd.arg1 {t:TypeId} {α:Type} {c:α→AV} {ok:α→Prop} {μ:α→Nat} (R:Rd P f t 1 (fun x=>[c x]) ok μ) {enc:TypeId × Value→H} {W:World} {v:Value} {d:DataW H} {pl:List MemPlace} (hv:v.cells = #[v]) (h:DataW.Trod enc P W 0 (fun _=>true) true t v d pl) :
    ∃ x b,VRel (Kw W) b v∧ok x∧μ x≤f d∧VLe Rn.nil (c x) b∧simpA b=true:=by
  obtain⟨fuel,h⟩:=h
  obtain⟨x,a,h1,h0,hz,h2,h3,_⟩:=R.read h
  rw[hv] at h1
  match a,h0 with
  | [b],h0=>
    simp only[VRels,and_true] at h1
    simp only[List.all_cons,List.all_nil,Bool.and_true] at hz
    refine⟨x,b,h1,h2,h3,h0.1,?_⟩
    unfold simpA
    split
    · cases hz
    · exact hz
  | [],h0=>exact h0.elim
  | _ :: _ :: _,h0=>exact h0.2.elim
theorem cells_string {P:Program} {W:World} {r:Reach} {b:Nat} {t:TypeId} {v:Value} (ht:P.underlying t=some .string) (h:Value.okWide P W r b t v):v.cells = #[v]:=by
  unfold Value.okWide Cell.okWide Cell.ok at h
  rw[ht] at h
  cases v <;> first | rfl | simp at h
theorem args_stay {enc:TypeId × Value→H} (hl:laidOutB P=true) {W W':World} (hb:RowKit.Below W.heap.size W W') {sp:Nat→Bool}:∀ {ts:List TypeId} {vs:List Value} {ds:List (DataW H)} {ps:List MemPlace},(∀ t∈ts,P.readableRec t=true∧t < P.types.size)→DataW.TrodAll enc P W 0 (fun _=>true) true ts vs ds ps→(∀ x∈ps,x.block < W.heap.size)→(∀ x∈ps,sp x.block=true) →
    DataW.TrodAll enc P W' 0 sp true ts vs ds ps
  | [],[],[],_,_,h,_,_=>h
  | t :: ts,v :: vs,d :: ds,ps,hr,h,h1,h2=>by
    obtain⟨p,q,h3,h4,rfl⟩:=h
    exact⟨p,q,WideElems.Trod_stays hl (hr t List.mem_cons_self).1 (hr t List.mem_cons_self).2 h3 (fun x hx=>hb.same (h1 x (List.mem_append_left _ hx))) (fun x hx=>h2 x (List.mem_append_left _ hx)),
      args_stay hl hb (fun u hu=>hr u (List.mem_cons_of_mem _ hu)) h4 (fun x hx=>h1 x (List.mem_append_right _ hx)) (fun x hx=>h2 x (List.mem_append_right _ hx)),rfl⟩
  | [],_ :: _,_,_,_,h,_,_=>h.elim
  | [],[],_ :: _,_,_,h,_,_=>h.elim
  | _ :: _,[],_,_,_,h,_,_=>h.elim
  | _ :: _,_ :: _,[],_,_,h,_,_=>h.elim
end
end Go.Vm
/- Plain laws: loops, numbers. -/
namespace Go.Vm
open Go
section
variable {σ τ:Type} {f:σ→Option (Step σ τ)}
theorem loopC_next {x y:σ} (h:f x=some (.next y)):loopC f x=loopC f y:=by rw[loopC_eq,h]; rfl
theorem loopC_done {x:σ} {t:τ} (h:f x=some (.done t)):loopC f x=some t:=by rw[loopC_eq,h]; rfl
theorem loopC_fun (I:σ→Prop) (μ:σ→Nat) (g:σ→τ) (h:∀ x,I x→f x=some (.done (g x))∨∃ y,f x=some (.next y)∧I y∧μ y < μ x∧g y=g x) {x:σ} (hx:I x):loopC f x=some (g x):=by
  have key:∀ n x,I x→μ x≤n→loopC f x=some (g x):=by
    intro n
    induction n with
    | zero=>
      intro x hx hn
      rcases h x hx with h1 | ⟨y,_,_,h3,_⟩
      · exact loopC_done h1
      · omega
    | succ n ih=>
      intro x hx hn
      rcases h x hx with h1 | ⟨y,h1,h2,h3,h4⟩
      · exact loopC_done h1
      · rw[loopC_next h1,ih y h2 (by omega),h4]
  exact key _ x hx (Nat.le_refl _)
theorem loopC_inv (I:σ→Prop) (μ:σ→Nat) (P:τ→Prop) (h:∀ x,I x→(∃ t,f x=some (.done t)∧P t)∨∃ y,f x=some (.next y)∧I y∧μ y < μ x) {x:σ} (hx:I x):∃ t,loopC f x=some t∧P t:=by
  have key:∀ n x,I x→μ x≤n→∃ t,loopC f x=some t∧P t:=by
    intro n
    induction n with
    | zero=>
      intro x hx hn
      rcases h x hx with ⟨t,h1,h2⟩ | ⟨y,_,_,h3⟩
      · exact⟨t,loopC_done h1,h2⟩
      · omega
    | succ n ih=>
      intro x hx hn
      rcases h x hx with ⟨t,h1,h2⟩ | ⟨y,h1,h2,h3⟩
      · exact⟨t,loopC_done h1,h2⟩
      · rw[loopC_next h1]
        exact ih y h2 (by omega)
  exact key _ x hx (Nat.le_refl _)
end
theorem w64_id {x:Int} (h1 : -9223372036854775808≤x) (h2:x≤9223372036854775807):w64 x=x:=i64_id h1 h2
theorem idx_nat {s:Str} {i:Nat} (h:i < s.length):idx s (i:Int)=some (s[i].toNat:Int):=by
  unfold idx
  rw[if_pos (by omega),Int.toNat_natCast,List.getElem?_eq_getElem h]
  rfl
theorem ixl_nat {α:Type} {l:List α} {i:Nat} (h:i < l.length):ixl l (i:Int)=some l[i]:=by
  unfold ixl
  rw[if_pos (by omega),Int.toNat_natCast,List.getElem?_eq_getElem h]
theorem subl_nat {α:Type} {l:List α} {i j:Nat} (h1:i≤j) (h2:j≤l.length):subl l (i:Int) (j:Int)=some ((l.drop i).take (j - i)):=by
  unfold subl
  rw[if_pos ⟨by omega,by omega,by omega⟩]
  rfl
theorem subl_drop {α:Type} {l:List α} {i:Nat} (h:i≤l.length):subl l (i:Int) (l.length:Int)=some (l.drop i):=by
  rw[subl_nat h (Nat.le_refl _),List.take_of_length_le (by simp)]
theorem subl_take {α:Type} {l:List α} {j:Nat} (h:j≤l.length):subl l 0 (j:Int)=some (l.take j):=by
  have:=subl_nat (l:=l) (i:=0) (j:=j) (Nat.zero_le _) h
  simpa using this
theorem u8c_beq (a c:UInt8):((a.toNat:Int) == (c.toNat:Int))=(a == c):=u8_beq
theorem cat_ok {a b:Str} (h:a.length + b.length≤9223372036854775807):cat a b=some (a ++ b):=by
  unfold cat; rw[if_pos h]
theorem tob_ok {s:Str} (h:s.length≤9223372036854775807):tob s=some (s.map fun c=>(c.toNat:Int)):=by
  unfold tob; rw[if_pos h]
theorem app_ok {α:Type} {b:Nat} {l m:List α} (h1:(l.length + m.length) * b≤140737488355328) (h2:l.length + m.length≤9223372036854775807):app b l m=some (l ++ m):=by
  unfold app; rw[if_pos ⟨h1,h2⟩]
def runE (p:UInt8→Bool) (s:Str) (i:Nat):Nat:=i + ((s.drop i).takeWhile p).length
theorem runE_le {p:UInt8→Bool} {s:Str} {i:Nat} (h:i≤s.length):runE p s i≤s.length:=by
  unfold runE
  have:=(List.takeWhile_prefix p (l:=s.drop i)).length_le
  simp only[List.length_drop] at this
  omega
theorem runE_ge (p:UInt8→Bool) (s:Str) (i:Nat):i≤runE p s i:=by unfold runE; omega
theorem runE_end (p:UInt8→Bool) (s:Str):runE p s s.length=s.length:=by simp[runE]
theorem runE_yes {p:UInt8→Bool} {s:Str} {i:Nat} (h:i < s.length) (hp:p s[i]=true):runE p s i=runE p s (i + 1):=by
  unfold runE
  rw[List.drop_eq_getElem_cons h,List.takeWhile_cons_of_pos hp,List.length_cons]
  omega
theorem runE_no {p:UInt8→Bool} {s:Str} {i:Nat} (h:i < s.length) (hp:p s[i]=false):runE p s i=i:=by
  unfold runE
  rw[List.drop_eq_getElem_cons h,List.takeWhile_cons_of_neg (by simp[hp])]
  simp
theorem scan_loop {f:Int→Option (Step Int Int)} {p:UInt8→Bool} {s:Str} (hend:f (s.length:Int)=some (.done (s.length:Int))) (hstep:∀ (i:Nat) (h:i < s.length),f (i:Int)=if p s[i]=true then some (.next ((i + 1:Nat):Int)) else some (.done (i:Int))) {i:Nat} (hi:i≤s.length) :
    loopC f (i:Int)=some (runE p s i:Int):=by
  have:=loopC_fun (f:=f) (fun x=>∃ i:Nat,x=i∧i≤s.length) (fun x=>s.length - x.toNat) (fun x=>(runE p s x.toNat:Int)) (fun x hx=>by
    obtain⟨i,rfl,hi⟩:=hx
    simp only[Int.toNat_natCast]
    rcases Nat.lt_or_ge i s.length with h | h
    · cases hp:p s[i] with
      | true=>
        right
        refine⟨((i + 1:Nat):Int),by rw[hstep i h,if_pos hp],⟨i + 1,rfl,h⟩,by rw[Int.toNat_natCast]; omega,?_⟩
        rw[Int.toNat_natCast,runE_yes h hp]
      | false=>left; rw[hstep i h,hp,runE_no h hp]; rfl
    · have:i=s.length:=by omega
      subst this
      left
      rw[hend,runE_end]) (x:=(i:Int)) ⟨i,rfl,hi⟩
  simpa using this
end Go.Vm
/- Plain laws of chapter 1: digits. -/
namespace Go.Vm
open Go
def nought (c:UInt8):Bool:=c == 48
def trimM (s:Str):Str:=if s.dropWhile nought=[] then [48] else s.dropWhile nought
theorem trimLeftByte_eq (s:Str) (hs:s.length≤4611686018427387904):strings_trimLeftByte s 48=some (s.dropWhile nought):=by
  unfold strings_trimLeftByte
  rw[loopC_fun (fun x=>x.length≤4611686018427387904) (fun x=>x.length) (fun x=>x.dropWhile nought) (fun x hx=>?_) hs]
  · rfl
  · cases x with
    | nil=>left; simp[strings_trimLeftByte_l1]
    | cons c x=>
      have h0:idx (c :: x) 0=some (c.toNat:Int):=idx_nat (s:=c :: x) (i:=0) (by simp)
      have h1:subl (c :: x) 1 ((c :: x).length:Int)=some x:=by
        have:=subl_drop (l:=c :: x) (i:=1) (by simp)
        simpa using this
      have h2:((c.toNat:Int) == 48)=nought c:=u8c_beq c 48
      cases hc:nought c with
      | true=>
        right
        refine⟨x,?_,by simp only[List.length_cons] at hx; omega,by simp,by rw[List.dropWhile_cons_of_pos hc]⟩
        unfold strings_trimLeftByte_l1
        rw[h0,h1]
        simp only[List.length_cons,Option.bind_some,h2,hc]
        rw[if_pos (by simp; try omega)]
        rfl
      | false=>
        left
        unfold strings_trimLeftByte_l1
        rw[h0]
        simp only[List.length_cons,Option.bind_some,h2,hc,List.dropWhile_cons]
        rw[if_pos (by simp; try omega)]
        rfl
theorem scan_Trim_eq (s:Str) (hs:s.length≤4611686018427387904):scan_Trim s=some (trimM s):=by
  unfold scan_Trim strings_TrimLeft_s05d1
  have h1:(if ((s == []) && true)=true then some s else Option.bind (strings_trimLeftByte s 48) (fun x1=>some x1))=some (s.dropWhile nought):=by
    cases s with
    | nil=>simp
    | cons c s=>
      rw[if_neg (by simp),trimLeftByte_eq _ hs]
      rfl
  rw[h1]
  simp only[Option.bind_some,trimM,beq_iff_eq]
  split <;> rfl
theorem drop_runE (p:UInt8→Bool) (s:Str):s.drop (runE p s 0)=s.dropWhile p:=by
  unfold runE
  simp only[List.drop_zero,Nat.zero_add]
  induction s with
  | nil=>rfl
  | cons c s ih=>
    cases hc:p c with
    | true=>rw[List.takeWhile_cons_of_pos hc,List.dropWhile_cons_of_pos hc,List.length_cons,List.drop_succ_cons,ih]
    | false=>rw[List.takeWhile_cons_of_neg (by simp[hc]),List.dropWhile_cons_of_neg (by simp[hc])]; rfl
theorem ref01_Trim_eq (s:Str) (hs:s.length≤4611686018427387904):ref01_Trim s=some (trimM s):=by
  unfold ref01_Trim
  have hl:loopC (ref01_Trim_l1 s) 0=some (runE nought s 0:Int):=by
    refine scan_loop (p:=nought) (s:=s) (i:=0) ?_ ?_ (Nat.zero_le _)
    · unfold ref01_Trim_l1
      rw[if_neg (by simp)]
      rfl
    · intro i h
      unfold ref01_Trim_l1
      rw[if_pos (by simp; omega),idx_nat h]
      simp only[Option.bind_some]
      rw[show ((s[i].toNat:Int) == 48)=nought s[i] from u8c_beq _ 48,w64_id (by omega) (by omega)]
      cases nought s[i] <;> rfl
  rw[hl]
  simp only[Option.bind_some]
  have hle:runE nought s 0≤s.length:=runE_le (Nat.zero_le _)
  rw[subl_drop hle]
  simp only[Option.bind_some,drop_runE,trimM]
  by_cases h:s.dropWhile nought=[]
  · have:runE nought s 0=s.length:=by
      have:=congrArg List.length (drop_runE nought s)
      rw[h] at this
      simp only[List.length_drop,List.length_nil] at this
      omega
    rw[if_pos h,if_pos (by rw[this]; simp)]
  · have:runE nought s 0≠s.length:=by
      intro e
      have:=congrArg List.length (drop_runE nought s)
      rw[e] at this
      simp only[List.length_drop,Nat.sub_self] at this
      exact h (List.length_eq_zero_iff.1 this.symm)
    rw[if_neg h,if_neg (by simp; omega)]
theorem trimM_len (s:Str):(trimM s).length≤s.length + 1:=by
  unfold trimM
  split
  · simp
  · exact Nat.le_succ_of_le (List.dropWhile_suffix _).length_le
def cmpI (a b:Int):Int:=if a < b then -1 else if b < a then 1 else 0
theorem cmp_Compare_int_eq (a b:Int):cmp_Compare_int a b=some (cmpI a b):=by
  have h:∀ x:Int,cmp_isNaN_int x=some false:=fun x=>by simp[cmp_isNaN_int]
  unfold cmp_Compare_int cmpI
  rw[h,h]
  simp only[Option.bind_some,Bool.false_eq_true,if_false,decide_eq_true_eq,gt_iff_lt]
  split
  · rfl
  · split <;> rfl
theorem cmp_Or_int_eq (l:List Int) (hl:l.length≤4611686018427387904):cmp_Or_int l=some ((l.find? (· != 0)).getD 0):=by
  unfold cmp_Or_int
  have:=loopC_fun (f:=cmp_Or_int_l1 l) (fun x=>∃ i:Nat,x=i∧i≤l.length) (fun x=>l.length - x.toNat) (fun x=>match (l.drop x.toNat).find? (· != 0) with | some y=>Sum.inl y | none=>Sum.inr ()) (fun x hx=>by
    obtain⟨i,rfl,hi⟩:=hx
    simp only[Int.toNat_natCast]
    rcases Nat.lt_or_ge i l.length with h | h
    · unfold cmp_Or_int_l1
      rw[if_pos (by simp; omega),ixl_nat h,List.drop_eq_getElem_cons h]
      simp only[Option.bind_some,List.find?_cons]
      cases hc:l[i] != 0 with
      | true=>left; rfl
      | false=>
        right
        refine⟨((i + 1:Nat):Int),by rw[if_neg (by simp),w64_id (by omega) (by omega)]; rfl,⟨i + 1,rfl,h⟩,by rw[Int.toNat_natCast]; omega,by rw[Int.toNat_natCast]⟩
    · have:i=l.length:=by omega
      subst this
      left
      unfold cmp_Or_int_l1
      rw[if_neg (by simp)]
      simp) (x:=0) ⟨0,rfl,Nat.zero_le _⟩
  rw[this]
  simp only[Option.bind_some,Int.toNat_zero,List.drop_zero]
  cases l.find? (· != 0) <;> rfl
theorem cmpB_eq:∀ (a b:List UInt8),Lib.compareBytes a b=if Op.bytesLess a b=true then -1 else if (a == b)=true then 0 else 1
  | [],[]=>by simp[Lib.compareBytes,Op.bytesLess]
  | [],_ :: _=>by simp[Lib.compareBytes,Op.bytesLess]
  | _ :: _,[]=>by simp[Lib.compareBytes,Op.bytesLess]
  | x :: a,y :: b=>by
    have ih:=cmpB_eq a b
    simp only[Lib.compareBytes,Op.bytesLess,List.cons_beq_cons,ih]
    by_cases h1:x < y
    · simp[h1]
    · by_cases h2:y < x
      · have hne:(x == y)=false:=by
          rw[beq_eq_false_iff_ne]; rintro rfl; exact h1 h2
        simp[h1,h2,hne]
      · have he:x=y:=by
          apply UInt8.toNat_inj.1
          rw[UInt8.lt_iff_toNat_lt] at h1 h2
          omega
        subst he
        simp
theorem ref01_Texts_eq (a b:Str):ref01_Texts a b=some (Lib.compareBytes a b):=by
  unfold ref01_Texts
  rw[cmpB_eq]
  cases Op.bytesLess a b with
  | true=>rfl
  | false=>
    simp only[Bool.false_eq_true,if_false,Bool.false_or]
    cases a == b <;> rfl
theorem strings_Compare_eq (a b:Str):strings_Compare a b=some (Lib.compareBytes a b):=rfl
def cmpM (a b:Str):Int:=if cmpI (trimM a).length (trimM b).length≠0 then cmpI (trimM a).length (trimM b).length else Lib.compareBytes (trimM a) (trimM b)
theorem find2 (x y:Int):(([x,y].find? (· != 0)).getD 0)=if x≠0 then x else y:=by
  by_cases h:x=0
  · subst h
    by_cases h2:y=0
    · subst h2; rfl
    · simp[h2]
  · simp[h]
theorem scan_Cmp_eq (a b:Str) (ha:a.length≤4611686018427387904) (hb:b.length≤4611686018427387904):scan_Cmp a b=some (cmpM a b):=by
  unfold scan_Cmp
  rw[scan_Trim_eq a ha,scan_Trim_eq b hb]
  simp only[Option.bind_some,cmp_Compare_int_eq,strings_Compare_eq]
  rw[cmp_Or_int_eq _ (by simp),find2]
  rfl
theorem ref01_Cmp_eq (a b:Str) (ha:a.length≤4611686018427387904) (hb:b.length≤4611686018427387904):ref01_Cmp a b=some (cmpM a b):=by
  unfold ref01_Cmp cmpM cmpI
  rw[ref01_Trim_eq a ha,ref01_Trim_eq b hb]
  simp only[Option.bind_some,ref01_Texts_eq,decide_eq_true_eq,gt_iff_lt]
  split
  · rfl
  · split
    · rfl
    · rfl
def isB (c k:Int):Bool:=
  if k=1 then decide (48≤c) && decide (c≤57)
  else if k=2 then decide (97≤c) && decide (c≤122)
  else if k=3 then decide (65≤c) && decide (c≤90)
  else if k=4 then decide (97≤c) && decide (c≤122) || decide (65≤c) && decide (c≤90)
  else if k=5 then decide (48≤c) && decide (c≤57) || decide (97≤c) && decide (c≤122) || decide (65≤c) && decide (c≤90)
  else if k=6 then c == 32 || c == 9
  else if k=7 then c == 32 || c == 9 || c == 10 || c == 13
  else false
theorem scan_Is_eq (c k:Int):scan_Is c k=some (isB c k):=by
  unfold scan_Is isB
  simp only[beq_iff_eq,ge_iff_le]
  repeat (split; first | rfl | skip)
  rfl
theorem ref01_Is_eq (c k:Int):ref01_Is c k=some (isB c k):=by
  unfold ref01_Is isB
  simp only[beq_iff_eq,ge_iff_le]
  repeat (split; first | rfl | (simp only[Option.some.injEq]; rw[Bool.eq_iff_iff]; simp only[Bool.or_eq_true,Bool.and_eq_true,decide_eq_true_eq,beq_iff_eq]; omega) | skip)
  rfl
def isP (k:Int) (c:UInt8):Bool:=isB c.toNat k
def runM (s:Str) (at' k:Int):Int:=if at' < 0∨s.length < at' then at' else (runE (isP k) s at'.toNat:Int)
theorem ref01_Run_eq (s:Str) (at' k:Int) (hs:s.length≤4611686018427387904):ref01_Run s at' k=some (runM s at' k):=by
  unfold ref01_Run runM
  simp only[Bool.or_eq_true,decide_eq_true_eq,gt_iff_lt]
  split
  · rfl
  · rename_i h
    obtain⟨i,rfl⟩:∃ i:Nat,at' = i:=⟨at'.toNat,by omega⟩
    rw[scan_loop (p:=isP k) (s:=s) (i:=i) ?_ ?_ (by omega)]
    · simp
    · unfold ref01_Run_l1
      rw[if_neg (by simp)]
      rfl
    · intro j hj
      unfold ref01_Run_l1
      rw[if_pos (by simp; omega),idx_nat hj]
      simp only[Option.bind_some,ref01_Is_eq]
      rw[w64_id (by omega) (by omega)]
      show _=if isB _ k=true then _ else _
      cases isB s[j].toNat k <;> rfl
theorem scan_Run_eq (s:Str) (at' k:Int) (hs:s.length≤4611686018427387904):scan_Run s at' k=some (runM s at' k):=by
  unfold scan_Run runM
  simp only[Bool.or_eq_true,decide_eq_true_eq,gt_iff_lt]
  split
  · rfl
  · rename_i h
    obtain⟨i,rfl⟩:∃ i:Nat,at' = i:=⟨at'.toNat,by omega⟩
    have:=loopC_fun (f:=scan_Run_l1 s i k) (fun x=>∃ j:Nat,x=j∧i + j≤s.length) (fun x=>s.length - x.toNat) (fun x=>if runE (isP k) s (i + x.toNat)=s.length then Sum.inr () else Sum.inl (runE (isP k) s (i + x.toNat):Int)) (fun x hx=>by
      obtain⟨j,rfl,hj⟩:=hx
      simp only[Int.toNat_natCast]
      rcases Nat.lt_or_ge (i + j) s.length with h | h
      · have hi:=idx_nat h
        have e:w64 ((i:Int) + (j:Int))=((i + j:Nat):Int):=by rw[w64_id (by omega) (by omega)]; omega
        unfold scan_Run_l1
        rw[if_pos (by rw[w64_id (by omega) (by omega)]; simp; omega),e,hi]
        simp only[Option.bind_some,scan_Is_eq]
        cases hc:isB s[i + j].toNat k with
        | true=>
          right
          have e2:w64 ((j:Int) + 1)=((j + 1:Nat):Int):=by rw[w64_id (by omega) (by omega)]; omega
          refine⟨((j + 1:Nat):Int),by rw[e2]; rfl,⟨j + 1,rfl,by omega⟩,by rw[Int.toNat_natCast]; omega,?_⟩
          rw[Int.toNat_natCast,← Nat.add_assoc,← runE_yes h hc]
        | false=>
          left
          rw[runE_no h hc,if_neg (show ¬ (i + j=s.length) by omega)]
          rfl
      · have:i + j=s.length:=by omega
        left
        unfold scan_Run_l1
        rw[if_neg (by rw[w64_id (by omega) (by omega)]; simp; omega),this,runE_end]
        simp) (x:=0) ⟨0,rfl,by omega⟩
    rw[this]
    simp only[Option.bind_some,Int.toNat_zero,Nat.add_zero,Int.toNat_natCast]
    by_cases he:runE (isP k) s i=s.length
    · rw[if_pos he,he]
    · rw[if_neg he]
end Go.Vm
/- Plain laws of chapter 1: the order of digits. -/
namespace Go.Vm
open Go
def isDig (s:Str):Prop:=∀ c∈s,48≤c.toNat∧c.toNat≤57
def val:Str→Nat
  | []=>0
  | c :: s=>(c.toNat - 48) * 10 ^ s.length + val s
theorem dig_trim {s:Str} (h:isDig s):isDig (trimM s):=by
  unfold trimM
  split
  · intro c hc
    simp only[List.mem_singleton] at hc
    subst hc
    decide
  · intro c hc
    exact h c ((List.dropWhile_suffix _).subset hc)
theorem trim_canon (s:Str):trimM s=[48]∨∃ c t,trimM s=c :: t∧c≠48:=by
  unfold trimM
  split
  · left; rfl
  · rename_i h
    right
    obtain⟨c,t,e⟩:=List.exists_cons_of_ne_nil h
    refine⟨c,t,e,fun hc=>?_⟩
    have:nought c=false:=by
      have:=List.head_dropWhile_not nought h
      simpa[e] using this
    subst hc
    exact absurd this (by decide)
theorem wrap_u8 {x:Int} (h1:0≤x) (h2:x≤255):IntKind.wrap .u8 x=x:=by
  unfold IntKind.wrap
  simp[IntKind.bits,IntKind.signed]
  omega
end Go.Vm
/- Plain laws of chapter 5: versions are read. -/
namespace Go.Vm
open Go
def partI (c:Int):Bool:=((((isB c 5 || (c == 46)) || (c == 95)) || (c == 43)) || (c == 126)) || (c == 94)
def partP (c:UInt8):Bool:=partI c.toNat
end Go.Vm
/- Plain laws of chapter 5: segments of versions. -/
namespace Go.Vm
open Go
theorem dropWhile_len {p:UInt8→Bool} (l:Str):(l.dropWhile p).length≤l.length:=(List.dropWhile_suffix p).length_le
theorem drop_tw {p:UInt8→Bool}:∀ l:Str,l.drop (l.takeWhile p).length=l.dropWhile p
  | []=>rfl
  | c :: l=>by
    cases h:p c with
    | true=>rw[List.takeWhile_cons_of_pos h,List.dropWhile_cons_of_pos h,List.length_cons,List.drop_succ_cons,drop_tw l]
    | false=>rw[List.takeWhile_cons_of_neg (by simp[h]),List.dropWhile_cons_of_neg (by simp[h])]; rfl
theorem take_tw {p:UInt8→Bool}:∀ l:Str,l.take (l.takeWhile p).length=l.takeWhile p
  | []=>rfl
  | c :: l=>by
    cases h:p c with
    | true=>rw[List.takeWhile_cons_of_pos h,List.length_cons,List.take_succ_cons,take_tw l]
    | false=>rw[List.takeWhile_cons_of_neg (by simp[h])]; rfl
theorem bind_assoc' {α β γ:Type} (a:Option α) (f:α→Option β) (g:β→Option γ):Option.bind (Option.bind a f) g=Option.bind a fun x=>Option.bind (f x) g:=by cases a <;> rfl
end Go.Vm
/- Plain laws: orders. -/
namespace Go.Vm
open Go
structure Ord3 {α:Type} (c:α→α→Int):Prop where
  lo:∀ x y, -1≤c x y
  hi:∀ x y,c x y≤1
  refl:∀ x,c x x=0
  anti:∀ x y,c y x = -c x y
  trans:∀ x y z,c x y≤0→c y z≤0→c x z≤0
theorem Ord3.eq_left {α:Type} {c:α→α→Int} (h:Ord3 c) {x y:α} (e:c x y=0) (z:α):c x z=c y z:=by
  have e':c y x=0:=by rw[h.anti,e]; rfl
  have h1:=h.lo x z
  have h2:=h.hi x z
  have h3:=h.lo y z
  have h4:=h.hi y z
  have a1:=h.trans x y z (by omega)
  have a2:=h.trans y x z (by omega)
  have b1:=h.trans z x y
  have b2:=h.trans z y x
  rw[h.anti x z,h.anti y z] at b1 b2
  have b1':=b1
  omega
theorem Ord3.map {α β:Type} {c:β→β→Int} (h:Ord3 c) (f:α→β):Ord3 (fun x y=>c (f x) (f y)):=
  ⟨fun _ _=>h.lo _ _,fun _ _=>h.hi _ _,fun _=>h.refl _,fun _ _=>h.anti _ _,fun _ _ _=>h.trans _ _ _⟩
def lex2 {α:Type} (c d:α→α→Int) (x y:α):Int:=if c x y≠0 then c x y else d x y
theorem Ord3.lex2 {α:Type} {c d:α→α→Int} (h:Ord3 c) (k:Ord3 d):Ord3 (lex2 c d) where
  lo x y:=by unfold Vm.lex2; split; exact h.lo _ _; exact k.lo _ _
  hi x y:=by unfold Vm.lex2; split; exact h.hi _ _; exact k.hi _ _
  refl x:=by unfold Vm.lex2; rw[if_neg (by simp[h.refl])]; exact k.refl _
  anti x y:=by
    unfold Vm.lex2
    rw[h.anti x y,k.anti x y]
    by_cases e:c x y=0
    · rw[if_neg (by omega),if_neg (by omega)]
    · rw[if_pos (by omega),if_pos e]
  trans x y z:=by
    unfold Vm.lex2
    intro h1 h2
    by_cases e1:c x y=0
    · rw[if_neg (by omega)] at h1
      have:=h.eq_left e1 z
      rw[this]
      by_cases e2:c y z=0
      · rw[if_neg (by omega)] at h2 ⊢
        exact k.trans _ _ _ h1 h2
      · rw[if_pos e2] at h2 ⊢
        exact h2
    · rw[if_pos e1] at h1
      have e1':=h.lo x y
      by_cases e2:c y z=0
      · have h3:=h.anti y z
        have:=h.eq_left (x:=z) (y:=y) (by omega) x
        have a1:=h.anti x z
        have a2:=h.anti x y
        rw[if_pos (by omega)]
        omega
      · rw[if_pos e2] at h2
        have h3:=h.trans x y z h1 h2
        by_cases e3:c x z=0
        · exfalso
          have:=h.eq_left e3 y
          have a1:=h.anti y z
          omega
        · rw[if_pos e3]; exact h3
def lexL {α:Type} (c:α→α→Int):List α→List α→Int
  | [],[]=>0
  | [],_ :: _=> -1
  | _ :: _,[]=>1
  | x :: xs,y :: ys=>if c x y≠0 then c x y else lexL c xs ys
theorem cmpI_zero {a b:Int} (h:cmpI a b=0):a=b:=by
  unfold cmpI at h
  split at h
  · omega
  · split at h <;> omega
end Go.Vm
/- Plain laws of chapter 5: what is read, written and fits. -/
namespace Go.Vm
open Go
def segsP (s:Str):Prop:=s≠[]∧∀ c∈s,partP c=true
instance (s:Str):Decidable (segsP s):=inferInstanceAs (Decidable (_∧_))
theorem mem_tw {p:UInt8→Bool} {c:UInt8}:∀ {l:Str},c∈l.takeWhile p→p c=true
  | [],h=>by cases h
  | x :: l,h=>by
    cases hx:p x with
    | true=>
      rw[List.takeWhile_cons_of_pos hx] at h
      rcases List.mem_cons.1 h with rfl | h
      · exact hx
      · exact mem_tw h
    | false=>rw[List.takeWhile_cons_of_neg (by simp[hx])] at h; cases h
theorem trim_trim (s:Str):trimM (trimM s)=trimM s:=by
  rcases trim_canon s with h | ⟨c,t,h,hc⟩
  · rw[h]; rfl
  · rw[h]
    have:nought c=false:=by simpa[nought] using hc
    unfold trimM
    rw[List.dropWhile_cons_of_neg (by simp[this])]
    simp
theorem trim_ne (s:Str):trimM s≠[]:=by
  rcases trim_canon s with h | ⟨c,t,h,hc⟩ <;> rw[h] <;> simp
theorem isDig_isP {s:Str}:isDig s↔∀ c∈s,isP 1 c=true:=by
  unfold isDig
  refine⟨fun h c hc=>?_,fun h c hc=>?_⟩
  · have:=h c hc; simp[isP,isB]; omega
  · have:=h c hc; simp[isP,isB] at this; omega
end Go.Vm
/- Plain laws of chapter 5: the document's segments. -/
namespace Go.Vm
open Go
theorem drop_runE' (p:UInt8→Bool) (s:Str) (i:Nat):s.drop (runE p s i)=(s.drop i).dropWhile p:=by
  unfold runE
  rw[← List.drop_drop,drop_tw]
end Go.Vm
/- Plain laws of chapter 3: what a reader does. -/
set_option linter.unusedSectionVars false
namespace Go.Vm
open Go
def Suf (a:Str) (i:Nat) (r:Str):Prop:=i≤a.length∧a.drop i=r
theorem Suf.pos {a:Str} {i:Nat} {r:Str} (h:Suf a i r):i=a.length - r.length∧r.length≤a.length:=by
  have:=congrArg List.length h.2
  simp only[List.length_drop] at this
  have:=h.1
  omega
theorem Suf.cons {a:Str} {i:Nat} {c:UInt8} {q:Str} (h:Suf a i (c :: q)):i < a.length∧idx a i=some (c.toNat:Int)∧Suf a (i + 1) q:=by
  have hl:i < a.length:=by
    rcases Nat.lt_or_ge i a.length with h' | h'
    · exact h'
    · have:=h.2; rw[List.drop_eq_nil_of_le h'] at this; cases this
  have:=h.2
  rw[List.drop_eq_getElem_cons hl] at this
  have h2:=List.cons.inj this
  refine⟨hl,?_,hl,h2.2⟩
  rw[idx_nat hl,h2.1]
theorem Suf.nil {a:Str} {i:Nat} (h:Suf a i []):i=a.length:=by
  have:=h.pos
  simp only[List.length_nil] at this
  omega
theorem Suf.run {a:Str} {i:Nat} {r:Str} (h:Suf a i r) (p:UInt8→Bool):Suf a (runE p a i) (r.dropWhile p)∧subl a i (runE p a i:Int)=some (r.takeWhile p)∧i≤runE p a i:=by
  have hle:runE p a i≤a.length:=runE_le h.1
  have hge:=runE_ge p a i
  refine⟨⟨hle,by rw[drop_runE',h.2]⟩,?_,hge⟩
  rw[subl_nat hge hle]
  unfold runE
  rw[Nat.add_sub_cancel_left,h.2,take_tw]
theorem Suf.drop {a:Str} {i k:Nat} {r:Str} (h:Suf a i r) (hk:k≤r.length):Suf a (i + k) (r.drop k):=by
  have:=h.pos
  refine⟨?_,by rw[← List.drop_drop,h.2]⟩
  have:=h.1
  omega
theorem Suf.eq {a:Str} {i j:Nat} {r:Str} (h:Suf a i r) (k:Suf a j r):i=j:=by
  have:=h.pos
  have:=k.pos
  omega
theorem Suf.start (a:Str):Suf a 0 a:=⟨Nat.zero_le _,rfl⟩
def posR (n:Nat) (r:Str):Int:=((n - r.length:Nat):Int)
theorem Suf.posR {a:Str} {i:Nat} {r:Str} (h:Suf a i r):posR a.length r=(i:Int):=by
  have:=h.pos
  unfold Vm.posR
  omega
def hdP (p:UInt8→Bool):Str→Bool
  | []=>false
  | c :: _=>p c
def digA (r:Str):Str:=trimM (r.takeWhile (isP 1))
def digB (r:Str):Str:=r.dropWhile (isP 1)
theorem tw_nil {p:UInt8→Bool} {r:Str}:r.takeWhile p=[]↔hdP p r=false:=by
  cases r with
  | nil=>simp[hdP]
  | cons c q=>cases h:p c <;> simp[hdP,h]
section
variable {a:Str} (ha:a.length≤64)
include ha
theorem run_suf {i:Nat} {r:Str} (h:Suf a i r) (k:Int):scan_Run a i k=some (runE (isP k) a i:Int):=by
  rw[scan_Run_eq _ _ _ (by omega)]
  unfold runM
  have:=h.1
  rw[if_neg (by omega),Int.toNat_natCast]
theorem pep_run {i:Nat} {r:Str} (h:Suf a i r) (e f k:Int):∃ j:Nat,pep_reader_run a i e f k=some (r.takeWhile (isP k),(j:Int))∧Suf a j (r.dropWhile (isP k)):=by
  obtain⟨h1,h2,_⟩:=h.run (isP k)
  refine⟨runE (isP k) a i,?_,h1⟩
  unfold pep_reader_run
  rw[run_suf ha h]
  simp only[Option.bind_some,h2]
theorem pep_digits {i:Nat} {r:Str} (h:Suf a i r) (e f:Int):∃ j:Nat,pep_reader_digits a i e f=some (digA r,(j:Int))∧Suf a j (digB r):=by
  obtain⟨j,h1,h2⟩:=pep_run ha h e f 1
  refine⟨j,?_,h2⟩
  unfold pep_reader_digits
  rw[h1]
  simp only[Option.bind_some]
  rw[scan_Trim_eq]
  · rfl
  · have:=(List.takeWhile_prefix (isP 1) (l:=r)).length_le
    have:=h.pos
    omega
theorem pep_is {i:Nat} {r:Str} (h:Suf a i r) (e f k:Int):pep_reader_is_sb17f a i e f k=some (hdP (isP k) r):=by
  unfold pep_reader_is_sb17f
  cases r with
  | nil=>rw[h.nil]; simp[hdP]
  | cons c q=>
    obtain⟨h1,h2,_⟩:=h.cons
    rw[if_pos (by simp; omega),h2]
    simp only[Option.bind_some,scan_Is_eq]
    rfl
def mustE (n:Nat) (k:Int) (r:Str):Int × Int:=if hdP (isP k) r=true then (0,0) else if r=[] then (11,posR n r) else (10,posR n r)
theorem pep_must {i:Nat} {r:Str} (h:Suf a i r) (k:Int):pep_reader_must a i 0 0 k=some (hdP (isP k) r,mustE a.length k r):=by
  unfold pep_reader_must mustE
  rw[pep_is ha h,h.posR]
  cases hp:hdP (isP k) r with
  | true=>simp
  | false=>
    by_cases hr:r=[]
    · subst hr
      have:=h.nil
      simp[this]
    · have:(i:Int)≠(a.length:Int):=by
        obtain⟨c,q,rfl⟩:=List.exists_cons_of_ne_nil hr
        have:=h.cons.1
        omega
      simp[hr,this]
def epochM (r:Str):Str × Str:=match digB r with
  | []=>([48],r)
  | c :: q=>if hdP (isP 1) r=true∧c=33 then (digA r,q) else ([48],r)
theorem pep_epoch {i:Nat} {r:Str} (h:Suf a i r):∃ j:Nat,pep_reader_epoch a i 0 0=some ((epochM r).1,(j:Int))∧Suf a j (epochM r).2:=by
  obtain⟨h1,h2,h3⟩:=h.run (isP 1)
  unfold pep_reader_epoch
  rw[run_suf ha h]
  simp only[Option.bind_some]
  generalize runE (isP 1) a i=e at h1 h2 h3
  have hd:hdP (isP 1) r=false↔e=i:=by
    rw[← tw_nil]
    constructor
    · intro q
      have h4:r.dropWhile (isP 1)=r:=by
        have:=List.takeWhile_append_dropWhile (p:=isP 1) (l:=r)
        rw[q] at this
        exact this
      rw[h4] at h1
      exact (h1.eq h)
    · intro q
      subst q
      have h5:r.dropWhile (isP 1)=r:=h1.2.symm.trans h.2
      have:=List.takeWhile_append_dropWhile (p:=isP 1) (l:=r)
      rw[h5] at this
      have:=congrArg List.length this
      simp only[List.length_append] at this
      exact List.length_eq_zero_iff.1 (by omega)
  unfold epochM
  cases hb:digB r with
  | nil=>
    have hb':r.dropWhile (isP 1)=[]:=hb
    rw[hb'] at h1
    have:=h1.nil
    rw[if_pos (by simp[this])]
    exact⟨i,rfl,h⟩
  | cons c q=>
    have hb':r.dropWhile (isP 1)=c :: q:=hb
    rw[hb'] at h1
    obtain⟨h4,h5,h6⟩:=h1.cons
    by_cases hz:e=i
    · have:=hd.2 hz
      rw[if_pos (by simp[hz])]
      simp only[this]
      exact⟨i,rfl,h⟩
    · have hd':hdP (isP 1) r=true:=by
        cases hh:hdP (isP 1) r with
        | true=>rfl
        | false=>exact absurd (hd.1 hh) hz
      rw[if_neg (by simp; omega),h5]
      simp only[Option.bind_some,hd',true_and]
      by_cases hc:c=33
      · subst hc
        obtain⟨j,g1,g2⟩:=pep_digits ha h 0 0
        have:j=e:=by
          have g3:Suf a j (33 :: q):=by rw[← hb]; exact g2
          exact g3.eq h1
        subst this
        rw[g1]
        refine⟨j + 1,?_,h6⟩
        rw[if_neg (by decide)]
        simp only[Option.bind_some,if_true]
        rw[w64_id (by omega) (by omega)]
        rfl
      · have hne:((c.toNat:Int) != 33)=true:=by
          rw[bne,show ((c.toNat:Int) == 33)=(c == 33) from u8c_beq c 33]
          simp[hc]
        rw[if_pos hne,if_neg hc]
        exact⟨i,rfl,h⟩
def relF:Nat→Str→List Str × Str
  | 0,r=>([],r)
  | n + 1,r=>match digB r with
    | 46 :: q=>if hdP (isP 1) q=true then ((digA r) :: (relF n q).1,(relF n q).2) else ([digA r],46 :: q)
    | q=>([digA r],q)
def relM (n:Nat) (r:Str):List Str × Str × (Int × Int):=if hdP (isP 1) r=true then ((relF r.length r).1,(relF r.length r).2,(0,0)) else ([],r,mustE n 1 r)
omit ha in
theorem digB_lt {r:Str} (h:hdP (isP 1) r=true):(digB r).length < r.length:=by
  cases r with
  | nil=>cases h
  | cons c q=>
    have:digB (c :: q)=q.dropWhile (isP 1):=by
      unfold digB
      rw[List.dropWhile_cons_of_pos (show isP 1 c=true from h)]
    rw[this]
    have:=dropWhile_len (p:=isP 1) q
    simp only[List.length_cons]
    omega
theorem rel_loop:∀ (n:Nat) (i:Nat) (r:Str) (acc:List Str),r.length≤n→Suf a i r→hdP (isP 1) r=true→acc.length≤i→∃ j:Nat,loopC (pep_reader_release_l1 a) ((i:Int),0,0,acc)=some (Sum.inl (acc ++ (relF n r).1,(j:Int),0,0))∧Suf a j (relF n r).2
  | 0,i,r,acc,hn,h,hd,hacc=>by
    have:r=[]:=List.length_eq_zero_iff.1 (by omega)
    subst this
    cases hd
  | n + 1,i,r,acc,hn,h,hd,hacc=>by
    obtain⟨j,g1,g2⟩:=pep_digits ha h 0 0
    have hlt:=digB_lt hd
    have hij:i < j:=by have:=h.pos; have:=g2.pos; omega
    have hjl:j≤a.length:=g2.1
    have hm:mustE a.length 1 r=(0,0):=by unfold mustE; rw[if_pos hd]
    have hstep:pep_reader_release_l1 a ((i:Int),0,0,acc)=Option.bind (if (decide ((w64 ((j:Int) + 1))≥(List.length a:Int)))=true then some true else Option.bind (idx a j) (fun x89=>some (x89 != 46)):Option (Bool)) (fun x88=>Option.bind (if x88=true then some true else Option.bind (idx a (w64 ((j:Int) + 1))) (fun x93=>Option.bind (scan_Is x93 1) (fun x94=>some (!x94))):Option (Bool)) (fun x92=>(if x92=true then some (Step.done (Sum.inl (acc ++ [digA r],(j:Int),0,0))) else some (Step.next ((w64 ((j:Int) + 1)),0,0,acc ++ [digA r]))))):=by
      unfold pep_reader_release_l1
      simp only[]
      rw[pep_must ha h,hd,hm]
      simp only[Option.bind_some,if_true]
      rw[g1]
      simp only[Option.bind_some]
      rw[app_ok (by simp; omega) (by simp; omega)]
      rfl
    have hw:w64 ((j:Int) + 1)=((j + 1:Nat):Int):=by rw[w64_id (by omega) (by omega)]; rfl
    rw[hw] at hstep
    have hdone:∀ (q:Str),digB r=q→(match q with | 46 :: q2=>hdP (isP 1) q2=false | _=>True)→pep_reader_release_l1 a ((i:Int),0,0,acc)=some (.done (Sum.inl (acc ++ [digA r],(j:Int),0,0))):=by
      intro q hq hc
      rw[hstep]
      rw[hq] at g2
      cases q with
      | nil=>
        have:=g2.nil
        rw[if_pos (by simp; omega)]
        rfl
      | cons c q2=>
        obtain⟨e1,e2,e3⟩:=g2.cons
        cases q2 with
        | nil=>
          have:=e3.nil
          rw[if_pos (by simp; omega)]
          rfl
        | cons c2 q3=>
          obtain⟨e4,e5,e6⟩:=e3.cons
          rw[if_neg (by simp; omega),e2]
          simp only[Option.bind_some]
          have e7:((c.toNat:Int) != 46) = !(c == 46):=by rw[bne,show ((c.toNat:Int) == 46)=(c == 46) from u8c_beq c 46]
          rw[e7,e5]
          simp only[Option.bind_some,scan_Is_eq]
          by_cases h46:c=46
          · subst h46
            have hc':isB (c2.toNat:Int) 1=false:=hc
            rw[hc']
            rfl
          · simp[h46]
    cases hq:digB r with
    | nil=>
      refine⟨j,?_,?_⟩
      · rw[loopC_done (hdone _ hq trivial)]
        simp only[relF,hq]
      · simp only[relF,hq]
        rw[hq] at g2
        exact g2
    | cons c q=>
      by_cases hc:c=46∧hdP (isP 1) q=true
      · obtain⟨rfl,hq2⟩:=hc
        rw[hq] at g2 hlt
        obtain⟨e1,e2,e3⟩:=g2.cons
        simp only[List.length_cons] at hlt
        obtain⟨j2,k1,k2⟩:=rel_loop n (j + 1) q (acc ++ [digA r]) (by omega) e3 hq2 (by simp; omega)
        refine⟨j2,?_,?_⟩
        · rw[loopC_next (y:=(((j + 1:Nat):Int),0,0,acc ++ [digA r]))]
          · rw[k1]
            simp only[relF,hq,hq2,if_true,List.append_assoc,List.singleton_append]
          · rw[hstep]
            cases q with
            | nil=>cases hq2
            | cons c2 q3=>
              obtain⟨e4,e5,e6⟩:=e3.cons
              have hc':isB (c2.toNat:Int) 1=true:=hq2
              rw[if_neg (by simp; omega),e2]
              simp only[Option.bind_some]
              rw[if_neg (by decide),e5]
              simp only[Option.bind_some,scan_Is_eq,hc']
              rfl
        · simp only[relF,hq,hq2,if_true]
          exact k2
      · have hz:(relF (n + 1) r)=([digA r],c :: q):=by
          simp only[relF,hq]
          split
          · rename_i q2 e
            cases e
            rw[if_neg (fun z=>hc ⟨rfl,z⟩)]
          · rfl
        refine⟨j,?_,?_⟩
        · rw[loopC_done (hdone _ hq ?_),hz]
          split
          · rename_i q2 e
            cases e
            cases hh:hdP (isP 1) q with
            | true=>exact absurd ⟨rfl,hh⟩ hc
            | false=>rfl
          · trivial
        · rw[hz,← hq]
          exact g2
theorem pep_release {i:Nat} {r:Str} (h:Suf a i r):∃ j:Nat,pep_reader_release a i 0 0=some ((relM a.length r).1,(j:Int),(relM a.length r).2.2)∧Suf a j (relM a.length r).2.1:=by
  unfold pep_reader_release relM
  cases hd:hdP (isP 1) r with
  | true=>
    obtain⟨j,h1,h2⟩:=rel_loop ha r.length i r [] (Nat.le_refl _) h hd (Nat.zero_le _)
    refine⟨j,?_,h2⟩
    rw[h1]
    rfl
  | false=>
    refine⟨i,?_,h⟩
    have:pep_reader_release_l1 a ((i:Int),0,0,[])=some (.done (Sum.inr ([],(i:Int),mustE a.length 1 r))):=by
      unfold pep_reader_release_l1
      simp only[]
      rw[pep_must ha h,hd]
      rfl
    rw[loopC_done this]
    rfl
end
end Go.Vm
/- Plain laws of chapter 1: classes, runs, words, small letters. -/
namespace Go.Vm
open Go
theorem map_loop {F:List Int × Int→Option (Step (List Int × Int) (List Int))} {f:Int→Int} {N:Nat} (h1:∀ (l:List Int) (i:Nat) (h:i < l.length),l.length=N→F (l,(i:Int))=some (.next (l.set i (f l[i]),((i + 1:Nat):Int)))) (h2:∀ l:List Int,l.length=N→F (l,(N:Int))=some (.done l)) {l:List Int} (hl:l.length=N) :
    loopC F (l,0)=some (l.map f):=by
  have:=loopC_fun (f:=F) (fun x=>∃ i:Nat,x.2=i∧i≤N∧x.1.length=N) (fun x=>N - x.2.toNat) (fun x=>x.1.take x.2.toNat ++ (x.1.drop x.2.toNat).map f) (fun x hx=>by
    obtain⟨l,z⟩:=x
    obtain⟨i,e,hi,hl⟩:=hx
    simp only at e hl
    subst e
    simp only[Int.toNat_natCast]
    rcases Nat.lt_or_ge i N with h | h
    · right
      have hi:i < l.length:=by omega
      refine⟨_,h1 l i hi hl,⟨i + 1,rfl,h,by simp[hl]⟩,by simp only[Int.toNat_natCast]; omega,?_⟩
      simp only[Int.toNat_natCast]
      rw[List.drop_eq_getElem_cons hi,List.drop_set_of_lt (by omega),List.take_add_one,List.take_set_of_le (Nat.le_refl _)]
      simp only[List.getElem?_set_self hi,Option.toList_some,List.append_assoc,List.map_cons,List.singleton_append]
    · have:i=N:=by omega
      subst this
      left
      rw[h2 l hl]
      simp[← hl]) (x:=(l,0)) ⟨0,rfl,Nat.zero_le _,hl⟩
  simpa using this
def lowI (c:Int):Int:=if isB c 3=true then IntKind.wrap .u8 (c + 32) else c
theorem scan_Lower_eq (s:Str) (hs:s.length≤4611686018427387904):scan_Lower s=some (ofb ((s.map fun c:UInt8=>(c.toNat:Int)).map lowI)):=by
  unfold scan_Lower
  rw[tob_ok (by omega)]
  simp only[Option.bind_some]
  rw[map_loop (N:=s.length) (f:=lowI) ?_ ?_ (by simp)]
  · rfl
  · intro l i hi hl
    unfold scan_Lower_l1 lowI
    simp only[List.length_map]
    rw[if_pos (by simp; omega),ixl_nat hi,w64_id (by omega) (by omega),Int.toNat_natCast]
    simp only[Option.bind_some,scan_Is_eq]
    cases isB l[i] 3 with
    | true=>rfl
    | false=>simp
  · intro l hl
    unfold scan_Lower_l1
    simp only[List.length_map]
    rw[if_neg (by simp)]
theorem ref01_Lower_eq (s:Str) (hs:s.length≤4611686018427387904):ref01_Lower s=some (ofb ((s.map fun c:UInt8=>(c.toNat:Int)).map lowI)):=by
  unfold ref01_Lower
  rw[tob_ok (by omega)]
  simp only[Option.bind_some]
  rw[map_loop (N:=s.length) (f:=lowI) ?_ ?_ (by simp)]
  · rfl
  · intro l i hi hl
    unfold ref01_Lower_l1 lowI
    simp only[]
    rw[if_pos (by simp; omega),ixl_nat hi,w64_id (by omega) (by omega),Int.toNat_natCast]
    simp only[Option.bind_some,ref01_Is_eq]
    cases isB l[i] 3 with
    | true=>rfl
    | false=>simp
  · intro l hl
    unfold ref01_Lower_l1
    simp only[]
    rw[if_neg (by simp[hl])]
def stM (s:Str) (at':Int) (w:Str):Bool:=decide (0≤at'∧at'≤s.length) && ((s.drop at'.toNat).take w.length == w)
def wordS (s:Str) (at':Int) (b:Str × Bool) (w:Str):Str × Bool:=if (stM s at' w && (!b.2 || decide (b.1.length < w.length)))=true then (w,true) else b
theorem take_short {l w:Str} (h:(l.take w.length == w)=true):w.length≤l.length:=by
  have:=congrArg List.length (eq_of_beq h)
  simp only[List.length_take] at this
  omega
theorem hasPrefix_eq (s w:Str):strings_HasPrefix s w=some (s.take w.length == w):=by
  unfold strings_HasPrefix stringslite_HasPrefix
  by_cases h:w.length≤s.length
  · rw[if_pos (by simp; omega),subl_take h]
    rfl
  · rw[if_neg (by simp; omega)]
    have:(s.take w.length == w)=false:=by
      rw[Bool.eq_false_iff]
      intro q
      exact h (take_short q)
    rw[this]
    rfl
theorem starts_eq (s:Str) (at':Int) (w:Str) (hs:s.length≤4611686018427387904):ref01_Starts s at' w=some (stM s at' w):=by
  unfold ref01_Starts stM
  by_cases h:0≤at'∧at'≤s.length
  · obtain⟨n,rfl⟩:∃ n:Nat,at' = n:=⟨at'.toNat,by omega⟩
    rw[decide_eq_true h,w64_id (x:=(s.length:Int) - n) (by omega) (by omega)]
    simp only[Bool.true_and,Int.toNat_natCast]
    by_cases h2:w.length≤s.length - n
    · rw[if_pos (by simp; omega),w64_id (by omega) (by omega),show (n:Int) + (w.length:Int)=((n + w.length:Nat):Int) by omega,subl_nat (by omega) (by omega),Nat.add_sub_cancel_left]
      rfl
    · rw[if_neg (by simp; omega)]
      have:((s.drop n).take w.length == w)=false:=by
        rw[Bool.eq_false_iff]
        intro q
        have:=take_short q
        simp only[List.length_drop] at this
        omega
      rw[this]
      rfl
  · rw[decide_eq_false h,if_neg (by simp; omega)]
    rfl
theorem fold_loop {F:Str × Bool × Int→Option (Step (Str × Bool × Int) (Str × Bool))} {st:Str × Bool→Str→Str × Bool} {ws:List Str} (h1:∀ (b:Str) (o:Bool) (i:Nat) (h:i < ws.length),F (b,o,(i:Int))=some (.next ((st (b,o) ws[i]).1,(st (b,o) ws[i]).2,((i + 1:Nat):Int)))) (h2:∀ (b:Str) (o:Bool),F (b,o,(ws.length:Int))=some (.done (b,o))) (b:Str) (o:Bool) :
    loopC F (b,o,0)=some (ws.foldl st (b,o)):=by
  have:=loopC_fun (f:=F) (fun x=>∃ i:Nat,x.2.2=i∧i≤ws.length) (fun x=>ws.length - x.2.2.toNat) (fun x=>(ws.drop x.2.2.toNat).foldl st (x.1,x.2.1)) (fun x hx=>by
    obtain⟨b,o,z⟩:=x
    obtain⟨i,e,hi⟩:=hx
    simp only at e
    subst e
    simp only[Int.toNat_natCast]
    rcases Nat.lt_or_ge i ws.length with h | h
    · right
      refine⟨_,h1 b o i h,⟨i + 1,rfl,h⟩,by simp only[Int.toNat_natCast]; omega,?_⟩
      simp only[Int.toNat_natCast]
      rw[List.drop_eq_getElem_cons h,List.foldl_cons]
    · have:i=ws.length:=by omega
      subst this
      left
      rw[h2]
      simp) (x:=(b,o,0)) ⟨0,rfl,Nat.zero_le _⟩
  simpa using this
theorem word_out {s:Str} {at':Int} (h:¬(0≤at'∧at'≤s.length)):∀ ws:List Str,ws.foldl (wordS s at') ([],false)=([],false)
  | []=>rfl
  | w :: ws=>by
    rw[List.foldl_cons]
    have:wordS s at' ([],false) w=([],false):=by
      unfold wordS stM
      rw[decide_eq_false h]
      simp
    rw[this]
    exact word_out h ws
theorem scan_Word_eq (s:Str) (at':Int) (ws:List Str) (hs:s.length≤4611686018427387904) (hw:ws.length≤4611686018427387904):scan_Word s at' ws=some (ws.foldl (wordS s at') ([],false)):=by
  unfold scan_Word
  by_cases h:0≤at'∧at'≤s.length
  · rw[if_neg (by simp; omega),fold_loop (ws:=ws) (st:=wordS s at') ?_ ?_]
    · rfl
    · intro b o i hi
      unfold scan_Word_l1
      obtain⟨n,rfl⟩:∃ n:Nat,at' = n:=⟨at'.toNat,by omega⟩
      simp only[]
      rw[if_pos (by simp; omega),ixl_nat hi,w64_id (by omega) (by omega),subl_drop (by omega)]
      simp only[Option.bind_some,hasPrefix_eq]
      unfold wordS stM
      rw[decide_eq_true h]
      simp only[Bool.true_and,Int.toNat_natCast,gt_iff_lt,Int.ofNat_lt]
      split <;> rfl
    · intro b o
      unfold scan_Word_l1
      simp only[]
      rw[if_neg (by simp)]
  · rw[if_pos (by simp; omega),word_out h]
theorem ref01_Word_eq (s:Str) (at':Int) (ws:List Str) (hs:s.length≤4611686018427387904) (hw:ws.length≤4611686018427387904):ref01_Word s at' ws=some (ws.foldl (wordS s at') ([],false)):=by
  unfold ref01_Word
  rw[fold_loop (ws:=ws) (st:=wordS s at') ?_ ?_]
  · rfl
  · intro b o i hi
    unfold ref01_Word_l1
    simp only[]
    rw[if_pos (by simp; omega),ixl_nat hi,w64_id (by omega) (by omega)]
    simp only[Option.bind_some,starts_eq _ _ _ hs]
    unfold wordS
    simp only[gt_iff_lt,Int.ofNat_lt]
    cases stM s at' ws[i] with
    | false=>simp
    | true=>
      cases o with
      | false=>simp
      | true=>
        simp
        split <;> rfl
  · intro b o
    unfold ref01_Word_l1
    simp only[]
    rw[if_neg (by simp)]
end Go.Vm
/- Plain laws of chapter 3: words, numbers, what is read. -/
namespace Go.Vm
open Go
def markP (c:UInt8):Bool:=((c == 45) || (c == 95)) || (c == 46)
theorem pep_mark_eq (c:UInt8):pep_mark (c.toNat:Int)=some (markP c):=by
  unfold pep_mark markP
  rw[show ((c.toNat:Int) == 45)=(c == 45) from u8c_beq c 45,show ((c.toNat:Int) == 95)=(c == 95) from u8c_beq c 95,show ((c.toNat:Int) == 46)=(c == 46) from u8c_beq c 46]
def wordR (ws:List Str) (r:Str):Str × Bool:=ws.foldl (wordS r 0) ([],false)
theorem wordS_suf {a:Str} {i:Nat} {r:Str} (h:Suf a i r) (b:Str × Bool) (w:Str):wordS a i b w=wordS r 0 b w:=by
  have e:stM a i w=stM r 0 w:=by
    unfold stM
    have:=h.1
    rw[decide_eq_true (by omega),decide_eq_true (by omega),Int.toNat_natCast,h.2]
    rfl
  unfold wordS
  rw[e]
theorem foldl_suf {a:Str} {i:Nat} {r:Str} (h:Suf a i r):∀ (ws:List Str) (b:Str × Bool),ws.foldl (wordS a i) b=ws.foldl (wordS r 0) b
  | [],_=>rfl
  | w :: ws,b=>by
    simp only[List.foldl_cons]
    rw[wordS_suf h,foldl_suf h ws]
theorem word_in:∀ (ws:List Str) (r:Str) (b:Str × Bool),(b.2=true→b.1.length≤r.length)→(ws.foldl (wordS r 0) b).2=true→((ws.foldl (wordS r 0) b).1∈ws∨(ws.foldl (wordS r 0) b)=b)∧(ws.foldl (wordS r 0) b).1.length≤r.length
  | [],r,b,hb,h=>⟨.inr rfl,hb h⟩
  | w :: ws,r,b,hb,h=>by
    simp only[List.foldl_cons] at h ⊢
    have hw:(wordS r 0 b w).2=true→(wordS r 0 b w).1.length≤r.length:=by
      unfold wordS
      split
      · rename_i q
        intro _
        simp only[Bool.and_eq_true] at q
        have:=q.1
        unfold stM at this
        simp only[Bool.and_eq_true,beq_iff_eq] at this
        have:=congrArg List.length this.2
        simp at this
        show w.length≤r.length
        omega
      · exact hb
    obtain⟨h1,h2⟩:=word_in ws r _ hw h
    refine⟨?_,h2⟩
    rcases h1 with h1 | h1
    · exact .inl (List.mem_cons_of_mem _ h1)
    · rw[h1]
      unfold wordS
      split
      · exact .inl (by simp)
      · exact .inr rfl
theorem wordR_mem {ws:List Str} {r:Str} (h:(wordR ws r).2=true):(wordR ws r).1∈ws∧(wordR ws r).1.length≤r.length:=by
  obtain⟨h1,h2⟩:=word_in ws r ([],false) (fun q=>by cases q) h
  refine⟨?_,h2⟩
  rcases h1 with h1 | h1
  · exact h1
  · unfold wordR at h
    rw[h1] at h
    cases h
def mkd:Str→Bool
  | []=>false
  | c :: _=>markP c
def wordM (ws:List Str) (r:Str):Str × Bool × Str:=
  if (mkd r && (wordR ws r.tail).2)=true then ((wordR ws r.tail).1,true,r.tail.drop (wordR ws r.tail).1.length)
  else if (wordR ws r).2=true then ((wordR ws r).1,true,r.drop (wordR ws r).1.length) else ([],false,r)
def numberQ (r:Str):Str:=if (mkd r && hdP (isP 1) r.tail)=true then r.tail else r
def numberM (r:Str):Str × Str:=if hdP (isP 1) (numberQ r)=true then (digA (numberQ r),digB (numberQ r)) else ([48],numberQ r)
section
variable {a:Str} (ha:a.length≤64)
include ha
theorem pep_marked {i:Nat} {r:Str} (h:Suf a i r) (e f:Int):pep_reader_marked_s6db9 a i e f=some (mkd r):=by
  unfold pep_reader_marked_s6db9
  cases r with
  | nil=>rw[h.nil]; simp[mkd]
  | cons c q=>
    obtain⟨h1,h2,_⟩:=h.cons
    rw[if_pos (by simp; omega),h2]
    simp only[Option.bind_some,pep_mark_eq]
    rfl
theorem word_suf {i:Nat} {r:Str} (h:Suf a i r) {ws:List Str} (hw:ws.length≤100):scan_Word a i ws=some (wordR ws r):=by
  rw[scan_Word_eq _ _ _ (by omega) (by omega),foldl_suf h]
  rfl
theorem pep_word {i:Nat} {r:Str} (h:Suf a i r) {ws:List Str} (hw:ws.length≤100):∃ j:Nat,pep_reader_word a i 0 0 ws=some ((wordM ws r).1,(wordM ws r).2.1,(j:Int))∧Suf a j (wordM ws r).2.2:=by
  have hi:=h.1
  have key:∃ j:Nat,Option.bind (Option.bind (scan_Word a i ws) (fun x26=>(if x26.2=true then some (Sum.inl ((w64 ((i:Int) + (List.length x26.1:Int))),x26.1)) else some (Sum.inr ()))):Option ((Int × Str) ⊕ (Unit))) (fun y=>match y with | Sum.inl (x24,x25)=>some (x25,true,x24) | Sum.inr _=>some (([]:Str),false,(i:Int)))=some ((if (wordR ws r).2=true then ((wordR ws r).1,true,r.drop (wordR ws r).1.length) else ([],false,r)).1,(if (wordR ws r).2=true then ((wordR ws r).1,true,r.drop (wordR ws r).1.length) else ([],false,r)).2.1,(j:Int))∧Suf a j (if (wordR ws r).2=true then ((wordR ws r).1,true,r.drop (wordR ws r).1.length) else ([],false,r)).2.2:=by
    rw[word_suf ha h hw]
    simp only[Option.bind_some]
    cases hz:(wordR ws r).2 with
    | true=>
      obtain⟨_,h2⟩:=wordR_mem hz
      have:=h.pos
      refine⟨i + (wordR ws r).1.length,?_,h.drop h2⟩
      simp only[if_true,Option.bind_some]
      rw[w64_id (by omega) (by omega)]
      rfl
    | false=>exact⟨i,rfl,h⟩
  unfold pep_reader_word wordM pep_reader_tries
  rw[if_neg (by decide),pep_marked ha h]
  simp only[Option.bind_some]
  cases hm:mkd r with
  | false=>
    simp only[Bool.false_eq_true,if_false,Bool.false_and,Option.bind_some]
    exact key
  | true=>
    obtain⟨c,q,rfl⟩:∃ c q,r=c :: q:=by
      cases r with
      | nil=>cases hm
      | cons c q=>exact⟨c,q,rfl⟩
    obtain⟨h1,h2,h3⟩:=h.cons
    have hw1:w64 ((i:Int) + 1)=((i + 1:Nat):Int):=by rw[w64_id (by omega) (by omega)]; rfl
    simp only[if_true,Bool.true_and,List.tail_cons]
    rw[hw1,word_suf ha h3 hw]
    simp only[Option.bind_some]
    cases hz:(wordR ws q).2 with
    | true=>
      obtain⟨_,h4⟩:=wordR_mem hz
      have:=h3.pos
      refine⟨i + 1 + (wordR ws q).1.length,?_,h3.drop h4⟩
      simp only[if_true,Option.bind_some]
      rw[w64_id (by omega) (by omega)]
      rfl
    | false=>
      simp only[Bool.false_eq_true,if_false,Option.bind_some]
      exact key
theorem pep_number_rd {i:Nat} {r:Str} (h:Suf a i r):∃ j:Nat,pep_reader_number a i 0 0=some ((numberM r).1,(j:Int))∧Suf a j (numberM r).2:=by
  have hi:=h.1
  unfold pep_reader_number numberM
  rw[pep_marked ha h]
  simp only[Option.bind_some]
  have key:∃ j:Nat,Option.bind (if ((mkd r) && (decide ((w64 ((i:Int) + 1)) < (List.length a:Int))))=true then Option.bind (idx a (w64 ((i:Int) + 1))) (fun x20=>Option.bind (scan_Is x20 1) (fun x21=>some x21)) else some false:Option (Bool)) (fun x19=>(if x19=true then some (w64 ((i:Int) + 1)) else some (i:Int)))=some (j:Int)∧Suf a j (numberQ r):=by
    have hw1:w64 ((i:Int) + 1)=((i + 1:Nat):Int):=by rw[w64_id (by omega) (by omega)]; rfl
    rw[hw1]
    unfold numberQ
    cases hm:mkd r with
    | false=>exact⟨i,rfl,h⟩
    | true=>
      obtain⟨c,q,rfl⟩:∃ c q,r=c :: q:=by
        cases r with
        | nil=>cases hm
        | cons c q=>exact⟨c,q,rfl⟩
      obtain⟨h1,h2,h3⟩:=h.cons
      simp only[Bool.true_and,List.tail_cons]
      cases q with
      | nil=>
        have:=h3.nil
        rw[if_neg (by simp; omega)]
        exact⟨i,rfl,h⟩
      | cons c2 q2=>
        obtain⟨h4,h5,h6⟩:=h3.cons
        rw[if_pos (by simp; omega),h5]
        simp only[Option.bind_some,scan_Is_eq]
        have e:hdP (isP 1) (c2 :: q2)=isB (c2.toNat:Int) 1:=rfl
        rw[e]
        cases isB (c2.toNat:Int) 1 with
        | true=>exact⟨i + 1,rfl,h3⟩
        | false=>exact⟨i,rfl,h⟩
  obtain⟨j,k1,k2⟩:=key
  rw[k1]
  simp only[Option.bind_some]
  rw[pep_is ha k2]
  simp only[Option.bind_some]
  cases hd:hdP (isP 1) (numberQ r) with
  | true=>
    obtain⟨j2,g1,g2⟩:=pep_digits ha k2 0 0
    refine⟨j2,?_,g2⟩
    rw[if_pos rfl,g1]
    rfl
  | false=>exact⟨j,rfl,k2⟩
end
end Go.Vm
/- Plain laws of chapter 3: a version is read. -/
namespace Go.Vm
open Go
def postW:List Str:=[[112,111,115,116],[114,101,118],[114]]
def devW:List Str:=[[100,101,118]]
def preW:List Str:=[[97,108,112,104,97],[97],[98,101,116,97],[98],[112,114,101,118,105,101,119],[112,114,101],[99],[114,99]]
def dashD:Str→Bool
  | 45 :: q=>hdP (isP 1) q
  | _=>false
def postM (r:Str):Bool × Str × Str:=
  if dashD r=true then (true,digA r.tail,digB r.tail)
  else if (wordM postW r).2.1=true then (true,(numberM (wordM postW r).2.2).1,(numberM (wordM postW r).2.2).2) else (false,[],(wordM postW r).2.2)
def altA (r:Str):Str:=r.takeWhile (isP 5)
def altB (r:Str):Str:=r.dropWhile (isP 5)
def normP (p:Str):Str:=if runE (isP 1) p 0=p.length then trimM p else p
def locF:Nat→Str→List Str × Str
  | 0,r=>([],r)
  | n + 1,r=>if (mkd (altB r) && hdP (isP 5) (altB r).tail)=true then (normP (altA r) :: (locF n (altB r).tail).1,(locF n (altB r).tail).2) else ([normP (altA r)],altB r)
def localM (n:Nat) (r:Str):List Str × Str × (Int × Int):=match r with
  | 43 :: q=>if hdP (isP 5) q=true then ((locF q.length q).1,(locF q.length q).2,(0,0)) else ([],q,mustE n 5 q)
  | _=>([],r,(0,0))
section
variable {a:Str} (ha:a.length≤64)
include ha
theorem pep_post {i:Nat} {r:Str} (h:Suf a i r) (x8:Str) (x10:List Str) (x24:Int) (x25:Str):∃ j:Nat,pep_reader_post a i 0 0 x8 x10 x24 x25 false [] false [] ([]:List Str)=some ((j:Int),(postM r).1,(postM r).2.1)∧Suf a j (postM r).2.2:=by
  have hi:=h.1
  unfold pep_reader_post
  have hw1:w64 ((i:Int) + 1)=((i + 1:Nat):Int):=by rw[w64_id (by omega) (by omega)]; rfl
  rw[hw1]
  have key:Option.bind (if (decide (((i + 1:Nat):Int) < (List.length a:Int)))=true then Option.bind (idx a i) (fun x18=>some (x18 == 45)) else some false:Option (Bool)) (fun x17=>(if x17=true then Option.bind (idx a ((i + 1:Nat):Int)) (fun x22=>Option.bind (scan_Is x22 1) (fun x23=>some x23)) else some false:Option (Bool)))=some (dashD r):=by
    cases r with
    | nil=>have:=h.nil; rw[if_neg (by simp; omega)]; rfl
    | cons c q=>
      obtain⟨h1,h2,h3⟩:=h.cons
      cases q with
      | nil=>
        have:=h3.nil
        rw[if_neg (by simp; omega)]
        simp only[Option.bind_some,Bool.false_eq_true,if_false,Option.some.injEq]
        unfold dashD
        split
        · rename_i q e; cases e; rfl
        · rfl
      | cons c2 q2=>
        obtain⟨h4,h5,h6⟩:=h3.cons
        rw[if_pos (by simp; omega),h2]
        simp only[Option.bind_some]
        rw[show ((c.toNat:Int) == 45)=(c == 45) from u8c_beq c 45,h5]
        simp only[Option.bind_some,scan_Is_eq]
        by_cases hc:c=45
        · subst hc; rfl
        · have:(c == 45)=false:=by simp[hc]
          rw[this]
          simp only[Bool.false_eq_true,if_false,Option.some.injEq]
          unfold dashD
          split
          · rename_i q e; cases e; exact absurd rfl hc
          · rfl
  rw[← bind_assoc',key]
  simp only[Option.bind_some]
  unfold postM
  cases hd:dashD r with
  | true=>
    obtain⟨q,rfl,hq⟩:∃ q,r=45 :: q∧hdP (isP 1) q=true:=by
      unfold dashD at hd
      split at hd
      · rename_i q; exact⟨q,rfl,hd⟩
      · cases hd
    obtain⟨h1,h2,h3⟩:=h.cons
    obtain⟨j,g1,g2⟩:=pep_digits ha h3 0 0
    refine⟨j,?_,g2⟩
    simp only[if_true]
    rw[g1]
    rfl
  | false=>
    simp only[Bool.false_eq_true,if_false]
    obtain⟨j,g1,g2⟩:=pep_word ha h (ws:=postW) (by decide)
    rw[show ([[112,111,115,116],[114,101,118],[114]]:List Str)=postW from rfl,g1]
    simp only[Option.bind_some]
    cases hz:(wordM postW r).2.1 with
    | true=>
      obtain⟨j2,k1,k2⟩:=pep_number_rd ha g2
      refine⟨j2,?_,k2⟩
      simp only[if_true]
      rw[k1]
      rfl
    | false=>exact⟨j,rfl,g2⟩
omit ha in
theorem altB_lt {r:Str} (h:hdP (isP 5) r=true):(altB r).length < r.length:=by
  cases r with
  | nil=>cases h
  | cons c q=>
    have:altB (c :: q)=q.dropWhile (isP 5):=by
      unfold altB
      rw[List.dropWhile_cons_of_pos (show isP 5 c=true from h)]
    rw[this]
    have:=dropWhile_len (p:=isP 5) q
    simp only[List.length_cons]
    omega
theorem loc_loop:∀ (n:Nat) (i:Nat) (r:Str) (acc:List Str),r.length≤n→Suf a i r→hdP (isP 5) r=true→acc.length≤i→∃ j:Nat,loopC (pep_reader_local_l1 a) ((i:Int),0,0,acc)=some (Sum.inl (acc ++ (locF n r).1,(j:Int),0,0))∧Suf a j (locF n r).2
  | 0,i,r,acc,hn,h,hd,hacc=>by
    have:r=[]:=List.length_eq_zero_iff.1 (by omega)
    subst this
    cases hd
  | n + 1,i,r,acc,hn,h,hd,hacc=>by
    obtain⟨j,g1,g2⟩:=pep_run ha h 0 0 5
    change Suf a j (altB r) at g2
    have hlt:=altB_lt hd
    have hij:i < j:=by have:=h.pos; have:=g2.pos; omega
    have hjl:j≤a.length:=g2.1
    have hm:mustE a.length 5 r=(0,0):=by unfold mustE; rw[if_pos hd]
    have hpl:(altA r).length≤64:=by
      have:=(List.takeWhile_prefix (isP 5) (l:=r)).length_le
      have:=h.pos
      unfold altA
      omega
    have hw:w64 ((j:Int) + 1)=((j + 1:Nat):Int):=by rw[w64_id (by omega) (by omega)]; rfl
    have hnorm:Option.bind (scan_Run (altA r) 0 1) (fun x102=>(if (x102 == (List.length (altA r):Int))=true then Option.bind (scan_Trim (altA r)) (fun x103=>some x103) else some (altA r)))=some (normP (altA r)):=by
      have:=run_suf hpl (Suf.start (altA r)) 1
      rw[show ((0:Nat):Int)=0 from rfl] at this
      rw[this]
      simp only[Option.bind_some]
      unfold normP
      by_cases hz:runE (isP 1) (altA r) 0=(altA r).length
      · rw[if_pos (by simp[hz]),if_pos hz,scan_Trim_eq _ (by omega)]
        rfl
      · rw[if_neg (by simp; omega),if_neg hz]
    have hcont:Option.bind (if ((!(mkd (altB r))) || (decide (((j + 1:Nat):Int)≥(List.length a:Int))))=true then some true else Option.bind (idx a ((j + 1:Nat):Int)) (fun x109=>Option.bind (scan_Is x109 5) (fun x110=>some (!x110))):Option (Bool)) (fun x108=>(if x108=true then some (Step.done (Sum.inl (acc ++ [normP (altA r)],(j:Int),(0:Int),(0:Int)))) else some (Step.next (((j + 1:Nat):Int),(0:Int),(0:Int),acc ++ [normP (altA r)]))))=(if (mkd (altB r) && hdP (isP 5) (altB r).tail)=true then some (Step.next (((j + 1:Nat):Int),(0:Int),(0:Int),acc ++ [normP (altA r)])) else some (Step.done (Sum.inl (acc ++ [normP (altA r)],(j:Int),(0:Int),(0:Int)))):Option (Step (Int × Int × Int × List Str) ((List Str × Int × Int × Int) ⊕ (List Str × Int × Int × Int)))):=by
      cases hmk:mkd (altB r) with
      | false=>rfl
      | true=>
        generalize altB r=z at g2 hmk
        cases z with
        | nil=>cases hmk
        | cons c q=>
          obtain⟨e1,e2,e3⟩:=g2.cons
          simp only[Bool.not_true,Bool.false_or,Bool.true_and,List.tail_cons]
          cases q with
          | nil=>
            have:=e3.nil
            rw[if_pos (by simp; omega)]
            rfl
          | cons c2 q2=>
            obtain⟨e4,e5,e6⟩:=e3.cons
            rw[if_neg (by simp; omega),e5]
            simp only[Option.bind_some,scan_Is_eq]
            have e:hdP (isP 5) (c2 :: q2)=isB (c2.toNat:Int) 5:=rfl
            rw[e]
            cases isB (c2.toNat:Int) 5 <;> rfl
    have hstep:pep_reader_local_l1 a ((i:Int),0,0,acc)=(if (mkd (altB r) && hdP (isP 5) (altB r).tail)=true then some (Step.next (((j + 1:Nat):Int),(0:Int),(0:Int),acc ++ [normP (altA r)])) else some (Step.done (Sum.inl (acc ++ [normP (altA r)],(j:Int),(0:Int),(0:Int)))):Option (Step (Int × Int × Int × List Str) ((List Str × Int × Int × Int) ⊕ (List Str × Int × Int × Int)))):=by
      rw[← hcont]
      unfold pep_reader_local_l1
      simp only[]
      rw[pep_must ha h,hd,hm]
      simp only[Option.bind_some,if_true]
      rw[g1]
      simp only[Option.bind_some]
      change Option.bind (Option.bind (scan_Run (altA r) 0 1) (fun x102=>(if (x102 == (List.length (altA r):Int))=true then Option.bind (scan_Trim (altA r)) (fun x103=>some x103) else some (altA r)))) _=_
      rw[hnorm]
      simp only[Option.bind_some]
      rw[app_ok (by simp; omega) (by simp; omega)]
      simp only[Option.bind_some]
      rw[pep_marked ha g2]
      simp only[Option.bind_some,hw]
    cases hc:(mkd (altB r) && hdP (isP 5) (altB r).tail) with
    | false=>
      rw[hc] at hstep
      refine⟨j,?_,?_⟩
      · rw[loopC_done hstep]
        simp only[locF,hc]
        rfl
      · simp only[locF,hc]
        exact g2
    | true=>
      rw[hc] at hstep
      simp only[Bool.and_eq_true] at hc
      obtain⟨c,q,hz⟩:∃ c q,altB r=c :: q:=by
        cases hp:altB r with
        | nil=>rw[hp] at hc; cases hc.1
        | cons c q=>exact⟨c,q,rfl⟩
      rw[hz] at g2 hlt
      simp only[List.length_cons] at hlt
      obtain⟨e1,e2,e3⟩:=g2.cons
      rw[hz,List.tail_cons] at hc
      obtain⟨j2,k1,k2⟩:=loc_loop n (j + 1) q (acc ++ [normP (altA r)]) (by omega) e3 hc.2 (by simp; omega)
      refine⟨j2,?_,?_⟩
      · rw[loopC_next hstep,k1]
        simp only[locF,hz,List.tail_cons,hc.1,hc.2,Bool.and_self,if_true,List.append_assoc,List.singleton_append]
      · simp only[locF,hz,List.tail_cons,hc.1,hc.2,Bool.and_self,if_true]
        exact k2
theorem pep_local {i:Nat} {r:Str} (h:Suf a i r):∃ j:Nat,pep_reader_local a i 0 0=some ((localM a.length r).1,(j:Int),(localM a.length r).2.2)∧Suf a j (localM a.length r).2.1:=by
  unfold pep_reader_local
  have hi:=h.1
  cases r with
  | nil=>
    have:=h.nil
    refine⟨i,?_,h⟩
    rw[if_pos (by simp; omega)]
    rfl
  | cons c q=>
    obtain⟨h1,h2,h3⟩:=h.cons
    rw[if_neg (by simp; omega),h2]
    simp only[Option.bind_some]
    have e7:((c.toNat:Int) != 43) = !(c == 43):=by rw[bne,show ((c.toNat:Int) == 43)=(c == 43) from u8c_beq c 43]
    rw[e7]
    by_cases hc:c=43
    · subst hc
      have hw:w64 ((i:Int) + 1)=((i + 1:Nat):Int):=by rw[w64_id (by omega) (by omega)]; rfl
      simp only[beq_self_eq_true,Bool.not_true,Bool.false_eq_true,if_false,hw]
      have e9:localM a.length (43 :: q)=if hdP (isP 5) q=true then ((locF q.length q).1,(locF q.length q).2,(0,0)) else ([],q,mustE a.length 5 q):=rfl
      rw[e9]
      cases hd:hdP (isP 5) q with
      | true=>
        obtain⟨j,g1,g2⟩:=loc_loop ha q.length (i + 1) q [] (Nat.le_refl _) h3 hd (Nat.zero_le _)
        refine⟨j,?_,g2⟩
        rw[g1]
        rfl
      | false=>
        refine⟨i + 1,?_,h3⟩
        have:pep_reader_local_l1 a (((i + 1:Nat):Int),0,0,[])=some (.done (Sum.inr ([],((i + 1:Nat):Int),mustE a.length 5 q))):=by
          unfold pep_reader_local_l1
          simp only[]
          rw[pep_must ha h3,hd]
          rfl
        rw[loopC_done this]
        rfl
    · have e8:(c == 43)=false:=by simp[hc]
      have e9:localM a.length (c :: q)=([],c :: q,(0,0)):=by
        unfold localM
        split
        · rename_i e; cases e; exact absurd rfl hc
        · rfl
      rw[e8,e9]
      exact⟨i,rfl,h⟩
end
end Go.Vm
/- Plain laws of chapter 3: versions are read. -/
namespace Go.Vm
open Go
def lowM (s:Str):Str:=ofb ((s.map fun c:UInt8=>(c.toNat:Int)).map lowI)
theorem lowM_len (s:Str):(lowM s).length=s.length:=by simp[lowM,ofb]
def zP:S_api_Pep:=⟨[],[],0,[],false,[],false,[],[]⟩
def preOf (w:Str):Int:=match w with
  | []=>0
  | c :: _=>if c=99∨c=112∨c=114 then 114 else (c.toNat:Int)
theorem preOf_ok {w:Str} (h:w∈preW):Option.bind (idx w 0) (fun x29=>Option.bind (subl w 0 1) (fun x33=>Option.bind (strings_ContainsAny x33 [99,112,114]) (fun x34=>(if x34=true then some 114 else some x29))))=some (preOf w):=by
  simp only[preW,List.mem_cons,List.not_mem_nil,or_false] at h
  rcases h with rfl | rfl | rfl | rfl | rfl | rfl | rfl | rfl <;> decide
theorem preOf_k {β:Type} {w:Str} (h:w∈preW) (k:Int→Option β):Option.bind (idx w 0) (fun x29=>Option.bind (Option.bind (subl w 0 1) (fun x33=>Option.bind (strings_ContainsAny x33 [99,112,114]) (fun x34=>(if x34=true then some 114 else some x29)))) k)=k (preOf w):=by
  rw[← show Option.bind (some (preOf w)) k=k (preOf w) from rfl,← preOf_ok h,bind_assoc']
theorem wordM_mem {ws:List Str} {r:Str} (h:(wordM ws r).2.1=true):(wordM ws r).1∈ws:=by
  unfold wordM at h ⊢
  split at h
  · rename_i q
    rw[if_pos q]
    simp only[Bool.and_eq_true] at q
    exact (wordR_mem q.2).1
  · rename_i q
    rw[if_neg q]
    split at h
    · rename_i q2
      rw[if_pos q2]
      exact (wordR_mem q2).1
    · cases h
def v0M (a:Str):Str:=match a with
  | 118 :: q=>q
  | _=>a
def preM (r:Str):Int × Str × Str:=if (wordM preW r).2.1=true then (preOf (wordM preW r).1,(numberM (wordM preW r).2.2).1,(numberM (wordM preW r).2.2).2) else (0,[],(wordM preW r).2.2)
def devM (r:Str):Bool × Str × Str:=if (wordM devW r).2.1=true then (true,(numberM (wordM devW r).2.2).1,(numberM (wordM devW r).2.2).2) else (false,[],(wordM devW r).2.2)
def bodyM (n:Nat) (ep:Str) (r:Str):S_api_Pep × S_api_Fault:=
  let R:=relM n r
  if R.2.2.1≠0 then (zP,⟨R.2.2.1,R.2.2.2⟩) else
  let P:=preM R.2.1
  let O:=postM P.2.2
  let D:=devM O.2.2
  let L:=localM n D.2.2
  if L.2.2.1≠0 then (zP,⟨L.2.2.1,L.2.2.2⟩) else
  if L.2.1≠[] then (zP,⟨10,posR n L.2.1⟩) else
  (⟨ep,R.1,P.1,P.2.1,O.1,O.2.1,D.1,D.2.1,L.1⟩,⟨0,0⟩)
def parseP (s:Str):S_api_Pep × S_api_Fault:=
  if 64 < s.length then (zP,⟨12,64⟩) else bodyM s.length (epochM (v0M (lowM s))).1 (epochM (v0M (lowM s))).2
theorem mustE_cases (n:Nat) (k:Int) (r:Str):mustE n k r=(0,0)∨(mustE n k r).1≠0:=by
  unfold mustE
  split
  · exact .inl rfl
  · split <;> exact .inr (by simp)
theorem relM_err (n:Nat) (r:Str):(relM n r).2.2=(0,0)∨(relM n r).2.2.1≠0:=by
  unfold relM
  split
  · exact .inl rfl
  · exact mustE_cases n 1 r
theorem localM_err (n:Nat) (r:Str):(localM n r).2.2=(0,0)∨(localM n r).2.2.1≠0:=by
  unfold localM
  split
  · split
    · exact .inl rfl
    · exact mustE_cases n 5 _
  · exact .inl rfl
theorem pep_Parse_eq (s:Str):pep_Parse s=some (parseP s):=by
  unfold pep_Parse parseP
  by_cases hs:s.length≤64
  · rw[if_neg (by simp; omega),if_neg (by omega),scan_Lower_eq s (by omega)]
    simp only[Option.bind_some]
    rw[show ofb ((s.map fun c:UInt8=>(c.toNat:Int)).map lowI)=lowM s from rfl]
    have hl:(lowM s).length≤64:=by rw[lowM_len]; exact hs
    have hn:s.length=(lowM s).length:=(lowM_len s).symm
    rw[hn]
    generalize lowM s=a at hl
    have hv:∃ i:Nat,Option.bind (if (decide (0 < (List.length a:Int)))=true then Option.bind (idx a 0) (fun x7=>some (x7 == 118)) else some false:Option (Bool)) (fun x6=>(if x6=true then some (w64 (0 + 1)) else some 0))=some (i:Int)∧Suf a i (v0M a):=by
      cases a with
      | nil=>exact⟨0,rfl,Suf.start _⟩
      | cons c q=>
        obtain⟨h1,h2,h3⟩:=(Suf.start (c :: q)).cons
        have h2':idx (c :: q) 0=some (c.toNat:Int):=h2
        rw[if_pos (by simp),h2']
        simp only[Option.bind_some]
        rw[show ((c.toNat:Int) == 118)=(c == 118) from u8c_beq c 118]
        by_cases hc:c=118
        · subst hc
          exact⟨1,rfl,h3⟩
        · have e8:(c == 118)=false:=by simp[hc]
          have e9:v0M (c :: q)=c :: q:=by
            unfold v0M
            split
            · rename_i e; cases e; exact absurd rfl hc
            · rfl
          rw[e8,e9]
          exact⟨0,rfl,Suf.start _⟩
    obtain⟨i0,e0,s0⟩:=hv
    rw[e0]
    simp only[Option.bind_some]
    obtain⟨i1,e1,s1⟩:=pep_epoch hl s0
    rw[e1]
    simp only[Option.bind_some]
    generalize (epochM (v0M a)).1=ep
    generalize (epochM (v0M a)).2=r at s1
    obtain⟨i2,e2,s2⟩:=pep_release hl s1
    rw[e2]
    simp only[Option.bind_some]
    unfold bodyM
    simp only[]
    rcases relM_err a.length r with herr | herr
    · rw[herr]
      simp only[ne_eq,not_true_eq_false,if_false]
      generalize (relM a.length r).1=rel
      generalize (relM a.length r).2.1=r2 at s2
      obtain⟨i3,e3,s3⟩:=pep_word hl s2 (ws:=preW) (by decide)
      have hp:∃ j:Nat,Option.bind (pep_reader_word a (i2:Int) 0 0 preW) (fun (x26,x27,x28)=>(if x27=true then Option.bind (idx x26 0) (fun x29=>Option.bind (Option.bind (subl x26 0 1) (fun x33=>Option.bind (strings_ContainsAny x33 [99,112,114]) (fun x34=>(if x34=true then some 114 else some x29))):Option (Int)) (fun x32=>Option.bind (pep_reader_number a x28 0 0) (fun (x35,x36)=>some (x36,x32,x35)))) else some (x28,0,[])))=some ((j:Int),(preM r2).1,(preM r2).2.1)∧Suf a j (preM r2).2.2:=by
        rw[e3]
        simp only[Option.bind_some]
        unfold preM
        cases hz:(wordM preW r2).2.1 with
        | true=>
          obtain⟨i4,e4,s4⟩:=pep_number_rd hl s3
          refine⟨i4,?_,s4⟩
          simp only[if_true]
          rw[preOf_k (wordM_mem hz),e4]
          rfl
        | false=>exact⟨i3,rfl,s3⟩
      obtain⟨i4,e4,s4⟩:=hp
      rw[show ([[97,108,112,104,97],[97],[98,101,116,97],[98],[112,114,101,118,105,101,119],[112,114,101],[99],[114,99]]:List Str)=preW from rfl,e4]
      simp only[Option.bind_some,beq_self_eq_true,if_true]
      obtain⟨i5,e5,s5⟩:=pep_post hl s4 ep rel (preM r2).1 (preM r2).2.1
      rw[e5]
      simp only[Option.bind_some]
      obtain⟨i6,e6,s6⟩:=pep_word hl s5 (ws:=devW) (by decide)
      have hd:∃ j:Nat,Option.bind (pep_reader_word a (i5:Int) 0 0 devW) (fun (x55,x56,x57)=>(if x56=true then Option.bind (pep_reader_number a x57 0 0) (fun (x58,x59)=>some (x59,true,x58)) else some (x57,false,[])))=some ((j:Int),(devM (postM (preM r2).2.2).2.2).1,(devM (postM (preM r2).2.2).2.2).2.1)∧Suf a j (devM (postM (preM r2).2.2).2.2).2.2:=by
        rw[e6]
        simp only[Option.bind_some]
        unfold devM
        cases hz:(wordM devW (postM (preM r2).2.2).2.2).2.1 with
        | true=>
          obtain⟨i7,e7,s7⟩:=pep_number_rd hl s6
          refine⟨i7,?_,s7⟩
          simp only[if_true]
          rw[e7]
          rfl
        | false=>exact⟨i6,rfl,s6⟩
      obtain⟨i7,e7,s7⟩:=hd
      rw[show ([[100,101,118]]:List Str)=devW from rfl,e7]
      simp only[Option.bind_some]
      obtain⟨i8,e8,s8⟩:=pep_local hl s7
      rw[e8]
      simp only[Option.bind_some]
      have hLe:=localM_err a.length (devM (postM (preM r2).2.2).2.2).2.2
      generalize localM a.length (devM (postM (preM r2).2.2).2.2).2.2=L at s8 hLe
      rcases hLe with hL | hL
      · rw[hL]
        have hpos:=s8.posR
        have hps:=s8.pos
        by_cases hr:L.2.1=[]
        · have h9:¬ ((i8:Int) < (a.length:Int)):=by rw[hr] at hps; simp only[List.length_nil] at hps; omega
          simp[hr,h9]
        · have h9:(i8:Int) < (a.length:Int):=by
            have:=List.length_pos_iff.2 hr
            omega
          simp[hr,h9,hpos,zP]
      · simp[hL,zP]
    · rw[if_pos herr]
      have hw:∀ (i:Int) (ws:List Str),pep_reader_word a i (relM a.length r).2.2.1 (relM a.length r).2.2.2 ws=some ([],false,i):=fun i ws=>by
        unfold pep_reader_word
        rw[if_pos (by simpa using herr)]
      rw[hw]
      simp only[Option.bind_some,Bool.false_eq_true,if_false]
      have hb:((relM a.length r).2.2.1 == 0)=false:=by simpa using herr
      rw[hb]
      simp only[Bool.false_eq_true,if_false,Option.bind_some]
      rw[hw]
      simp[herr,zP]
  · rw[if_pos (by simp; omega),if_pos (by omega)]
    rfl
end Go.Vm
/- Plain laws of chapter 5: versions of RPM. -/
namespace Go.Vm
open Go
theorem run_all_iff {p:UInt8→Bool}:∀ {s:Str},runE p s 0=s.length↔∀ c∈s,p c=true:=by
  intro s
  unfold runE
  simp only[List.drop_zero,Nat.zero_add]
  induction s with
  | nil=>simp
  | cons c s ih=>
    cases hc:p c with
    | true=>rw[List.takeWhile_cons_of_pos hc]; simp[hc,ih]
    | false=>rw[List.takeWhile_cons_of_neg (by simp[hc])]; simp[hc]
def b2i (b:Bool):Int:=if b=true then 1 else 0
theorem b2i_sub (a b:Bool):w64 (b2i a - b2i b)=cmpI (b2i a) (b2i b):=by cases a <;> cases b <;> decide
theorem lexL_one {α:Type} (c:α→α→Int) (x y:α):lexL c [x] [y]=c x y:=by
  simp only[lexL]
  split
  · rfl
  · rename_i h; simp at h; exact h.symm
end Go.Vm
/- Plain laws of chapter 3: which versions are ones. -/
namespace Go.Vm
open Go
def numB (d:Str):Bool:=!(d == []) && (runE (isP 1) d 0 == d.length) && (trimM d == d)
def askB (b:Bool) (d:Str):Bool:=if b=true then numB d else d == []
def altB5 (p:Str):Bool:=!(p == []) && (runE (isP 5) p 0 == p.length) && (lowM p == p) && (!(runE (isP 1) p 0 == p.length) || (trimM p == p))
def preB (p:Int):Bool:=((p == 97) || (p == 98)) || (p == 114)
def fitP (v:S_api_Pep):Bool:=numB v.Epoch && !(v.Release == []) && ((v.Pre == 0) || preB v.Pre) && askB (preB v.Pre) v.PreNum && askB v.Post v.PostNum && askB v.Dev v.DevNum && v.Release.all numB && v.Local.all altB5
structure BigP (v:S_api_Pep):Prop where
  e:v.Epoch.length≤1048576
  p:v.PreNum.length≤1048576
  o:v.PostNum.length≤1048576
  d:v.DevNum.length≤1048576
  r:v.Release.length≤1048576
  l:v.Local.length≤1048576
  rs:∀ x∈v.Release,x.length≤1048576
  ls:∀ x∈v.Local,x.length≤1048576
theorem run0 (s:Str) (k:Int) (hs:s.length≤1048576):scan_Run s 0 k=some (runE (isP k) s 0:Int):=by
  rw[scan_Run_eq _ _ _ (by omega)]
  unfold runM
  rw[if_neg (by omega)]
  rfl
theorem pep_number_eq (d:Str) (b:Bool) (hd:d.length≤1048576):pep_number d b=some (askB b d):=by
  unfold pep_number askB
  cases b with
  | false=>rfl
  | true=>
    rw[run0 d 1 hd,scan_Trim_eq d (by omega)]
    simp only[Bool.not_true,Bool.false_eq_true,if_false,if_true,Option.bind_some]
    unfold numB
    have e:((runE (isP 1) d 0:Int) == (d.length:Int))=(runE (isP 1) d 0 == d.length):=by
      rw[Bool.eq_iff_iff]; simp; omega
    rw[e]
    cases (d == []) <;> cases (runE (isP 1) d 0 == d.length) <;> rfl
theorem pep_part_eq (p:Str) (hp:p.length≤1048576):pep_part p=some (altB5 p):=by
  unfold pep_part altB5
  rw[run0 p 1 hp,run0 p 5 hp,scan_Trim_eq p (by omega),scan_Lower_eq p (by omega)]
  simp only[Option.bind_some]
  rw[show ofb ((p.map fun c:UInt8=>(c.toNat:Int)).map lowI)=lowM p from rfl]
  have e:∀ k,((runE (isP k) p 0:Int) != (p.length:Int)) = !(runE (isP k) p 0 == p.length):=fun k=>by
    rw[bne,Bool.not_inj_iff,Bool.eq_iff_iff]; simp; omega
  rw[e,e]
  cases (p == []) <;> cases (runE (isP 5) p 0 == p.length) <;> cases (lowM p == p) <;> cases (runE (isP 1) p 0 == p.length) <;> cases (trimM p == p) <;> rfl
theorem any_loop {α:Type} {l:List α} {p:α→Bool} {f:Int→Option (Step Int (Int ⊕ Unit))} (h1:∀ (i:Nat) (h:i < l.length),f (i:Int)=if p l[i]=true then some (.done (.inl (i:Int))) else some (.next ((i + 1:Nat):Int))) (h2:f (l.length:Int)=some (.done (.inr ()))) :
    ∃ t,loopC f 0=some t∧(match t with | .inl k=>0≤k∧l.any p=true | .inr _=>l.any p=false):=by
  refine loopC_inv (fun x:Int=>∃ i:Nat,x=i∧i≤l.length∧(l.take i).any p=false) (fun x:Int=>l.length - x.toNat) _ (fun x hx=>?_) (x:=0) ⟨0,rfl,Nat.zero_le _,rfl⟩
  obtain⟨i,rfl,hi,ht⟩:=hx
  rcases Nat.lt_or_ge i l.length with h | h
  · rw[h1 i h]
    cases hp:p l[i] with
    | true=>
      left
      refine⟨_,rfl,by simp,?_⟩
      exact List.any_eq_true.2 ⟨l[i],List.getElem_mem h,hp⟩
    | false=>
      right
      refine⟨_,rfl,⟨i + 1,rfl,h,?_⟩,by simp only[Int.toNat_natCast]; omega⟩
      rw[List.take_add_one,List.getElem?_eq_getElem h,List.any_append,ht]
      simp[hp]
  · have:i=l.length:=by omega
    subst this
    left
    refine⟨_,h2,?_⟩
    simpa using ht
theorem pep_contains1 (l:List Str) (hl:l.length≤1048576) (hs:∀ x∈l,x.length≤1048576):slices_ContainsFunc_string_string_s7b58 l=some (l.any fun d=>!numB d):=by
  unfold slices_ContainsFunc_string_string_s7b58 slices_IndexFunc_string_string_s7b58
  obtain⟨t,h1,h2⟩:=any_loop (l:=l) (p:=fun d=>!numB d) (f:=slices_IndexFunc_string_string_s7b58_l1 l) (fun i h=>by
    unfold slices_IndexFunc_string_string_s7b58_l1
    rw[if_pos (by simp; omega),ixl_nat h]
    simp only[Option.bind_some,pep_Fit_1]
    rw[pep_number_eq _ _ (hs _ (List.getElem_mem h)),w64_id (by omega) (by omega)]
    rfl) (by
    unfold slices_IndexFunc_string_string_s7b58_l1
    rw[if_neg (by simp)])
  rw[h1]
  cases t with
  | inl k=>simp only at h2; rw[h2.2]; simp[h2.1]
  | inr u=>simp only at h2; rw[h2]; rfl
theorem pep_contains2 (l:List Str) (hl:l.length≤1048576) (hs:∀ x∈l,x.length≤1048576):slices_ContainsFunc_string_string_s5fcb l=some (l.any fun d=>!altB5 d):=by
  unfold slices_ContainsFunc_string_string_s5fcb slices_IndexFunc_string_string_s5fcb
  obtain⟨t,h1,h2⟩:=any_loop (l:=l) (p:=fun d=>!altB5 d) (f:=slices_IndexFunc_string_string_s5fcb_l1 l) (fun i h=>by
    unfold slices_IndexFunc_string_string_s5fcb_l1
    rw[if_pos (by simp; omega),ixl_nat h]
    simp only[Option.bind_some,pep_Fit_2]
    rw[pep_part_eq _ (hs _ (List.getElem_mem h)),w64_id (by omega) (by omega)]
    rfl) (by
    unfold slices_IndexFunc_string_string_s5fcb_l1
    rw[if_neg (by simp)])
  rw[h1]
  cases t with
  | inl k=>simp only at h2; rw[h2.2]; simp[h2.1]
  | inr u=>simp only at h2; rw[h2]; rfl
theorem any_not {α:Type} (p:α→Bool):∀ l:List α,(l.any fun d=>!p d) = !l.all p
  | []=>rfl
  | x :: l=>by simp only[List.any_cons,List.all_cons,any_not p l,Bool.not_and]
theorem pep_Fit_eq (v:S_api_Pep) (h:BigP v):pep_Fit v=some (fitP v):=by
  unfold pep_Fit fitP
  rw[pep_number_eq _ _ h.e,pep_number_eq _ _ h.p,pep_number_eq _ _ h.o,pep_number_eq _ _ h.d,pep_contains1 _ h.r h.rs,pep_contains2 _ h.l h.ls,any_not,any_not]
  simp only[Option.bind_some]
  have e1:askB true v.Epoch=numB v.Epoch:=rfl
  have e2:((v.Release.length:Int) == 0)=(v.Release == []):=by
    cases v.Release <;> simp <;> omega
  rw[e1,e2]
  change (Option.bind (if (((!numB v.Epoch) || (v.Release == [])) || ((v.Pre != 0) && (!preB v.Pre)))=true then some true else some (!askB (preB v.Pre) v.PreNum)) _)=_
  rw[bne]
  cases numB v.Epoch <;> cases (v.Release == []) <;> cases (v.Pre == 0) <;> cases preB v.Pre <;> cases askB _ v.PreNum <;> cases askB v.Post v.PostNum <;> cases askB v.Dev v.DevNum <;> cases v.Release.all numB <;> cases v.Local.all altB5 <;> rfl
end Go.Vm
/- Plain laws of chapter 3: the order of versions. -/
namespace Go.Vm
open Go
def rowR (m:Str) (c:Str→Str→Int):List Str→Int
  | []=>0
  | y :: b=>if c m y≠0 then c m y else rowR m c b
def rowL (m:Str) (c:Str→Str→Int):List Str→List Str→Int
  | [],b=>rowR m c b
  | x :: a,[]=>if c x m≠0 then c x m else rowL m c a []
  | x :: a,y :: b=>if c x y≠0 then c x y else rowL m c a b
theorem rowL_step {m:Str} {c:Str→Str→Int}:∀ (a b:List Str) (i:Nat),(i < a.length∨i < b.length)→rowL m c (a.drop i) (b.drop i)=if c (a.getD i m) (b.getD i m)≠0 then c (a.getD i m) (b.getD i m) else rowL m c (a.drop (i + 1)) (b.drop (i + 1)):=by
  intro a b i h
  rcases Nat.lt_or_ge i a.length with h1 | h1 <;> rcases Nat.lt_or_ge i b.length with h2 | h2
  · rw[List.drop_eq_getElem_cons h1,List.drop_eq_getElem_cons h2]
    simp only[rowL,List.getD_eq_getElem?_getD,List.getElem?_eq_getElem h1,List.getElem?_eq_getElem h2,Option.getD_some]
  · rw[List.drop_eq_getElem_cons h1,List.drop_eq_nil_of_le h2,List.drop_eq_nil_of_le (by omega:b.length≤i + 1)]
    simp only[rowL,List.getD_eq_getElem?_getD,List.getElem?_eq_getElem h1,List.getElem?_eq_none h2,Option.getD_some,Option.getD_none]
  · rw[List.drop_eq_getElem_cons h2,List.drop_eq_nil_of_le h1,List.drop_eq_nil_of_le (by omega:a.length≤i + 1)]
    simp only[rowL,rowR,List.getD_eq_getElem?_getD,List.getElem?_eq_getElem h2,List.getElem?_eq_none h1,Option.getD_some,Option.getD_none]
  · omega
theorem row_loop {m:Str} {c:Str→Str→Int} {a b:List Str} {f:Int→Option (Step Int (Int ⊕ Unit))} (h1:∀ i:Nat,(i < a.length∨i < b.length)→f (i:Int)=if c (a.getD i m) (b.getD i m)≠0 then some (.done (.inl (c (a.getD i m) (b.getD i m)))) else some (.next ((i + 1:Nat):Int))) (h2:∀ i:Nat,a.length≤i→b.length≤i→f (i:Int)=some (.done (.inr ()))) :
    loopC f 0=some (if rowL m c a b≠0 then .inl (rowL m c a b) else .inr ()):=by
  have:=loopC_fun (f:=f) (fun x:Int=>∃ i:Nat,x=i) (fun x:Int=>(a.length + b.length) - x.toNat) (fun x=>if rowL m c (a.drop x.toNat) (b.drop x.toNat)≠0 then .inl (rowL m c (a.drop x.toNat) (b.drop x.toNat)) else .inr ()) (fun x hx=>by
    obtain⟨i,rfl⟩:=hx
    simp only[Int.toNat_natCast]
    by_cases h:i < a.length∨i < b.length
    · rw[h1 i h,rowL_step a b i h]
      by_cases z:c (a.getD i m) (b.getD i m)≠0
      · left
        rw[if_pos z,if_pos z,if_pos z]
      · right
        rw[if_neg z,if_neg z]
        exact⟨_,rfl,⟨i + 1,rfl⟩,by simp only[Int.toNat_natCast]; omega,by simp only[Int.toNat_natCast]⟩
    · left
      rw[h2 i (by omega) (by omega),List.drop_eq_nil_of_le (by omega),List.drop_eq_nil_of_le (by omega)]
      simp[rowL,rowR]) (x:=0) ⟨0,rfl⟩
  simpa using this
theorem maxI (a b:List Str) (i:Nat):decide ((i:Int) < (if (List.length b:Int) > (List.length a:Int) then (List.length b:Int) else (List.length a:Int)))=decide (i < a.length∨i < b.length):=by
  rw[Bool.eq_iff_iff]
  simp only[decide_eq_true_eq]
  split <;> omega
theorem getI (a:List Str) (i:Nat) (m:Str):(if (decide ((i:Int) < (List.length a:Int)))=true then Option.bind (ixl a i) (fun x22=>some x22) else some m:Option Str)=some (a.getD i m):=by
  rcases Nat.lt_or_ge i a.length with h | h
  · rw[if_pos (by simp; omega),ixl_nat h]
    simp[List.getD_eq_getElem?_getD,h]
  · rw[if_neg (by simp; omega)]
    simp[List.getD_eq_getElem?_getD,List.getElem?_eq_none h]
theorem getD_big {a:List Str} {m:Str} (h:∀ x∈a,x.length≤1048576) (hm:m.length≤1048576) (i:Nat):(a.getD i m).length≤1048576:=by
  rw[List.getD_eq_getElem?_getD]
  cases e:a[i]? with
  | none=>exact hm
  | some x=>exact h x (List.mem_of_getElem? e)
theorem pep_row1 (a b:List Str) (ha:a.length≤1048576) (hb:b.length≤1048576) (hsa:∀ x∈a,x.length≤1048576) (hsb:∀ x∈b,x.length≤1048576):pep_row_string_sa997 a b=some (rowL [48] cmpM a b):=by
  unfold pep_row_string_sa997
  rw[row_loop (m:=[48]) (c:=cmpM) (a:=a) (b:=b) (fun i hi=>by
    unfold pep_row_string_sa997_l1
    rw[maxI,if_pos (by simpa using hi)]
    simp only[pep_Order_1,Option.bind_some]
    rw[getI,getI]
    simp only[Option.bind_some]
    rw[scan_Cmp_eq _ _ (by have:=getD_big hsa (m:=[48]) (by simp) i; omega) (by have:=getD_big hsb (m:=[48]) (by simp) i; omega)]
    simp only[Option.bind_some]
    rw[w64_id (by omega) (by omega)]
    generalize a.getD i [48]=u
    generalize b.getD i [48]=v
    by_cases z:cmpM u v=0
    · rw[if_neg (by simp[z]),if_neg (by simp[z])]; rfl
    · rw[if_pos (by simp[z]),if_pos z]) (fun i h1 h2=>by
    unfold pep_row_string_sa997_l1
    rw[maxI,if_neg (by simp; omega)])]
  by_cases z:rowL [48] cmpM a b=0 <;> simp[z]
def digP (p:Str):Bool:=!(p == []) && (runE (isP 1) p 0 == p.length)
def kindP (p:Str):Int:=if p=[] then 0 else if digP p=true then 2 else 1
def kd (p:Str):List Str:=if digP p=true then [p] else []
def kn (p:Str):List Str:=if digP p=true then [] else [p]
def lpM:Str→Str→Int:=lex2 (fun x y=>cmpI (kindP x) (kindP y)) (lex2 (fun x y=>lexL cmpM (kd x) (kd y)) (fun x y=>lexL Lib.compareBytes (kn x) (kn y)))
theorem pep_digits_lp (p:Str) (hp:p.length≤1048576):pep_localPart_1 p=some (digP p):=by
  unfold pep_localPart_1 digP
  rw[run0 p 1 hp]
  have e:((runE (isP 1) p 0:Int) == (p.length:Int))=(runE (isP 1) p 0 == p.length):=by
    rw[Bool.eq_iff_iff]; simp; omega
  simp only[Option.bind_some]
  rw[e]
  cases (p == []) <;> cases (runE (isP 1) p 0 == p.length) <;> rfl
theorem pep_kind (p:Str) (hp:p.length≤1048576):pep_localPart_2_s0b94 p=some (kindP p):=by
  unfold pep_localPart_2_s0b94 kindP
  rw[pep_digits_lp p hp]
  by_cases h:p=[]
  · simp[h]
  · cases hd:digP p <;> simp[h,hd]
theorem pep_localPart_eq (x y:Str) (hx:x.length≤1048576) (hy:y.length≤1048576):pep_localPart x y=some (lpM x y):=by
  unfold pep_localPart
  rw[pep_kind x hx,pep_kind y hy,pep_digits_lp x hx,scan_Cmp_eq x y (by omega) (by omega)]
  simp only[Option.bind_some,cmp_Compare_int_eq,strings_Compare_eq]
  unfold lpM lex2
  simp only[]
  by_cases h:cmpI (kindP x) (kindP y)=0
  · have e:=cmpI_zero h
    rw[if_neg (show ¬ ((cmpI (kindP x) (kindP y) != 0)=true) by simp[h]),if_neg (show ¬ (cmpI (kindP x) (kindP y)≠0) by simp[h])]
    have hdy:digP x=digP y:=by
      unfold kindP at e
      by_cases hx0:x=[]
      · by_cases hy0:y=[]
        · rw[hx0,hy0]
        · rw[if_pos hx0,if_neg hy0] at e
          split at e <;> simp at e
      · by_cases hy0:y=[]
        · rw[if_neg hx0,if_pos hy0] at e
          split at e <;> simp at e
        · rw[if_neg hx0,if_neg hy0] at e
          cases h1:digP x <;> cases h2:digP y <;> simp[h1,h2] at e <;> rfl
    unfold kd kn
    rw[← hdy]
    cases hd:digP x with
    | true=>
      simp only[if_true,lexL_one]
      by_cases z:cmpM x y=0 <;> simp[z,lexL]
    | false=>
      simp only[Bool.false_eq_true,if_false,lexL_one]
      simp[lexL]
  · rw[if_pos (by simp[h]),if_pos h]
theorem pep_row2 (a b:List Str) (ha:a.length≤1048576) (hb:b.length≤1048576) (hsa:∀ x∈a,x.length≤1048576) (hsb:∀ x∈b,x.length≤1048576):pep_row_string_s2637 a b=some (rowL [] lpM a b):=by
  unfold pep_row_string_s2637
  rw[row_loop (m:=[]) (c:=lpM) (a:=a) (b:=b) (fun i hi=>by
    unfold pep_row_string_s2637_l1
    rw[maxI,if_pos (by simpa using hi)]
    simp only[pep_Order_2,Option.bind_some]
    rw[getI,getI]
    simp only[Option.bind_some]
    rw[pep_localPart_eq _ _ (getD_big hsa (by simp) i) (getD_big hsb (by simp) i)]
    simp only[Option.bind_some]
    rw[w64_id (by omega) (by omega)]
    generalize a.getD i []=u
    generalize b.getD i []=v
    by_cases z:lpM u v=0
    · rw[if_neg (by simp[z]),if_neg (by simp[z])]; rfl
    · rw[if_pos (by simp[z]),if_pos z]) (fun i h1 h2=>by
    unfold pep_row_string_s2637_l1
    rw[maxI,if_neg (by simp; omega)])]
  by_cases z:rowL [] lpM a b=0 <;> simp[z]
def stageM (v:S_api_Pep):Int:=if (((v.Pre == 0) && (!v.Post)) && v.Dev)=true then 0 else if (v.Pre == 0)=true then 4 else if (v.Pre == 97)=true then 1 else if (v.Pre == 98)=true then 2 else 3
theorem pep_stage_eq (v:S_api_Pep):pep_stage v=some (stageM v):=by
  unfold pep_stage stageM
  split
  · rfl
  · split
    · rfl
    · split
      · rfl
      · split <;> rfl
theorem pep_truth_eq (b:Bool):pep_truth b=some (b2i b):=by cases b <;> rfl
def ordP:S_api_Pep→S_api_Pep→Int:=
  lex2 (fun x y=>cmpM x.Epoch y.Epoch) (lex2 (fun x y=>rowL [48] cmpM x.Release y.Release) (lex2 (fun x y=>cmpI (stageM x) (stageM y)) (lex2 (fun x y=>cmpM x.PreNum y.PreNum) (lex2 (fun x y=>cmpI (b2i x.Post) (b2i y.Post)) (lex2 (fun x y=>cmpM x.PostNum y.PostNum) (lex2 (fun x y=>cmpI (-b2i x.Dev) (-b2i y.Dev)) (lex2 (fun x y=>cmpM x.DevNum y.DevNum) (fun x y=>rowL [] lpM x.Local y.Local))))))))
theorem b2i_sub2 (a b:Bool):w64 (b2i b - b2i a)=cmpI (-b2i a) (-b2i b):=by cases a <;> cases b <;> decide
theorem find_c (x y:Int) (l:List Int):(((x :: y :: l).find? (· != 0)).getD 0)=if x≠0 then x else (((y :: l).find? (· != 0)).getD 0):=by
  by_cases h:x=0 <;> simp[h]
theorem find_1 (x:Int):(([x].find? (· != 0)).getD 0)=x:=by
  by_cases h:x=0 <;> simp[h]
theorem pep_Order_eq (a b:S_api_Pep) (ha:BigP a) (hb:BigP b):pep_Order a b=some (if fitP a=true∧fitP b=true then ordP a b else 0):=by
  unfold pep_Order
  have ae:=ha.e; have ap:=ha.p; have ao:=ha.o; have ad:=ha.d
  have be:=hb.e; have bp:=hb.p; have bo:=hb.o; have bd:=hb.d
  rw[pep_Fit_eq a ha,pep_Fit_eq b hb,scan_Cmp_eq _ _ (by omega) (by omega),scan_Cmp_eq _ _ (by omega) (by omega),scan_Cmp_eq _ _ (by omega) (by omega),scan_Cmp_eq _ _ (by omega) (by omega),pep_row1 _ _ ha.r hb.r ha.rs hb.rs,pep_row2 _ _ ha.l hb.l ha.ls hb.ls,pep_stage_eq,pep_stage_eq]
  simp only[Option.bind_some,pep_truth_eq,cmp_Compare_int_eq]
  rw[cmp_Or_int_eq _ (by simp)]
  simp only[find_c,find_1,Option.bind_some]
  rw[b2i_sub,b2i_sub2]
  cases h1:fitP a <;> cases h2:fitP b <;> simp[ordP,lex2]
def okPep (s:Str):List S_api_Pep:=if (parseP s).2.Err=0 then [(parseP s).1] else []
def compP (a b:Str):Int:=lexL ordP (okPep a) (okPep b)
end Go.Vm
/- Plain laws of chapter 3: what is read is a version. -/
namespace Go.Vm
open Go
theorem numB_iff {d:Str}:numB d=true↔d≠[]∧(∀ c∈d,isP 1 c=true)∧trimM d=d:=by
  unfold numB
  simp only[Bool.and_eq_true,Bool.not_eq_true',beq_eq_false_iff_ne,beq_iff_eq,run_all_iff,and_assoc]
theorem tw_all {p:UInt8→Bool} (r:Str):∀ c∈r.takeWhile p,p c=true:=fun c hc=>mem_tw hc
theorem numB_trim {d:Str} (h:∀ c∈d,isP 1 c=true):numB (trimM d)=true:=
  numB_iff.2 ⟨trim_ne _,isDig_isP.1 (dig_trim (isDig_isP.2 h)),trim_trim _⟩
theorem numB_digA (r:Str):numB (digA r)=true:=numB_trim (tw_all r)
theorem numB_zero:numB [48]=true:=by decide
theorem epochM_num (r:Str):numB (epochM r).1=true:=by
  unfold epochM
  split
  · exact numB_zero
  · split
    · exact numB_digA r
    · exact numB_zero
theorem relF_all:∀ (n:Nat) (r:Str),(relF n r).1.all numB=true
  | 0,_=>rfl
  | n + 1,r=>by
    simp only[relF]
    split
    · split
      · simp only[List.all_cons,numB_digA,Bool.true_and]
        exact relF_all n _
      · simp[numB_digA]
    · simp[numB_digA]
theorem relF_ne (n:Nat) (r:Str):(relF (n + 1) r).1≠[]:=by
  simp only[relF]
  split
  · split <;> simp
  · simp
theorem numberM_num (r:Str):numB (numberM r).1=true:=by
  unfold numberM
  split
  · exact numB_digA _
  · exact numB_zero
theorem preOf_b {w:Str} (h:w∈preW):preB (preOf w)=true:=by
  simp only[preW,List.mem_cons,List.not_mem_nil,or_false] at h
  rcases h with rfl | rfl | rfl | rfl | rfl | rfl | rfl | rfl <;> decide
theorem preM_ok (r:Str):(((preM r).1 == 0) || preB (preM r).1)=true∧askB (preB (preM r).1) (preM r).2.1=true:=by
  unfold preM
  split
  · rename_i h
    have:=preOf_b (wordM_mem h)
    simp only[this,Bool.or_true,askB,if_true,numberM_num,and_self]
  · exact⟨rfl,rfl⟩
theorem postM_ok (r:Str):askB (postM r).1 (postM r).2.1=true:=by
  unfold postM
  split
  · exact numB_digA _
  · split
    · exact numberM_num _
    · rfl
theorem devM_ok (r:Str):askB (devM r).1 (devM r).2.1=true:=by
  unfold devM
  split
  · exact numberM_num _
  · rfl
def low8 (c:UInt8):UInt8:=UInt8.ofNat (lowI (c.toNat:Int)).toNat
theorem lowM_map (s:Str):lowM s=s.map low8:=by
  simp only[lowM,ofb,List.map_map]
  rfl
theorem lowI_cases (c:UInt8):(65≤c.toNat∧c.toNat≤90∧lowI (c.toNat:Int)=(c.toNat:Int) + 32)∨(¬(65≤c.toNat∧c.toNat≤90)∧lowI (c.toNat:Int)=(c.toNat:Int)):=by
  have hc:=c.toNat_lt
  unfold lowI
  by_cases h:65≤c.toNat∧c.toNat≤90
  · left
    refine⟨h.1,h.2,?_⟩
    rw[if_pos (by simp[isB]; omega),wrap_u8 (by omega) (by omega)]
  · right
    refine⟨h,?_⟩
    rw[if_neg (by simp[isB]; omega)]
theorem low8_fix {c:UInt8} (h:¬(65≤c.toNat∧c.toNat≤90)):low8 c=c:=by
  unfold low8
  rcases lowI_cases c with ⟨h1,h2,_⟩ | ⟨_,h2⟩
  · exact absurd ⟨h1,h2⟩ h
  · rw[h2]; simp
theorem low8_low (c:UInt8):low8 (low8 c)=low8 c:=by
  have hc:=c.toNat_lt
  by_cases h:65≤c.toNat∧c.toNat≤90
  · have e:(low8 c).toNat=c.toNat + 32:=by
      unfold low8
      rcases lowI_cases c with ⟨_,_,h2⟩ | ⟨h1,_⟩
      · rw[h2,show ((c.toNat:Int) + 32).toNat=c.toNat + 32 by omega,UInt8.toNat_ofNat']
        omega
      · exact absurd h h1
    exact low8_fix (by rw[e]; omega)
  · rw[low8_fix h,low8_fix h]
def LowF (r:Str):Prop:=∀ c∈r,low8 c=c
theorem lowM_fix {r:Str} (h:LowF r):lowM r=r:=by
  rw[lowM_map]
  conv=>rhs; rw[← List.map_id r]
  exact List.map_congr_left h
theorem low_fix (s:Str):LowF (lowM s):=by
  rw[lowM_map]
  intro c hc
  obtain⟨d,_,rfl⟩:=List.mem_map.1 hc
  exact low8_low d
theorem LowF.sfx {r q:Str} (h:LowF r) (hq:q <:+ r):LowF q:=fun c hc=>h c (hq.subset hc)
theorem low_digits {d:Str} (h:∀ c∈d,isP 1 c=true):LowF d:=fun c hc=>low8_fix (by
  have:=h c hc
  simp[isP,isB] at this
  omega)
theorem digB_sfx (r:Str):digB r <:+ r:=List.dropWhile_suffix _
theorem altB_sfx (r:Str):altB r <:+ r:=List.dropWhile_suffix _
theorem v0M_sfx (a:Str):v0M a <:+ a:=by
  unfold v0M
  split
  · exact List.suffix_cons _ _
  · exact List.suffix_rfl
theorem epochM_sfx (r:Str):(epochM r).2 <:+ r:=by
  unfold epochM
  split
  · exact List.suffix_rfl
  · rename_i c q e
    split
    · have:q <:+ digB r:=by rw[e]; exact List.suffix_cons _ _
      exact this.trans (digB_sfx r)
    · exact List.suffix_rfl
theorem relF_sfx:∀ (n:Nat) (r:Str),(relF n r).2 <:+ r
  | 0,_=>List.suffix_rfl
  | n + 1,r=>by
    simp only[relF]
    have h:=digB_sfx r
    split
    · rename_i q e
      rw[e] at h
      split
      · exact (relF_sfx n q).trans ((List.suffix_cons _ _).trans h)
      · exact h
    · exact h
theorem relM_sfx (n:Nat) (r:Str):(relM n r).2.1 <:+ r:=by
  unfold relM
  split
  · exact relF_sfx _ _
  · exact List.suffix_rfl
theorem wordM_sfx (ws:List Str) (r:Str):(wordM ws r).2.2 <:+ r:=by
  unfold wordM
  split
  · exact (List.drop_suffix _ _).trans (List.tail_suffix _)
  · split
    · exact List.drop_suffix _ _
    · exact List.suffix_rfl
theorem numberM_sfx (r:Str):(numberM r).2 <:+ r:=by
  have h:numberQ r <:+ r:=by
    unfold numberQ
    split
    · exact List.tail_suffix _
    · exact List.suffix_rfl
  unfold numberM
  split
  · exact (digB_sfx _).trans h
  · exact h
theorem preM_sfx (r:Str):(preM r).2.2 <:+ r:=by
  unfold preM
  split
  · exact (numberM_sfx _).trans (wordM_sfx _ _)
  · exact wordM_sfx _ _
theorem postM_sfx (r:Str):(postM r).2.2 <:+ r:=by
  unfold postM
  split
  · exact (digB_sfx _).trans (List.tail_suffix _)
  · split
    · exact (numberM_sfx _).trans (wordM_sfx _ _)
    · exact wordM_sfx _ _
theorem devM_sfx (r:Str):(devM r).2.2 <:+ r:=by
  unfold devM
  split
  · exact (numberM_sfx _).trans (wordM_sfx _ _)
  · exact wordM_sfx _ _
theorem dig_alnum {c:UInt8} (h:isP 1 c=true):isP 5 c=true:=by
  simp[isP,isB] at h ⊢
  omega
theorem norm_ok {r:Str} (h:LowF r) (hd:hdP (isP 5) r=true):altB5 (normP (altA r))=true:=by
  have h1:altA r≠[]:=fun q=>by
    have:=(tw_nil (p:=isP 5) (r:=r)).1 q
    rw[hd] at this
    cases this
  have h2:∀ c∈altA r,isP 5 c=true:=tw_all r
  have h3:LowF (altA r):=fun c hc=>h c ((List.takeWhile_prefix _).subset hc)
  unfold normP
  split
  · rename_i hz
    have hz':=run_all_iff.1 hz
    obtain⟨g1,g2,g3⟩:=numB_iff.1 (numB_trim hz')
    unfold altB5
    have e5:runE (isP 5) (trimM (altA r)) 0=(trimM (altA r)).length:=run_all_iff.2 fun c hc=>dig_alnum (g2 c hc)
    rw[e5,lowM_fix (low_digits g2),g3]
    simp[g1]
  · rename_i hz
    unfold altB5
    have e5:runE (isP 5) (altA r) 0=(altA r).length:=run_all_iff.2 h2
    rw[e5,lowM_fix h3]
    simp[h1,hz]
theorem locF_ok:∀ (n:Nat) (r:Str),LowF r→hdP (isP 5) r=true→(locF n r).1.all altB5=true
  | 0,_,_,_=>rfl
  | n + 1,r,h,hd=>by
    simp only[locF]
    split
    · rename_i q
      simp only[Bool.and_eq_true] at q
      simp only[List.all_cons,norm_ok h hd,Bool.true_and]
      exact locF_ok n _ (h.sfx ((List.tail_suffix _).trans (altB_sfx r))) q.2
    · simp[norm_ok h hd]
theorem localM_ok (n:Nat) (r:Str) (h:LowF r):(localM n r).1.all altB5=true:=by
  unfold localM
  split
  · rename_i q
    split
    · rename_i hq
      exact locF_ok _ _ (h.sfx (List.suffix_cons _ _)) hq
    · rfl
  · rfl
theorem parse_fitP {s:Str} (h:(parseP s).2.Err=0):fitP (parseP s).1=true∧(parseP s).2=⟨0,0⟩:=by
  unfold parseP at h ⊢
  split
  · rename_i q; rw[if_pos q] at h; cases h
  · rename_i q
    rw[if_neg q] at h
    have hlow:=((low_fix s).sfx (v0M_sfx _)).sfx (epochM_sfx _)
    have hep:=epochM_num (v0M (lowM s))
    generalize (epochM (v0M (lowM s))).1=ep at h hep
    generalize (epochM (v0M (lowM s))).2=r at h hlow
    unfold bodyM at h ⊢
    simp only[] at h ⊢
    split
    · rename_i e; rw[if_pos e] at h; exact absurd h e
    · rename_i e
      rw[if_neg e] at h
      split
      · rename_i e2; rw[if_pos e2] at h; exact absurd h e2
      · rename_i e2
        rw[if_neg e2] at h
        split
        · rename_i e3; rw[if_pos e3] at h; cases h
        · refine⟨?_,rfl⟩
          have hrel:(relM s.length r).1≠[]∧(relM s.length r).1.all numB=true:=by
            unfold relM at e ⊢
            split
            · rename_i hd
              refine⟨?_,relF_all _ _⟩
              cases r with
              | nil=>cases hd
              | cons c q=>exact relF_ne _ _
            · rename_i hd
              rw[if_neg hd] at e
              exfalso
              apply e
              simp only[mustE,if_neg hd]
              split <;> simp
          obtain⟨p1,p2⟩:=preM_ok (relM s.length r).2.1
          have p3:=postM_ok (preM (relM s.length r).2.1).2.2
          have p4:=devM_ok (postM (preM (relM s.length r).2.1).2.2).2.2
          have p5:=localM_ok s.length (devM (postM (preM (relM s.length r).2.1).2.2).2.2).2.2 ((((hlow.sfx (relM_sfx _ _)).sfx (preM_sfx _)).sfx (postM_sfx _)).sfx (devM_sfx _))
          unfold fitP
          simp only[hep,p1,p2,p3,p4,p5,hrel.2,Bool.and_true,Bool.true_and]
          simp[hrel.1]
end Go.Vm
/- Plain laws of chapter 3: texts, and the order of versions as texts. -/
namespace Go.Vm
open Go
theorem digA_len (r:Str):(digA r).length≤r.length + 1:=by
  have:=trimM_len (r.takeWhile (isP 1))
  have:=(List.takeWhile_prefix (isP 1) (l:=r)).length_le
  unfold digA
  omega
theorem relF_len:∀ (n:Nat) (r:Str),(relF n r).1.length≤n∧∀ x∈(relF n r).1,x.length≤r.length + 1
  | 0,_=>⟨Nat.le_refl _,fun x hx=>by cases hx⟩
  | n + 1,r=>by
    have h:=digA_len r
    have hs:=(digB_sfx r).length_le
    simp only[relF]
    split
    · rename_i q e
      rw[e] at hs
      simp only[List.length_cons] at hs
      obtain⟨h1,h2⟩:=relF_len n q
      split
      · refine⟨by simp; omega,fun x hx=>?_⟩
        rcases List.mem_cons.1 hx with rfl | hx
        · exact h
        · have:=h2 x hx; omega
      · exact⟨by simp,fun x hx=>by simp only[List.mem_singleton] at hx; subst hx; exact h⟩
    · exact⟨by simp,fun x hx=>by simp only[List.mem_singleton] at hx; subst hx; exact h⟩
theorem numberM_len (r:Str):(numberM r).1.length≤r.length + 1:=by
  have h:(numberQ r).length≤r.length:=by
    unfold numberQ
    split
    · simp
    · exact Nat.le_refl _
  unfold numberM
  split
  · have:=digA_len (numberQ r); simp only[]; omega
  · simp
theorem normP_len (p:Str):(normP p).length≤p.length + 1:=by
  unfold normP
  split
  · exact trimM_len p
  · omega
theorem locF_len:∀ (n:Nat) (r:Str),(locF n r).1.length≤n∧∀ x∈(locF n r).1,x.length≤r.length + 1
  | 0,_=>⟨Nat.le_refl _,fun x hx=>by cases hx⟩
  | n + 1,r=>by
    have h:(normP (altA r)).length≤r.length + 1:=by
      have:=normP_len (altA r)
      have:=(List.takeWhile_prefix (isP 5) (l:=r)).length_le
      unfold altA at *
      omega
    simp only[locF]
    split
    · obtain⟨h1,h2⟩:=locF_len n (altB r).tail
      have hs:=((List.tail_suffix _).trans (altB_sfx r)).length_le
      refine⟨by simp; omega,fun x hx=>?_⟩
      rcases List.mem_cons.1 hx with rfl | hx
      · exact h
      · have:=h2 x hx; omega
    · exact⟨by simp,fun x hx=>by simp only[List.mem_singleton] at hx; subst hx; exact h⟩
theorem parse_bigP (s:Str):BigP (parseP s).1:=by
  have hz:BigP zP:=⟨by simp[zP],by simp[zP],by simp[zP],by simp[zP],by simp[zP],by simp[zP],by simp[zP],by simp[zP]⟩
  unfold parseP
  split
  · exact hz
  · rename_i q
    have hr:=((epochM_sfx _).trans (v0M_sfx (lowM s))).length_le
    rw[lowM_len] at hr
    have hep:(epochM (v0M (lowM s))).1.length≤66:=by
      have h1:=(v0M_sfx (lowM s)).length_le
      rw[lowM_len] at h1
      have h2:=digA_len (v0M (lowM s))
      unfold epochM
      split
      · simp
      · split
        · simp only[]; omega
        · simp
    generalize (epochM (v0M (lowM s))).1=ep at hep
    generalize (epochM (v0M (lowM s))).2=r at hr
    unfold bodyM
    simp only[]
    split
    · exact hz
    · split
      · exact hz
      · split
        · exact hz
        · have s1:=(relM_sfx s.length r).length_le
          have s2:=(preM_sfx (relM s.length r).2.1).length_le
          have s3:=(postM_sfx (preM (relM s.length r).2.1).2.2).length_le
          have s4:=(devM_sfx (postM (preM (relM s.length r).2.1).2.2).2.2).length_le
          have hrel:(relM s.length r).1.length≤64∧∀ x∈(relM s.length r).1,x.length≤65:=by
            unfold relM
            split
            · obtain⟨h1,h2⟩:=relF_len r.length r
              exact⟨by simp only[]; omega,fun x hx=>by have:=h2 x hx; omega⟩
            · exact⟨by simp,fun x hx=>by cases hx⟩
          have hloc:∀ z:Str,z.length≤64→(localM s.length z).1.length≤64∧∀ x∈(localM s.length z).1,x.length≤65:=fun z hz=>by
            unfold localM
            split
            · rename_i q
              simp only[List.length_cons] at hz
              split
              · obtain⟨h1,h2⟩:=locF_len q.length q
                exact⟨by simp only[]; omega,fun x hx=>by have:=h2 x hx; omega⟩
              · exact⟨by simp,fun x hx=>by cases hx⟩
            · exact⟨by simp,fun x hx=>by cases hx⟩
          obtain⟨l1,l2⟩:=hloc (devM (postM (preM (relM s.length r).2.1).2.2).2.2).2.2 (by omega)
          refine⟨by simp only[]; omega,?_,?_,?_,by simp only[]; omega,by simp only[]; omega,fun x hx=>by have:=hrel.2 x hx; omega,fun x hx=>by have:=l2 x hx; omega⟩
          · simp only[]
            unfold preM
            split
            · have:=numberM_len (wordM preW (relM s.length r).2.1).2.2
              have:=(wordM_sfx preW (relM s.length r).2.1).length_le
              simp only[]; omega
            · simp
          · simp only[]
            have h0:=digA_len (preM (relM s.length r).2.1).2.2.tail
            have h1:(preM (relM s.length r).2.1).2.2.tail.length≤64:=by rw[List.length_tail]; omega
            have h2:=numberM_len (wordM postW (preM (relM s.length r).2.1).2.2).2.2
            have h3:=(wordM_sfx postW (preM (relM s.length r).2.1).2.2).length_le
            unfold postM
            split
            · simp only[]; omega
            · split
              · simp only[]; omega
              · simp
          · simp only[]
            have h2:=numberM_len (wordM devW (postM (preM (relM s.length r).2.1).2.2).2.2).2.2
            have h3:=(wordM_sfx devW (postM (preM (relM s.length r).2.1).2.2).2.2).length_le
            unfold devM
            split
            · simp only[]; omega
            · simp
theorem pep_Compare_eq (a b:Str):pep_Compare a b=some (compP a b):=by
  unfold pep_Compare compP okPep
  rw[pep_Parse_eq,pep_Parse_eq]
  simp only[Option.bind_some,pep_truth_eq]
  rw[pep_Order_eq _ _ (parse_bigP a) (parse_bigP b)]
  by_cases h1:(parseP a).2.Err=0 <;> by_cases h2:(parseP b).2.Err=0
  · simp only[h1,h2,if_true]
    rw[lexL_one,if_neg (by simp),if_pos ⟨(parse_fitP h1).1,(parse_fitP h2).1⟩]
    rfl
  · simp[h1,h2,lexL,b2i]; decide
  · simp[h1,h2,lexL,b2i]; decide
  · simp[h1,h2,lexL,b2i]; decide
def epT (v:S_api_Pep):Str:=if v.Epoch=[48] then [] else v.Epoch ++ [33]
def preT (v:S_api_Pep):Str:=if v.Pre=97∨v.Pre=98 then ofb [v.Pre] ++ v.PreNum else if v.Pre=114 then [114,99] ++ v.PreNum else []
def postT (v:S_api_Pep):Str:=if v.Post=true then [46,112,111,115,116] ++ v.PostNum else []
def devT (v:S_api_Pep):Str:=if v.Dev=true then [46,100,101,118] ++ v.DevNum else []
def locT (v:S_api_Pep):Str:=if v.Local=[] then [] else 43 :: Lib.join v.Local [46]
def rawP (v:S_api_Pep):Str:=epT v ++ (Lib.join v.Release [46] ++ (preT v ++ (postT v ++ (devT v ++ locT v))))
end Go.Vm
/- Plain laws of chapter 3: texts, and the order of versions as texts. -/
namespace Go.Vm
open Go
theorem joinTail_len:∀ (l:List Str),(∀ x∈l,x.length≤1048576)→(Lib.joinTail [46] l).length≤l.length * 1048577
  | [],_=>by simp[Lib.joinTail]
  | x :: l,h=>by
    have ih:=joinTail_len l fun y hy=>h y (List.mem_cons_of_mem _ hy)
    have hx:=h x List.mem_cons_self
    have e:Lib.joinTail [46] (x :: l)=46 :: x ++ Lib.joinTail [46] l:=by simp[Lib.joinTail]
    rw[e]
    simp only[List.length_append,List.length_cons]
    omega
theorem join_len {l:List Str} (hl:l.length≤1048576) (h:∀ x∈l,x.length≤1048576):(Lib.join l [46]).length≤2199024304128:=by
  cases l with
  | nil=>simp[Lib.join_nil]
  | cons x l=>
    rw[Lib.join_cons]
    have:=joinTail_len l fun y hy=>h y (List.mem_cons_of_mem _ hy)
    have:=h x List.mem_cons_self
    simp only[List.length_append,List.length_cons] at *
    omega
theorem join_ok {l:List Str} (hl:l.length≤1048576) (h:∀ x∈l,x.length≤1048576):strings_Join l [46]=some (Lib.join l [46]):=by
  have:=join_len hl h
  unfold strings_Join
  rw[if_pos ⟨by omega,by omega⟩]
theorem pep_text_eq (v:S_api_Pep) (h:BigP v):pep_text v=some (rawP v):=by
  have h1:=h.e; have h2:=h.p; have h3:=h.o; have h4:=h.d
  have h5:=join_len h.r h.rs
  have h6:=join_len h.l h.ls
  unfold pep_text
  rw[join_ok h.r h.rs,join_ok h.l h.ls]
  simp only[Option.bind_some]
  unfold rawP locT
  generalize Lib.join v.Release [46]=R at h5
  generalize Lib.join v.Local [46]=L at h6
  have c1:(if (!(v.Epoch == [48]))=true then Option.bind (cat v.Epoch [33]) (fun x5=>Option.bind (cat x5 R) (fun x6=>some x6)) else some R:Option Str)=some (epT v ++ R):=by
    unfold epT
    by_cases he:v.Epoch=[48]
    · simp[he]
    · rw[if_pos (by simp[he]),if_neg he,cat_ok (by simp; omega)]
      simp only[Option.bind_some]
      rw[cat_ok (by simp; omega)]
      rfl
  rw[c1]
  simp only[Option.bind_some]
  have e1:(epT v).length≤1048577:=by
    unfold epT
    split
    · simp
    · simp; omega
  have c2:Option.bind ((if (v.Pre == 97)=true then some true else some (v.Pre == 98)):Option (Bool)) (fun x13=>(if x13=true then Option.bind (cat (ofb [v.Pre]) v.PreNum) (fun x14=>Option.bind (cat (epT v ++ R) x14) (fun x15=>some x15)) else (if (v.Pre == 114)=true then Option.bind (cat [114,99] v.PreNum) (fun x16=>Option.bind (cat (epT v ++ R) x16) (fun x17=>some x17)) else some (epT v ++ R))))=some (epT v ++ R ++ preT v):=by
    unfold preT
    have k:(if (v.Pre == 97)=true then some true else some (v.Pre == 98):Option Bool)=some (decide (v.Pre=97∨v.Pre=98)):=by
      by_cases z:v.Pre=97 <;> by_cases z2:v.Pre=98 <;> simp[z,z2]
    rw[k]
    simp only[Option.bind_some,decide_eq_true_eq]
    by_cases z:v.Pre=97∨v.Pre=98
    · rw[if_pos z,if_pos z,cat_ok (by simp[ofb]; omega)]
      simp only[Option.bind_some]
      rw[cat_ok (by simp[ofb]; omega)]
      rfl
    · rw[if_neg z,if_neg z]
      by_cases z2:v.Pre=114
      · rw[if_pos (by simp[z2]),if_pos z2,cat_ok (by simp; omega)]
        simp only[Option.bind_some]
        rw[cat_ok (by simp; omega)]
        rfl
      · rw[if_neg (by simp[z2]),if_neg z2,List.append_nil]
  rw[c2]
  simp only[Option.bind_some]
  have e2:(preT v).length≤1048578:=by
    unfold preT
    split
    · simp[ofb]; omega
    · split <;> simp; omega
  have c3:((if v.Post=true then Option.bind (cat [46,112,111,115,116] v.PostNum) (fun x21=>Option.bind (cat (epT v ++ R ++ preT v) x21) (fun x22=>some x22)) else some (epT v ++ R ++ preT v)):Option (Str))=some (epT v ++ R ++ preT v ++ postT v):=by
    unfold postT
    by_cases z:v.Post=true
    · rw[if_pos z,if_pos z,cat_ok (by simp; omega)]
      simp only[Option.bind_some]
      rw[cat_ok (by simp; omega)]
      rfl
    · rw[if_neg z,if_neg z,List.append_nil]
  rw[c3]
  simp only[Option.bind_some]
  have e3:(postT v).length≤1048581:=by
    unfold postT
    split
    · simp; omega
    · simp
  have c4:((if v.Dev=true then Option.bind (cat [46,100,101,118] v.DevNum) (fun x26=>Option.bind (cat (epT v ++ R ++ preT v ++ postT v) x26) (fun x27=>some x27)) else some (epT v ++ R ++ preT v ++ postT v)):Option (Str))=some (epT v ++ R ++ preT v ++ postT v ++ devT v):=by
    unfold devT
    by_cases z:v.Dev=true
    · rw[if_pos z,if_pos z,cat_ok (by simp; omega)]
      simp only[Option.bind_some]
      rw[cat_ok (by simp; omega)]
      rfl
    · rw[if_neg z,if_neg z,List.append_nil]
  rw[c4]
  simp only[Option.bind_some]
  have e4:(devT v).length≤1048580:=by
    unfold devT
    split
    · simp; omega
    · simp
  by_cases z:v.Local=[]
  · rw[if_neg (by simp[z]),if_pos z]
    simp only[Option.bind_some,List.append_nil,List.append_assoc]
  · rw[if_pos (by have:=List.length_pos_iff.2 z; simp; omega),if_neg z,cat_ok (by simp; omega)]
    simp only[Option.bind_some]
    rw[cat_ok (by simp; omega)]
    simp only[Option.bind_some,List.append_assoc,List.singleton_append]
theorem pep_Text_eq (v:S_api_Pep) (h:BigP v):pep_Text v=some (if fitP v=true then rawP v else []):=by
  unfold pep_Text
  rw[pep_Fit_eq v h,pep_text_eq v h]
  cases fitP v <;> rfl
def normM (s:Str):Str:=if (parseP s).2.Err=0 then rawP (parseP s).1 else []
theorem pep_Normal_eq (s:Str):pep_Normal s=some (normM s):=by
  unfold pep_Normal normM
  rw[pep_Parse_eq]
  simp only[Option.bind_some]
  rw[pep_Text_eq _ (parse_bigP s)]
  by_cases h:(parseP s).2.Err=0
  · rw[if_neg (by simp[h]),if_pos h]
    simp only[Option.bind_some]
    rw[if_pos (parse_fitP h).1]
  · rw[if_pos (by simp[h]),if_neg h]
theorem awake03:law03_awake=some true:=by
  unfold law03_awake
  simp only[pep_Parse_eq,pep_Normal_eq,pep_Compare_eq,Option.bind_some]
  decide +kernel
end Go.Vm
/- Plain laws of chapter 3: what is written and read, and the row of versions. -/
namespace Go.Vm
open Go
theorem ref03_number_eq (d:Str) (hd:d.length≤1048576):ref03_number d=some (numB d):=by
  unfold ref03_number
  rw[ref01_Run_eq _ _ _ (by omega),ref01_Trim_eq d (by omega)]
  have e0:runM d 0 1=(runE (isP 1) d 0:Int):=by unfold runM; rw[if_neg (by omega)]; rfl
  rw[e0]
  simp only[Option.bind_some]
  unfold numB
  have e:((runE (isP 1) d 0:Int) == (d.length:Int))=(runE (isP 1) d 0 == d.length):=by
    rw[Bool.eq_iff_iff]; simp; omega
  rw[e]
  cases (d == []) <;> cases (runE (isP 1) d 0 == d.length) <;> rfl
theorem ref03_asked_eq (b:Bool) (d:Str) (hd:d.length≤1048576):ref03_asked b d=some (askB b d):=by
  unfold ref03_asked askB
  rw[ref03_number_eq d hd]
  cases b <;> rfl
theorem ref03_part_eq (p:Str) (hp:p.length≤1048576):ref03_part p=some (altB5 p):=by
  unfold ref03_part altB5
  rw[ref01_Run_eq _ _ _ (by omega),ref01_Run_eq _ _ _ (by omega),ref01_Trim_eq p (by omega),ref01_Lower_eq p (by omega)]
  have e0:∀ k,runM p 0 k=(runE (isP k) p 0:Int):=fun k=>by unfold runM; rw[if_neg (by omega)]; rfl
  rw[e0,e0]
  simp only[Option.bind_some]
  rw[show ofb ((p.map fun c:UInt8=>(c.toNat:Int)).map lowI)=lowM p from rfl]
  have e:∀ k,((runE (isP k) p 0:Int) != (p.length:Int)) = !(runE (isP k) p 0 == p.length):=fun k=>by
    rw[bne,Bool.not_inj_iff,Bool.eq_iff_iff]; simp; omega
  rw[e,e]
  cases (p == []) <;> cases (runE (isP 5) p 0 == p.length) <;> cases (lowM p == p) <;> cases (runE (isP 1) p 0 == p.length) <;> cases (trimM p == p) <;> rfl
theorem all_loop {α:Type} {l:List α} {p:α→Bool} {f:Int→Option (Step Int (Unit ⊕ Unit))} (h1:∀ (i:Nat) (h:i < l.length),f (i:Int)=if p l[i]=true then some (.next ((i + 1:Nat):Int)) else some (.done (.inl ()))) (h2:f (l.length:Int)=some (.done (.inr ()))) :
    loopC f 0=some (if l.all p=true then .inr () else .inl ()):=by
  have:=loopC_fun (f:=f) (fun x:Int=>∃ i:Nat,x=i∧i≤l.length) (fun x:Int=>l.length - x.toNat) (fun x=>if (l.drop x.toNat).all p=true then .inr () else .inl ()) (fun x hx=>by
    obtain⟨i,rfl,hi⟩:=hx
    simp only[Int.toNat_natCast]
    rcases Nat.lt_or_ge i l.length with h | h
    · have e:(l.drop i).all p=(p l[i] && (l.drop (i + 1)).all p):=by rw[List.drop_eq_getElem_cons h,List.all_cons]
      cases hp:p l[i] with
      | true=>
        right
        exact⟨_,by rw[h1 i h,if_pos hp],⟨i + 1,rfl,h⟩,by simp only[Int.toNat_natCast]; omega,by simp only[Int.toNat_natCast,e,hp,Bool.true_and]⟩
      | false=>
        left
        rw[h1 i h,if_neg (by simp[hp])]
        simp only[e,hp,Bool.false_and,Bool.false_eq_true,if_false]
    · have:i=l.length:=by omega
      subst this
      left
      rw[h2]
      simp) (x:=0) ⟨0,rfl,Nat.zero_le _⟩
  simpa using this
theorem ref03_Fit_eq (v:S_api_Pep) (h:BigP v):ref03_Fit v=some (fitP v):=by
  have hr:=h.r
  have hl:=h.l
  unfold ref03_Fit fitP
  rw[all_loop (l:=v.Release) (p:=numB) (fun i hi=>by
    unfold ref03_Fit_l1
    rw[if_pos (by simp; omega),ixl_nat hi]
    simp only[Option.bind_some]
    rw[ref03_number_eq _ (h.rs _ (List.getElem_mem hi)),w64_id (by omega) (by omega)]
    simp only[Option.bind_some]
    cases numB v.Release[i] <;> rfl) (by
    unfold ref03_Fit_l1
    rw[if_neg (by simp)]),all_loop (l:=v.Local) (p:=altB5) (fun i hi=>by
    unfold ref03_Fit_l2
    rw[if_pos (by simp; omega),ixl_nat hi]
    simp only[Option.bind_some]
    rw[ref03_part_eq _ (h.ls _ (List.getElem_mem hi)),w64_id (by omega) (by omega)]
    simp only[Option.bind_some]
    cases altB5 v.Local[i] <;> rfl) (by
    unfold ref03_Fit_l2
    rw[if_neg (by simp)]),ref03_number_eq _ h.e,ref03_asked_eq _ _ h.p,ref03_asked_eq _ _ h.o,ref03_asked_eq _ _ h.d]
  simp only[Option.bind_some]
  have e2:((v.Release.length:Int) == 0)=(v.Release == []):=by
    cases v.Release <;> simp <;> omega
  rw[e2]
  have e3:((((v.Pre != 0) && (v.Pre != 97)) && (v.Pre != 98)) && (v.Pre != 114)) = !((v.Pre == 0) || preB v.Pre):=by
    unfold preB bne
    cases (v.Pre == 0) <;> cases (v.Pre == 97) <;> cases (v.Pre == 98) <;> cases (v.Pre == 114) <;> rfl
  rw[e3]
  cases hz:((v.Pre == 0) || preB v.Pre) with
  | false=>cases numB v.Epoch <;> cases (v.Release == []) <;> rfl
  | true=>
    have e4:(v.Pre != 0)=preB v.Pre:=by
      unfold preB at hz ⊢
      by_cases z:v.Pre=0
      · rw[z]; rfl
      · have:(v.Pre == 0)=false:=by simpa using z
        rw[this,Bool.false_or] at hz
        rw[hz,bne,this]; rfl
    rw[e4]
    cases numB v.Epoch <;> cases (v.Release == []) <;> cases v.Release.all numB <;> cases v.Local.all altB5 <;> cases askB (preB v.Pre) v.PreNum <;> cases askB v.Post v.PostNum <;> cases askB v.Dev v.DevNum <;> rfl
def sepG (c:UInt8) (l:List Str) (s:Str) (i:Nat):Str:=s ++ (if i=0 then (match l with | []=>[] | x :: r=>(if c=46 then x else c :: x) ++ Lib.joinTail [46] r) else Lib.joinTail [46] (l.drop i))
theorem jt_cons (x:Str) (l:List Str):Lib.joinTail [46] (x :: l)=46 :: (x ++ Lib.joinTail [46] l):=by simp[Lib.joinTail]
theorem sep_loop {c:UInt8} {l:List Str} {f:Str × Int→Option (Step (Str × Int) Str)}
    (h1:∀ (s:Str) (i:Nat) (h:i < l.length),s.length + l[i].length + 1≤9223372036854775807→f (s,(i:Int))=some (.next (s ++ ((if i=0 then (if c=46 then [] else [c]) else [46]) ++ l[i]),((i + 1:Nat):Int)))) (h2:∀ s,f (s,(l.length:Int))=some (.done s)) {s:Str} (hb:(sepG c l s 0).length≤9223372036854775000) :
    loopC f (s,0)=some (sepG c l s 0):=by
  have:=loopC_fun (f:=f) (fun x=>∃ i:Nat,x.2=i∧i≤l.length∧(sepG c l x.1 i).length≤9223372036854775000) (fun x=>l.length - x.2.toNat) (fun x=>sepG c l x.1 x.2.toNat) (fun x hx=>by
    obtain⟨s,z⟩:=x
    obtain⟨i,rfl,hi,hs⟩:=hx
    simp only[Int.toNat_natCast] at hs ⊢
    rcases Nat.lt_or_ge i l.length with h | h
    · right
      have key:sepG c l (s ++ ((if i=0 then (if c=46 then [] else [c]) else [46]) ++ l[i])) (i + 1)=sepG c l s i:=by
        unfold sepG
        rw[if_neg (show ¬ (i + 1=0) by omega)]
        by_cases h0:i=0
        · subst h0
          cases l with
          | nil=>simp at h
          | cons x r=>
            simp only[if_true,List.getElem_cons_zero,List.drop_succ_cons,List.drop_zero]
            by_cases hc:c=46 <;> simp[hc]
        · rw[if_neg h0,if_neg h0,List.drop_eq_getElem_cons h,jt_cons]
          simp
      have hlen:s.length + l[i].length + 1≤9223372036854775807:=by
        have e:=congrArg List.length key
        unfold sepG at e hs
        simp only[List.length_append] at e hs
        omega
      refine⟨_,h1 s i h hlen,⟨i + 1,rfl,h,?_⟩,by simp only[Int.toNat_natCast]; omega,?_⟩
      · simp only[key]; exact hs
      · simp only[Int.toNat_natCast,key]
    · have:i=l.length:=by omega
      subst this
      left
      rw[h2]
      unfold sepG
      cases l with
      | nil=>simp
      | cons x r=>simp[Lib.joinTail]) (x:=(s,0)) ⟨0,rfl,Nat.zero_le _,hb⟩
  simpa using this
theorem sep46 (l:List Str) (s:Str):sepG 46 l s 0=s ++ Lib.join l [46]:=by
  unfold sepG
  cases l with
  | nil=>rw[Lib.join_nil]; rfl
  | cons x r=>rw[Lib.join_cons]; rfl
theorem sep43 (l:List Str) (s:Str):sepG 43 l s 0=s ++ (if l=[] then [] else 43 :: Lib.join l [46]):=by
  unfold sepG
  cases l with
  | nil=>rfl
  | cons x r=>rw[Lib.join_cons]; rfl
theorem ref03_raw_eq (v:S_api_Pep) (h:BigP v):ref03_raw v=some (rawP v):=by
  have h1:=h.e; have h2:=h.p; have h3:=h.o; have h4:=h.d
  have h5:=join_len h.r h.rs
  have h6:=join_len h.l h.ls
  have hr:=h.r
  have hl:=h.l
  unfold ref03_raw
  have c0:(if (!(v.Epoch == [48]))=true then Option.bind (cat v.Epoch [33]) (fun x3=>some x3) else some []:Option Str)=some (epT v):=by
    unfold epT
    by_cases he:v.Epoch=[48]
    · simp[he]
    · rw[if_pos (by simp[he]),if_neg he,cat_ok (by simp; omega)]
      rfl
  rw[c0]
  simp only[Option.bind_some]
  have e1:(epT v).length≤1048577:=by
    unfold epT
    split
    · simp
    · simp; omega
  have l1:loopC (ref03_raw_l1 v) (epT v,0)=some (epT v ++ Lib.join v.Release [46]):=by
    rw[← sep46]
    refine sep_loop (fun s i hi hs=>?_) (fun s=>?_) (by rw[sep46]; simp only[List.length_append]; omega)
    · unfold ref03_raw_l1
      simp only[]
      rw[if_pos (by simp; omega),ixl_nat hi,w64_id (by omega) (by omega)]
      by_cases h0:i=0
      · subst h0
        rw[if_neg (by simp)]
        simp only[Option.bind_some]
        rw[cat_ok (by omega)]
        rfl
      · rw[if_pos (by simp; omega),cat_ok (by simp; omega)]
        simp only[Option.bind_some]
        rw[cat_ok (by simp; omega)]
        simp[h0]
    · unfold ref03_raw_l1
      simp only[]
      rw[if_neg (by simp)]
  rw[l1]
  simp only[Option.bind_some]
  unfold rawP
  generalize hR:Lib.join v.Release [46]=R at h5
  have c2:Option.bind ((if (v.Pre == 97)=true then some true else some (v.Pre == 98)):Option (Bool)) (fun x26=>(if x26=true then Option.bind (cat (epT v ++ R) (ofb [v.Pre])) (fun x27=>Option.bind (cat x27 v.PreNum) (fun x28=>some x28)) else (if (v.Pre == 114)=true then Option.bind (cat (epT v ++ R) [114,99]) (fun x29=>Option.bind (cat x29 v.PreNum) (fun x30=>some x30)) else some (epT v ++ R))))=some (epT v ++ R ++ preT v):=by
    unfold preT
    have k:(if (v.Pre == 97)=true then some true else some (v.Pre == 98):Option Bool)=some (decide (v.Pre=97∨v.Pre=98)):=by
      by_cases z:v.Pre=97 <;> by_cases z2:v.Pre=98 <;> simp[z,z2]
    rw[k]
    simp only[Option.bind_some,decide_eq_true_eq]
    by_cases z:v.Pre=97∨v.Pre=98
    · rw[if_pos z,if_pos z,cat_ok (by simp[ofb]; omega)]
      simp only[Option.bind_some]
      rw[cat_ok (by simp[ofb]; omega)]
      simp
    · rw[if_neg z,if_neg z]
      by_cases z2:v.Pre=114
      · rw[if_pos (by simp[z2]),if_pos z2,cat_ok (by simp; omega)]
        simp only[Option.bind_some]
        rw[cat_ok (by simp; omega)]
        simp
      · rw[if_neg (by simp[z2]),if_neg z2,List.append_nil]
  rw[c2]
  simp only[Option.bind_some]
  have e2:(preT v).length≤1048578:=by
    unfold preT
    split
    · simp[ofb]; omega
    · split <;> simp; omega
  have c3:((if v.Post=true then Option.bind (cat (epT v ++ R ++ preT v) [46,112,111,115,116]) (fun x34=>Option.bind (cat x34 v.PostNum) (fun x35=>some x35)) else some (epT v ++ R ++ preT v)):Option (Str))=some (epT v ++ R ++ preT v ++ postT v):=by
    unfold postT
    by_cases z:v.Post=true
    · rw[if_pos z,if_pos z,cat_ok (by simp; omega)]
      simp only[Option.bind_some]
      rw[cat_ok (by simp; omega)]
      simp
    · rw[if_neg z,if_neg z,List.append_nil]
  rw[c3]
  simp only[Option.bind_some]
  have e3:(postT v).length≤1048581:=by
    unfold postT
    split
    · simp; omega
    · simp
  have c4:((if v.Dev=true then Option.bind (cat (epT v ++ R ++ preT v ++ postT v) [46,100,101,118]) (fun x39=>Option.bind (cat x39 v.DevNum) (fun x40=>some x40)) else some (epT v ++ R ++ preT v ++ postT v)):Option (Str))=some (epT v ++ R ++ preT v ++ postT v ++ devT v):=by
    unfold devT
    by_cases z:v.Dev=true
    · rw[if_pos z,if_pos z,cat_ok (by simp; omega)]
      simp only[Option.bind_some]
      rw[cat_ok (by simp; omega)]
      simp
    · rw[if_neg z,if_neg z,List.append_nil]
  rw[c4]
  simp only[Option.bind_some]
  have e4:(devT v).length≤1048580:=by
    unfold devT
    split
    · simp; omega
    · simp
  have l2:loopC (ref03_raw_l2 v) (epT v ++ R ++ preT v ++ postT v ++ devT v,0)=some (epT v ++ R ++ preT v ++ postT v ++ devT v ++ locT v):=by
    unfold locT
    rw[← sep43]
    refine sep_loop (fun s i hi hs=>?_) (fun s=>?_) (by
      rw[sep43]
      split
      · simp only[List.length_append,List.length_nil]; omega
      · simp only[List.length_append,List.length_cons]; omega)
    · unfold ref03_raw_l2
      simp only[]
      rw[if_pos (by simp; omega),ixl_nat hi,w64_id (by omega) (by omega)]
      by_cases h0:i=0
      · subst h0
        rw[if_pos (by simp),cat_ok (by simp; omega)]
        simp only[Option.bind_some]
        rw[cat_ok (by simp; omega)]
        simp
      · rw[if_neg (by simp; omega),cat_ok (by simp; omega)]
        simp only[Option.bind_some]
        rw[cat_ok (by simp; omega)]
        simp[h0]
    · unfold ref03_raw_l2
      simp only[]
      rw[if_neg (by simp)]
  rw[l2]
  simp only[Option.bind_some,List.append_assoc]
theorem ref03_Same_refl (v:S_api_Pep) (h:BigP v):ref03_Same v v=some true:=by
  have hr:=h.r
  have hl:=h.l
  unfold ref03_Same
  rw[all_loop (l:=v.Release) (p:=fun _=>true) (fun i hi=>by
    unfold ref03_Same_l1
    rw[if_pos (by simp; omega),ixl_nat hi,w64_id (by omega) (by omega)]
    simp) (by
    unfold ref03_Same_l1
    rw[if_neg (by simp)]),all_loop (l:=v.Local) (p:=fun _=>true) (fun i hi=>by
    unfold ref03_Same_l2
    rw[if_pos (by simp; omega),ixl_nat hi,w64_id (by omega) (by omega)]
    simp) (by
    unfold ref03_Same_l2
    rw[if_neg (by simp)])]
  simp
end Go.Vm
/- Plain laws of chapter 3: the order as the document tells it, and PepDoes. -/
namespace Go.Vm
open Go
theorem rowR_congr {m m':Str} {c:Str→Str→Int} (h1:∀ y,c m y=c m' y):∀ b,rowR m c b=rowR m' c b
  | []=>rfl
  | y :: b=>by simp only[rowR,h1,rowR_congr h1 b]
theorem rowL_congr {m m':Str} {c:Str→Str→Int} (h1:∀ y,c m y=c m' y) (h2:∀ x,c x m=c x m'):∀ a b,rowL m c a b=rowL m' c a b
  | [],b=>by simp only[rowL,rowR_congr h1 b]
  | x :: a,[]=>by simp only[rowL,h2,rowL_congr h1 h2 a []]
  | x :: a,y :: b=>by simp only[rowL,rowL_congr h1 h2 a b]
theorem trim_48:trimM [48]=trimM []:=by decide +kernel
theorem rowL_48 (a b:List Str):rowL [] cmpM a b=rowL [48] cmpM a b:=rowL_congr (fun y=>by simp only[cmpM,trim_48]) (fun x=>by simp only[cmpM,trim_48]) a b
theorem orI (a b:List Str) (i:Nat):((decide ((i:Int) < (List.length a:Int))) || (decide ((i:Int) < (List.length b:Int))))=decide (i < a.length∨i < b.length):=by
  rw[Bool.eq_iff_iff]; simp
theorem ref03_release_eq (a b:List Str) (ha:a.length≤1048576) (hb:b.length≤1048576) (hsa:∀ x∈a,x.length≤1048576) (hsb:∀ x∈b,x.length≤1048576):ref03_release a b=some (rowL [48] cmpM a b):=by
  rw[← rowL_48]
  unfold ref03_release
  rw[row_loop (m:=[]) (c:=cmpM) (a:=a) (b:=b) (fun i hi=>by
    unfold ref03_release_l1
    rw[orI,if_pos (by simpa using hi),getI,getI]
    simp only[Option.bind_some]
    rw[ref01_Cmp_eq _ _ (by have:=getD_big hsa (m:=[]) (by simp) i; omega) (by have:=getD_big hsb (m:=[]) (by simp) i; omega)]
    simp only[Option.bind_some]
    rw[w64_id (by omega) (by omega)]
    generalize a.getD i []=u
    generalize b.getD i []=v
    by_cases z:cmpM u v=0
    · rw[if_neg (by simp[z]),if_neg (by simp[z])]; rfl
    · rw[if_pos (by simp[z]),if_pos z]) (fun i h1 h2=>by
    unfold ref03_release_l1
    rw[orI,if_neg (by simp; omega)])]
  by_cases z:rowL [] cmpM a b=0 <;> simp[z]
theorem ref03_ints_eq (a b:Int):ref03_ints a b=some (cmpI a b):=by
  unfold ref03_ints cmpI
  by_cases h1:a < b
  · simp[h1]
  · by_cases h2:b < a <;> simp[h1,h2]
theorem ref03_rank_eq (b:Bool):ref03_rank b=some (b2i b):=by cases b <;> rfl
theorem ref03_class_eq (v:S_api_Pep) (h:fitP v=true):ref03_class v=some (stageM v):=by
  have hp:v.Pre=0∨v.Pre=97∨v.Pre=98∨v.Pre=114:=by
    unfold fitP at h
    simp only[Bool.and_eq_true] at h
    have:=h.1.1.1.1.1.2
    unfold preB at this
    simpa[or_assoc] using this
  unfold ref03_class stageM
  rcases hp with e | e | e | e <;> rw[e] <;> cases v.Dev <;> cases v.Post <;> rfl
def bothV (c:Str→Str→Int):List Str→List Str→Int ⊕ Unit
  | x :: a,y :: b=>if c x y≠0 then .inl (c x y) else bothV c a b
  | _,_=>.inr ()
theorem bothV_lex {c:Str→Str→Int}:∀ a b:List Str,(match bothV c a b with | .inl z=>z | .inr _=>cmpI (a.length:Int) (b.length:Int))=lexL c a b
  | [],[]=>rfl
  | [],y :: b=>by simp[bothV,lexL,cmpI] <;> omega
  | x :: a,[]=>by simp[bothV,lexL,cmpI] <;> omega
  | x :: a,y :: b=>by
    have ih:=bothV_lex (c:=c) a b
    by_cases z:c x y≠0
    · simp only[bothV,lexL,if_pos z]
    · simp only[bothV,lexL,if_neg z,← ih,List.length_cons]
      split
      · rfl
      · have e1:(((a.length + 1:Nat):Int) < ((b.length + 1:Nat):Int))↔((a.length:Int) < b.length):=by omega
        have e2:(((b.length + 1:Nat):Int) < ((a.length + 1:Nat):Int))↔((b.length:Int) < a.length):=by omega
        simp only[cmpI,e1,e2]
theorem both_loop {c:Str→Str→Int} {a b:List Str} {f:Int→Option (Step Int (Int ⊕ Unit))} (h1:∀ (i:Nat) (h:i < a.length) (h':i < b.length),f (i:Int)=if c a[i] b[i]≠0 then some (.done (.inl (c a[i] b[i]))) else some (.next ((i + 1:Nat):Int))) (h2:∀ i:Nat,(a.length≤i∨b.length≤i)→f (i:Int)=some (.done (.inr ()))) :
    loopC f 0=some (bothV c a b):=by
  have:=loopC_fun (f:=f) (fun x:Int=>∃ i:Nat,x=i) (fun x:Int=>a.length - x.toNat) (fun x=>bothV c (a.drop x.toNat) (b.drop x.toNat)) (fun x hx=>by
    obtain⟨i,rfl⟩:=hx
    simp only[Int.toNat_natCast]
    by_cases h:i < a.length∧i < b.length
    · rw[h1 i h.1 h.2,List.drop_eq_getElem_cons h.1,List.drop_eq_getElem_cons h.2]
      by_cases z:c a[i] b[i]≠0
      · left
        simp only[bothV,if_pos z]
      · right
        rw[if_neg z]
        exact⟨_,rfl,⟨i + 1,rfl⟩,by simp only[Int.toNat_natCast]; omega,by simp only[Int.toNat_natCast,bothV,if_neg z]⟩
    · left
      rw[h2 i (by omega)]
      have:bothV c (a.drop i) (b.drop i) = .inr ():=by
        rcases Nat.lt_or_ge i a.length with h3 | h3
        · rw[List.drop_eq_nil_of_le (show b.length≤i by omega)]
          cases a.drop i <;> rfl
        · rw[List.drop_eq_nil_of_le h3]
          rfl
      rw[this]) (x:=0) ⟨0,rfl⟩
  simpa using this
theorem kindP_pos {x:Str} (h:x≠[]):kindP x=1 + b2i (digP x):=by
  unfold kindP
  rw[if_neg h]
  cases digP x <;> rfl
theorem lpM_nil {x:Str} (h:x≠[]):lpM x []=1∧lpM [] x = -1:=by
  have e0:kindP []=0:=rfl
  unfold lpM lex2
  simp only[kindP_pos h,e0]
  cases digP x <;> exact⟨rfl,rfl⟩
theorem rowR_one:∀ (b:List Str),b≠[]→(∀ x∈b,x≠[])→rowR [] lpM b = -1
  | y :: b,_,h=>by
    have:=(lpM_nil (h y List.mem_cons_self)).2
    simp only[rowR,this]; rfl
theorem rowL_lex:∀ (a b:List Str),(∀ x∈a,x≠[])→(∀ x∈b,x≠[])→rowL [] lpM a b=lexL lpM a b
  | [],[],_,_=>rfl
  | [],y :: b,_,h=>by
    have:=rowR_one (y :: b) (by simp) h
    simp only[rowL,lexL,this]
  | x :: a,[],h,_=>by
    have:=(lpM_nil (h x List.mem_cons_self)).1
    simp only[rowL,lexL,this]; rfl
  | x :: a,y :: b,h,h'=>by
    simp only[rowL,lexL,rowL_lex a b (fun z hz=>h z (List.mem_cons_of_mem _ hz)) fun z hz=>h' z (List.mem_cons_of_mem _ hz)]
theorem andI (a b:List Str) (i:Nat):((decide ((i:Int) < (List.length a:Int))) && (decide ((i:Int) < (List.length b:Int))))=decide (i < a.length∧i < b.length):=by
  rw[Bool.eq_iff_iff]; simp
theorem dig_of {x:Str} (h:x≠[]):((runE (isP 1) x 0:Int) == (x.length:Int))=digP x:=by
  unfold digP
  rw[Bool.eq_iff_iff]
  simp[h]; omega
theorem lpM_eq {x y:Str} (hx:x≠[]) (hy:y≠[]):lpM x y=if cmpI (b2i (digP x)) (b2i (digP y))≠0 then cmpI (b2i (digP x)) (b2i (digP y)) else if digP x=true then cmpM x y else Lib.compareBytes x y:=by
  unfold lpM lex2 kd kn
  simp only[kindP_pos hx,kindP_pos hy]
  cases digP x <;> cases digP y <;> simp[cmpI,b2i,lexL_one,lexL] <;> (try (intro h; exact h.symm))
theorem ref03_locals_eq (a b:List Str) (ha:a.length≤1048576) (hb:b.length≤1048576) (hsa:∀ x∈a,x.length≤1048576) (hsb:∀ x∈b,x.length≤1048576) (na:∀ x∈a,x≠[]) (nb:∀ x∈b,x≠[]):ref03_locals a b=some (rowL [] lpM a b):=by
  rw[rowL_lex a b na nb,← bothV_lex]
  unfold ref03_locals
  rw[both_loop (c:=lpM) (a:=a) (b:=b) (fun i h h'=>by
    unfold ref03_locals_l1
    rw[andI,if_pos (by simp[h,h']),ixl_nat h,ixl_nat h']
    have e1:=hsa _ (List.getElem_mem h)
    have e2:=hsb _ (List.getElem_mem h')
    have n1:=na _ (List.getElem_mem h)
    have n2:=nb _ (List.getElem_mem h')
    generalize a[i]=x at e1 n1 ⊢
    generalize b[i]=y at e2 n2 ⊢
    simp only[Option.bind_some]
    have r1:runM x 0 1=(runE (isP 1) x 0:Int):=by unfold runM; rw[if_neg (by omega)]; rfl
    have r2:runM y 0 1=(runE (isP 1) y 0:Int):=by unfold runM; rw[if_neg (by omega)]; rfl
    rw[ref01_Run_eq _ _ _ (by omega),ref01_Run_eq _ _ _ (by omega),r1,r2]
    simp only[Option.bind_some,dig_of n1,dig_of n2,ref03_rank_eq,ref03_ints_eq]
    rw[ref01_Cmp_eq _ _ (by omega) (by omega),ref01_Texts_eq,lpM_eq n1 n2,w64_id (by omega) (by omega)]
    generalize cmpI (b2i (digP x)) (b2i (digP y))=k
    simp only[Option.bind_some]
    by_cases z:k=0
    · subst z
      cases digP x with
      | true=>
        by_cases z2:cmpM x y=0 <;> simp[z2]
      | false=>
        by_cases z2:Lib.compareBytes x y=0 <;> simp[z2]
    · simp[z]) (fun i h=>by
    unfold ref03_locals_l1
    rw[andI,if_neg (by simp; omega)])]
  simp only[Option.bind_some,ref03_ints_eq]
  cases bothV lpM a b <;> rfl
theorem find_loop {l:List Int} {f:Int→Option (Step Int (Int ⊕ Unit))} (h1:∀ (i:Nat) (h:i < l.length),f (i:Int)=if (l[i] != 0)=true then some (.done (.inl l[i])) else some (.next ((i + 1:Nat):Int))) (h2:f (l.length:Int)=some (.done (.inr ()))) :
    loopC f 0=some (match l.find? (· != 0) with | some z=>.inl z | none=>.inr ()):=by
  have:=loopC_fun (f:=f) (fun x:Int=>∃ i:Nat,x=i∧i≤l.length) (fun x:Int=>l.length - x.toNat) (fun x=>match (l.drop x.toNat).find? (· != 0) with | some z=>.inl z | none=>.inr ()) (fun x hx=>by
    obtain⟨i,rfl,hi⟩:=hx
    simp only[Int.toNat_natCast]
    rcases Nat.lt_or_ge i l.length with h | h
    · rw[List.drop_eq_getElem_cons h,h1 i h,List.find?_cons]
      cases hp:(l[i] != 0) with
      | true=>left; simp
      | false=>
        right
        exact⟨_,by simp,⟨i + 1,rfl,h⟩,by simp only[Int.toNat_natCast]; omega,by simp only[Int.toNat_natCast]⟩
    · have:i=l.length:=by omega
      subst this
      left
      rw[h2]
      simp) (x:=0) ⟨0,rfl,Nat.zero_le _⟩
  simpa using this
theorem find_getD (l:List Int):(match (match l.find? (· != 0) with | some z=>Sum.inl z | none=>Sum.inr ():Int ⊕ Unit) with | .inl z=>some z | .inr _=>some 0)=some ((l.find? (· != 0)).getD 0):=by
  cases l.find? (· != 0) <;> rfl
theorem nots (a b:Bool):cmpI (b2i (!a)) (b2i (!b))=cmpI (-b2i a) (-b2i b):=by cases a <;> cases b <;> decide
theorem alt_ne {x:Str} (h:altB5 x=true):x≠[]:=by
  rintro rfl
  simp[altB5] at h
theorem ref03_Order_eq (a b:S_api_Pep) (ha:BigP a) (hb:BigP b):ref03_Order a b=some (if fitP a=true∧fitP b=true then ordP a b else 0):=by
  unfold ref03_Order
  rw[ref03_Fit_eq a ha,ref03_Fit_eq b hb]
  cases h1:fitP a with
  | false=>simp
  | true=>
    cases h2:fitP b with
    | false=>simp
    | true=>
      have ae:=ha.e; have ap:=ha.p; have ao:=ha.o; have ad:=ha.d
      have be:=hb.e; have bp:=hb.p; have bo:=hb.o; have bd:=hb.d
      have la:∀ x∈a.Local,x≠[]:=fun x hx=>by
        unfold fitP at h1
        simp only[Bool.and_eq_true] at h1
        exact alt_ne (List.all_eq_true.1 h1.2 x hx)
      have lb:∀ x∈b.Local,x≠[]:=fun x hx=>by
        unfold fitP at h2
        simp only[Bool.and_eq_true] at h2
        exact alt_ne (List.all_eq_true.1 h2.2 x hx)
      simp only[Option.bind_some,Bool.not_true,Bool.false_eq_true,if_false,ref03_class_eq a h1,ref03_class_eq b h2,ref03_ints_eq,ref03_rank_eq]
      rw[ref01_Cmp_eq _ _ (by omega) (by omega),ref01_Cmp_eq _ _ (by omega) (by omega),ref01_Cmp_eq _ _ (by omega) (by omega),ref01_Cmp_eq _ _ (by omega) (by omega),ref03_release_eq _ _ ha.r hb.r ha.rs hb.rs,ref03_locals_eq _ _ ha.l hb.l ha.ls hb.ls la lb]
      simp only[Option.bind_some]
      rw[find_loop (l:=[cmpM a.Epoch b.Epoch,rowL [48] cmpM a.Release b.Release,cmpI (stageM a) (stageM b),cmpM a.PreNum b.PreNum,cmpI (b2i a.Post) (b2i b.Post),cmpM a.PostNum b.PostNum,cmpI (b2i (!a.Dev)) (b2i (!b.Dev)),cmpM a.DevNum b.DevNum,rowL [] lpM a.Local b.Local]) (fun i h=>by
        unfold ref03_Order_l1
        rw[if_pos (by simp only[decide_eq_true_eq]; omega),ixl_nat h,w64_id (by simp at h; omega) (by simp at h; omega)]
        rfl) (by
        unfold ref03_Order_l1
        rw[if_neg (by simp)])]
      simp only[Option.bind_some]
      refine (find_getD _).trans ?_
      simp only[find_c,find_1,nots]
      simp[ordP,lex2]
end Go.Vm
/- Plain laws of chapter 3: the document's reader reads the same. -/
namespace Go.Vm
open Go
def hdIs (k:UInt8):Str→Bool
  | []=>false
  | c :: _=>c == k
theorem w64_z (i:Nat) (h:i≤100):w64 ((i:Int) + 0)=(i:Int):=by rw[w64_id (by omega) (by omega)]; omega
theorem w64_o (i:Nat) (h:i≤100):w64 ((i:Int) + 1)=((i + 1:Nat):Int):=by rw[w64_id (by omega) (by omega)]; rfl
theorem dash_hd (r:Str):dashD r=(hdIs 45 r && hdP (isP 1) r.tail):=by
  cases r with
  | nil=>rfl
  | cons c q=>
    by_cases hc:c=45
    · subst hc; rfl
    · have:(c == 45)=false:=by simp[hc]
      simp only[hdIs,this,Bool.false_and]
      unfold dashD
      split
      · rename_i e; cases e; exact absurd rfl hc
      · rfl
theorem hdIs_true {k:UInt8} {r:Str} (h:hdIs k r=true):∃ q,r=k :: q:=by
  cases r with
  | nil=>cases h
  | cons c q=>exact⟨q,by rw[eq_of_beq h]⟩
theorem stM_word {r:Str}:∀ (ws:List Str) (b:Str × Bool),(b.2=true→stM r 0 b.1=true)→(ws.foldl (wordS r 0) b).2=true→stM r 0 (ws.foldl (wordS r 0) b).1=true
  | [],b,hb,h=>hb h
  | w :: ws,b,hb,h=>by
    simp only[List.foldl_cons] at h ⊢
    refine stM_word ws _ ?_ h
    unfold wordS
    split
    · rename_i q
      intro _
      simp only[Bool.and_eq_true] at q
      exact q.1
    · exact hb
def wordy (ws:List Str):Bool:=ws.all fun w=>match w with
  | []=>false
  | c :: _=>!markP c
theorem word_mark {ws:List Str} (hw:wordy ws=true) {r:Str} (hm:mkd r=true):(wordR ws r).2=false:=by
  cases h:(wordR ws r).2 with
  | false=>rfl
  | true=>
    exfalso
    have h1:=(wordR_mem h).1
    have h2:stM r 0 (wordR ws r).1=true:=stM_word ws ([],false) (fun q=>by cases q) h
    have h3:=List.all_eq_true.1 hw _ h1
    cases r with
    | nil=>cases hm
    | cons c q=>
      generalize (wordR ws (c :: q)).1=w at h2 h3
      cases w with
      | nil=>cases h3
      | cons d w=>
        unfold stM at h2
        simp only[Bool.and_eq_true,beq_iff_eq] at h2
        have:=h2.2
        simp at this
        have e:mkd (c :: q)=markP c:=rfl
        rw[e] at hm
        simp only at h3
        rw[← this.1,hm] at h3
        cases h3
theorem wordR_no {ws:List Str} {r:Str} (h:(wordR ws r).2=false):(wordR ws r).1=[]:=by
  have key:∀ (l:List Str) (b:Str × Bool),(b.2=false→b.1=[])→(l.foldl (wordS r 0) b).2=false→(l.foldl (wordS r 0) b).1=[]:=by
    intro l
    induction l with
    | nil=>exact fun b hb h=>hb h
    | cons w l ih=>
      intro b hb h
      simp only[List.foldl_cons] at h ⊢
      refine ih _ ?_ h
      unfold wordS
      split
      · intro q; cases q
      · exact hb
  exact key ws _ (fun _=>rfl) h
section
variable {a:Str} (ha:a.length≤64)
include ha
theorem head_is {i:Nat} {r:Str} (h:Suf a i r) (k:UInt8) (z:Int) (hz:(k.toNat:Int)=z):(if (decide ((i:Int) < (List.length a:Int)))=true then Option.bind (idx a (i:Int)) (fun x=>some (x == z)) else some false:Option Bool)=some (hdIs k r):=by
  subst hz
  cases r with
  | nil=>rw[h.nil]; simp[hdIs]
  | cons c q=>
    obtain⟨h1,h2,_⟩:=h.cons
    rw[if_pos (by simp; omega),h2]
    simp only[Option.bind_some]
    rw[u8c_beq c k]
    rfl
theorem rrun {i:Nat} {r:Str} (h:Suf a i r) (k:Int):ref01_Run a i k=some (runE (isP k) a i:Int):=by
  rw[ref01_Run_eq _ _ _ (by omega)]
  unfold runM
  have:=h.1
  rw[if_neg (by omega),Int.toNat_natCast]
theorem rbyte0 {i:Nat} {r:Str} (h:Suf a i r) (e f k:Int):ref03_reader_byteIs_s52fb a i e f 0 k=some (hdP (isP k) r):=by
  unfold ref03_reader_byteIs_s52fb
  have hi:=h.1
  rw[w64_z i (by omega)]
  cases r with
  | nil=>rw[h.nil]; simp[hdP]
  | cons c q=>
    obtain⟨h1,h2,_⟩:=h.cons
    rw[if_pos (by simp; omega),h2]
    simp only[Option.bind_some,ref01_Is_eq]
    rfl
theorem rbyte1 {i:Nat} {r:Str} (h:Suf a i r) (e f k:Int):ref03_reader_byteIs_s52fb a i e f 1 k=some (hdP (isP k) r.tail):=by
  unfold ref03_reader_byteIs_s52fb
  have hi:=h.1
  rw[w64_o i (by omega)]
  cases r with
  | nil=>have:=h.nil; rw[if_neg (by simp; omega)]; rfl
  | cons c q=>
    obtain⟨_,_,h3⟩:=h.cons
    cases q with
    | nil=>have:=h3.nil; rw[if_neg (by simp; omega)]; rfl
    | cons d q=>
      obtain⟨h1,h2,_⟩:=h3.cons
      rw[if_pos (by simp; omega),h2]
      simp only[Option.bind_some,ref01_Is_eq]
      rfl
theorem rmark0 {i:Nat} {r:Str} (h:Suf a i r) (e f:Int):ref03_reader_markAt_sb17f a i e f 0=some (mkd r):=by
  unfold ref03_reader_markAt_sb17f
  have hi:=h.1
  rw[w64_z i (by omega)]
  cases r with
  | nil=>rw[h.nil]; simp[mkd]
  | cons c q=>
    obtain⟨h1,h2,_⟩:=h.cons
    rw[if_pos (by simp; omega),h2]
    simp only[Option.bind_some]
    have:ref03_mark (c.toNat:Int)=some (markP c):=pep_mark_eq c
    rw[this]
    rfl
theorem rdigits {i:Nat} {r:Str} (h:Suf a i r) (e f:Int):∃ j:Nat,ref03_reader_digits a i e f=some (digA r,(j:Int))∧Suf a j (digB r):=by
  obtain⟨h1,h2,_⟩:=h.run (isP 1)
  refine⟨runE (isP 1) a i,?_,h1⟩
  unfold ref03_reader_digits
  rw[rrun ha h]
  simp only[Option.bind_some,h2]
  rw[ref01_Trim_eq]
  · rfl
  · have:=(List.takeWhile_prefix (isP 1) (l:=r)).length_le
    have:=h.pos
    omega
theorem rnumber {i:Nat} {r:Str} (h:Suf a i r) (e f:Int):∃ j:Nat,ref03_reader_number a i e f=some ((numberM r).1,(j:Int))∧Suf a j (numberM r).2:=by
  have hi:=h.1
  unfold ref03_reader_number numberM
  rw[rmark0 ha h,rbyte1 ha h]
  simp only[Option.bind_some]
  have key:∃ j:Nat,Option.bind (if mkd r=true then some (hdP (isP 1) r.tail) else some false:Option Bool) (fun x16=>(if x16=true then some (w64 ((i:Int) + 1)) else some (i:Int)))=some (j:Int)∧Suf a j (numberQ r):=by
    unfold numberQ
    rw[w64_o i (by omega)]
    cases hm:mkd r with
    | false=>exact⟨i,rfl,h⟩
    | true=>
      obtain⟨c,q,rfl⟩:∃ c q,r=c :: q:=by
        cases r with
        | nil=>cases hm
        | cons c q=>exact⟨c,q,rfl⟩
      obtain⟨_,_,h3⟩:=h.cons
      simp only[if_true,Bool.true_and,List.tail_cons,Option.bind_some]
      cases hdP (isP 1) q with
      | true=>exact⟨i + 1,rfl,h3⟩
      | false=>exact⟨i,rfl,h⟩
  obtain⟨j,k1,k2⟩:=key
  rw[k1]
  simp only[Option.bind_some]
  rw[rbyte0 ha k2]
  simp only[Option.bind_some]
  cases hd:hdP (isP 1) (numberQ r) with
  | true=>
    obtain⟨j2,g1,g2⟩:=rdigits ha k2 e f
    refine⟨j2,?_,g2⟩
    simp only[Bool.not_true,Bool.false_eq_true,if_false]
    rw[g1]
    rfl
  | false=>exact⟨j,rfl,k2⟩
theorem rwordS {i:Nat} {r:Str} (h:Suf a i r) {ws:List Str} (hw:ws.length≤100):ref01_Word a i ws=some (wordR ws r):=by
  rw[ref01_Word_eq _ _ _ (by omega) (by omega),foldl_suf h]
  rfl
theorem rword {i:Nat} {r:Str} (h:Suf a i r) (e f:Int) {ws:List Str} (hw:ws.length≤100) (hy:wordy ws=true):∃ j:Nat,ref03_reader_word a i e f ws=some ((wordM ws r).1,(wordM ws r).2.1,(j:Int))∧Suf a j (wordM ws r).2.2:=by
  have hi:=h.1
  unfold ref03_reader_word wordM
  rw[rmark0 ha h]
  simp only[Option.bind_some]
  cases hm:mkd r with
  | false=>
    simp only[Bool.false_eq_true,if_false,Bool.false_and,Option.bind_some]
    rw[w64_z i (by omega),rwordS ha h hw]
    simp only[Option.bind_some]
    cases hz:(wordR ws r).2 with
    | true=>
      obtain⟨_,h2⟩:=wordR_mem hz
      have:=h.pos
      refine⟨i + (wordR ws r).1.length,?_,h.drop h2⟩
      simp only[if_true,Option.bind_some]
      rw[w64_id (by omega) (by omega)]
      rfl
    | false=>
      refine⟨i,?_,h⟩
      rw[wordR_no hz]
      rfl
  | true=>
    obtain⟨c,q,rfl⟩:∃ c q,r=c :: q:=by
      cases r with
      | nil=>cases hm
      | cons c q=>exact⟨c,q,rfl⟩
    obtain⟨h1,h2,h3⟩:=h.cons
    simp only[if_true,Bool.true_and,List.tail_cons,Option.bind_some]
    rw[w64_o i (by omega),rwordS ha h3 hw]
    simp only[Option.bind_some]
    cases hz:(wordR ws q).2 with
    | true=>
      obtain⟨_,h4⟩:=wordR_mem hz
      have:=h3.pos
      refine⟨i + 1 + (wordR ws q).1.length,?_,h3.drop h4⟩
      simp only[if_true,Option.bind_some]
      rw[w64_id (by omega) (by omega)]
      rfl
    | false=>
      refine⟨i,?_,?_⟩
      · rw[wordR_no hz,word_mark hy hm]
        rfl
      · rw[word_mark hy hm]
        exact h
theorem rfail {i:Nat} {r:Str} (h:Suf a i r):ref03_reader_fail a i 0 0=some (if r=[] then 11 else 10,(i:Int)):=by
  unfold ref03_reader_fail
  have:=h.pos
  by_cases hr:r=[]
  · subst hr
    have:=h.nil
    simp[this]
  · have:0 < r.length:=List.length_pos_iff.2 hr
    have:¬ ((a.length:Int)≤(i:Int)):=by omega
    simp[hr,this]
theorem rfail_must {i:Nat} {r:Str} (h:Suf a i r) {k:Int} (hd:hdP (isP k) r=false):ref03_reader_fail a i 0 0=some (mustE a.length k r):=by
  rw[rfail ha h]
  unfold mustE
  rw[hd,h.posR]
  by_cases hr:r=[] <;> simp[hr]
def tailF (n:Nat):Str→List Str × Str
  | 46 :: q=>if hdP (isP 1) q=true then relF n q else ([],46 :: q)
  | q=>([],q)
omit ha in
theorem relF_tail (n:Nat) (r:Str):relF (n + 1) r=(digA r :: (tailF n (digB r)).1,(tailF n (digB r)).2):=by
  simp only[relF]
  split
  · rename_i q hq
    rw[hq]
    simp only[tailF]
    split <;> rfl
  · rename_i q hq
    unfold tailF
    split
    · rename_i q2 e
      exact absurd e (hq q2)
    · rfl
omit ha in
theorem tailF_no {n:Nat} {z:Str} (h:(hdIs 46 z && hdP (isP 1) z.tail)=false):tailF n z=([],z):=by
  unfold tailF
  split
  · rename_i q
    have:hdP (isP 1) q=false:=by simpa[hdIs] using h
    rw[if_neg (by simp[this])]
  · rfl
theorem rrel_step {j:Nat} {z:Str} (h:Suf a j z) (acc:List Str):Option.bind (if (decide ((j:Int) < (List.length a:Int)))=true then Option.bind (idx a j) (fun x48=>some (x48 == 46)) else some false:Option (Bool)) (fun x47=>Option.bind (if x47=true then Option.bind (ref03_reader_byteIs_s52fb a j 0 0 1 1) (fun x51=>some x51) else some false:Option (Bool)) (fun x50=>some x50))=some (hdIs 46 z && hdP (isP 1) z.tail):=by
  rw[head_is ha h 46 46 rfl,rbyte1 ha h]
  simp only[Option.bind_some]
  cases hdIs 46 z <;> rfl
theorem rrel_loop:∀ (n:Nat) (j:Nat) (z:Str) (acc:List Str),z.length≤n→Suf a j z→acc.length≤j→∃ j2:Nat,loopC (ref03_Parse_l1 a) ((j:Int),acc)=some ((j2:Int),acc ++ (tailF n z).1)∧Suf a j2 (tailF n z).2
  | n,j,z,acc,hn,h,hacc=>by
    have hj:=h.1
    have hcond:=rrel_step ha h acc
    have hstep:ref03_Parse_l1 a ((j:Int),acc)=if (hdIs 46 z && hdP (isP 1) z.tail)=true then Option.bind (ref03_reader_digits a (w64 ((j:Int) + 1)) 0 0) (fun (x52,x53)=>Option.bind (app 16 acc [x52]) (fun x54=>some (Step.next (x53,x54)))) else some (Step.done ((j:Int),acc)):=by
      unfold ref03_Parse_l1
      simp only[]
      rw[head_is ha h 46 46 rfl,rbyte1 ha h]
      simp only[Option.bind_some]
      cases hdIs 46 z with
      | false=>rfl
      | true=>
        simp only[if_true,Option.bind_some,Bool.true_and]
    cases hc:(hdIs 46 z && hdP (isP 1) z.tail) with
    | false=>
      rw[hc] at hstep
      refine⟨j,?_,?_⟩
      · rw[loopC_done hstep,tailF_no hc,List.append_nil]
      · rw[tailF_no hc]; exact h
    | true=>
      rw[hc] at hstep
      simp only[Bool.and_eq_true] at hc
      obtain⟨q,rfl⟩:=hdIs_true hc.1
      obtain⟨_,_,h3⟩:=h.cons
      have hq:=hc.2
      simp only[List.tail_cons] at hq
      obtain⟨j1,g1,g2⟩:=rdigits ha h3 0 0
      have hlt:=digB_lt hq
      have hj1:j + 1 < j1:=by have:=h3.pos; have:=g2.pos; omega
      have hj2:=g2.1
      simp only[List.length_cons] at hn
      cases n with
      | zero=>omega
      | succ n=>
        obtain⟨j2,k1,k2⟩:=rrel_loop n j1 (digB q) (acc ++ [digA q]) (by omega) g2 (by simp; omega)
        have e1:tailF (n + 1) (46 :: q)=relF (n + 1) q:=by simp only[tailF,hq,if_true]
        rw[e1,relF_tail]
        refine⟨j2,?_,k2⟩
        rw[loopC_next (y:=((j1:Int),acc ++ [digA q])),k1]
        · simp only[List.append_assoc,List.singleton_append]
        · rw[hstep,if_pos rfl,w64_o j (by omega),g1]
          simp only[Option.bind_some]
          rw[app_ok (by simp; omega) (by simp; omega)]
          rfl
theorem rloc_loop:∀ (n:Nat) (i:Nat) (r:Str) (acc:List Str),r.length≤n→Suf a i r→hdP (isP 5) r=true→acc.length≤i→∃ j:Nat,loopC (ref03_reader_local_l1 a 0 0) ((i:Int),acc)=some (acc ++ (locF n r).1,(j:Int),0,0)∧Suf a j (locF n r).2
  | 0,i,r,acc,hn,h,hd,hacc=>by
    have:r=[]:=List.length_eq_zero_iff.1 (by omega)
    subst this
    cases hd
  | n + 1,i,r,acc,hn,h,hd,hacc=>by
    obtain⟨g2,g1,g3⟩:=h.run (isP 5)
    change Suf a (runE (isP 5) a i) (altB r) at g2
    have hrun:=rrun ha h 5
    generalize runE (isP 5) a i=j at g2 g1 g3 hrun
    change subl a i (j:Int)=some (altA r) at g1
    have hlt:=altB_lt hd
    have hij:i < j:=by have:=h.pos; have:=g2.pos; omega
    have hjl:j≤a.length:=g2.1
    have hpl:(altA r).length≤64:=by
      have:=(List.takeWhile_prefix (isP 5) (l:=r)).length_le
      have:=h.pos
      unfold altA
      omega
    have hnorm:Option.bind (ref01_Run (altA r) 0 1) (fun x72=>(if (x72 == (List.length (altA r):Int))=true then Option.bind (ref01_Trim (altA r)) (fun x73=>some x73) else some (altA r)))=some (normP (altA r)):=by
      have:=rrun hpl (Suf.start (altA r)) 1
      rw[show ((0:Nat):Int)=0 from rfl] at this
      rw[this]
      simp only[Option.bind_some]
      unfold normP
      by_cases hz:runE (isP 1) (altA r) 0=(altA r).length
      · rw[if_pos (by simp[hz]),if_pos hz,ref01_Trim_eq _ (by omega)]
        rfl
      · rw[if_neg (by simp; omega),if_neg hz]
    have hstep:ref03_reader_local_l1 a 0 0 ((i:Int),acc)=(if (mkd (altB r) && hdP (isP 5) (altB r).tail)=true then some (Step.next (((j + 1:Nat):Int),acc ++ [normP (altA r)])) else some (Step.done (acc ++ [normP (altA r)],(j:Int),(0:Int),(0:Int))):Option (Step (Int × List Str) (List Str × Int × Int × Int))):=by
      unfold ref03_reader_local_l1
      simp only[]
      rw[hrun]
      simp only[Option.bind_some]
      rw[if_neg (by simp; omega),g1]
      simp only[Option.bind_some]
      rw[hnorm]
      simp only[Option.bind_some]
      rw[app_ok (by simp; omega) (by simp; omega)]
      simp only[Option.bind_some]
      rw[rmark0 ha g2,rbyte1 ha g2,w64_o j (by omega)]
      simp only[Option.bind_some]
      cases mkd (altB r) with
      | false=>rfl
      | true=>
        cases hdP (isP 5) (altB r).tail <;> rfl
    cases hc:(mkd (altB r) && hdP (isP 5) (altB r).tail) with
    | false=>
      rw[hc] at hstep
      refine⟨j,?_,?_⟩
      · rw[loopC_done hstep]
        simp only[locF,hc]
        rfl
      · simp only[locF,hc]
        exact g2
    | true=>
      rw[hc] at hstep
      simp only[Bool.and_eq_true] at hc
      obtain⟨c,q,hz⟩:∃ c q,altB r=c :: q:=by
        cases hp:altB r with
        | nil=>rw[hp] at hc; cases hc.1
        | cons c q=>exact⟨c,q,rfl⟩
      rw[hz] at g2 hlt
      simp only[List.length_cons] at hlt
      obtain⟨e1,e2,e3⟩:=g2.cons
      rw[hz,List.tail_cons] at hc
      obtain⟨j2,k1,k2⟩:=rloc_loop n (j + 1) q (acc ++ [normP (altA r)]) (by omega) e3 hc.2 (by simp; omega)
      refine⟨j2,?_,?_⟩
      · rw[loopC_next hstep,k1]
        simp only[locF,hz,List.tail_cons,hc.1,hc.2,Bool.and_self,if_true,List.append_assoc,List.singleton_append]
      · simp only[locF,hz,List.tail_cons,hc.1,hc.2,Bool.and_self,if_true]
        exact k2
theorem rlocal {i:Nat} {r:Str} (h:Suf a i r):∃ j:Nat,Option.bind (if (decide ((i:Int) < (List.length a:Int)))=true then Option.bind (idx a i) (fun x116=>some (x116 == 43)) else some false:Option (Bool)) (fun x115=>(if x115=true then Option.bind (ref03_reader_local a i 0 0) (fun (x117,x118,x119,x120)=>some (x118,x119,x120,x117)) else some ((i:Int),0,0,[])))=some ((j:Int),(localM a.length r).2.2.1,(localM a.length r).2.2.2,(localM a.length r).1)∧Suf a j (localM a.length r).2.1:=by
  have hi:=h.1
  rw[head_is ha h 43 43 rfl]
  simp only[Option.bind_some]
  cases hh:hdIs 43 r with
  | false=>
    have e9:localM a.length r=([],r,(0,0)):=by
      unfold localM
      split
      · cases hh
      · rfl
    rw[e9]
    exact⟨i,rfl,h⟩
  | true=>
    obtain⟨q,rfl⟩:=hdIs_true hh
    obtain⟨_,_,h3⟩:=h.cons
    have e9:localM a.length (43 :: q)=if hdP (isP 5) q=true then ((locF q.length q).1,(locF q.length q).2,(0,0)) else ([],q,mustE a.length 5 q):=rfl
    rw[e9]
    simp only[if_true]
    unfold ref03_reader_local
    rw[w64_o i (by omega)]
    cases hd:hdP (isP 5) q with
    | true=>
      obtain⟨j,g1,g2⟩:=rloc_loop ha q.length (i + 1) q [] (Nat.le_refl _) h3 hd (Nat.zero_le _)
      refine⟨j,?_,g2⟩
      rw[g1]
      rfl
    | false=>
      refine⟨i + 1,?_,h3⟩
      have hr:runE (isP 5) a (i + 1)=i + 1:=by
        obtain⟨k1,_,_⟩:=h3.run (isP 5)
        have h4:q.dropWhile (isP 5)=q:=by
          have:=List.takeWhile_append_dropWhile (p:=isP 5) (l:=q)
          rw[tw_nil.2 hd] at this
          exact this
        rw[h4] at k1
        exact k1.eq h3
      have:ref03_reader_local_l1 a 0 0 (((i + 1:Nat):Int),[])=some (.done ([],((i + 1:Nat):Int),mustE a.length 5 q)):=by
        unfold ref03_reader_local_l1
        simp only[]
        rw[rrun ha h3,hr]
        simp only[Option.bind_some]
        rw[if_pos (by simp),rfail_must ha h3 hd]
        rfl
      rw[loopC_done this]
      rfl
end
theorem rletter {w:Str} (h:w∈preW):ref03_letter w=some (preOf w):=by
  simp only[preW,List.mem_cons,List.not_mem_nil,or_false] at h
  rcases h with rfl | rfl | rfl | rfl | rfl | rfl | rfl | rfl <;> decide
theorem run_zero {a:Str} {i:Nat} {r:Str} (h:Suf a i r):hdP (isP 1) r=false↔runE (isP 1) a i=i:=by
  obtain⟨h1,h2,h3⟩:=h.run (isP 1)
  generalize runE (isP 1) a i=e at h1 h2 h3
  rw[← tw_nil]
  constructor
  · intro q
    have h4:r.dropWhile (isP 1)=r:=by
      have:=List.takeWhile_append_dropWhile (p:=isP 1) (l:=r)
      rw[q] at this
      exact this
    rw[h4] at h1
    exact (h1.eq h)
  · intro q
    subst q
    have h5:r.dropWhile (isP 1)=r:=h1.2.symm.trans h.2
    have:=List.takeWhile_append_dropWhile (p:=isP 1) (l:=r)
    rw[h5] at this
    have:=congrArg List.length this
    simp only[List.length_append] at this
    exact List.length_eq_zero_iff.1 (by omega)
theorem ref03_Parse_eq (s:Str):ref03_Parse s=some (parseP s):=by
  unfold ref03_Parse parseP
  by_cases hs:s.length≤64
  · rw[if_neg (by simp; omega),if_neg (by omega),ref01_Lower_eq s (by omega)]
    simp only[Option.bind_some]
    rw[show ofb ((s.map fun c:UInt8=>(c.toNat:Int)).map lowI)=lowM s from rfl]
    have hl:(lowM s).length≤64:=by rw[lowM_len]; exact hs
    have hn:s.length=(lowM s).length:=(lowM_len s).symm
    rw[hn]
    generalize lowM s=a at hl
    have hv:∃ i:Nat,Option.bind (if (decide (0 < (List.length a:Int)))=true then Option.bind (idx a 0) (fun x7=>some (x7 == 118)) else some false:Option (Bool)) (fun x6=>(if x6=true then some (w64 (0 + 1)) else some 0))=some (i:Int)∧Suf a i (v0M a):=by
      have:=head_is hl (Suf.start a) 118 118 rfl
      rw[show ((0:Nat):Int)=0 from rfl] at this
      rw[this]
      simp only[Option.bind_some]
      cases hh:hdIs 118 a with
      | true=>
        obtain⟨q,rfl⟩:=hdIs_true hh
        exact⟨1,rfl,(Suf.start (118 :: q)).cons.2.2⟩
      | false=>
        have e9:v0M a=a:=by
          unfold v0M
          split
          · cases hh
          · rfl
        rw[e9]
        exact⟨0,rfl,Suf.start _⟩
    obtain⟨i0,e0,s0⟩:=hv
    rw[e0]
    simp only[Option.bind_some]
    rw[rrun hl s0]
    simp only[Option.bind_some]
    generalize v0M a=r0 at s0
    have hE:∃ j:Nat,Option.bind (Option.bind (if ((decide ((runE (isP 1) a i0:Int) > (i0:Int))) && (decide ((runE (isP 1) a i0:Int) < (List.length a:Int))))=true then Option.bind (idx a (runE (isP 1) a i0:Int)) (fun x17=>some (x17 == 33)) else some false:Option (Bool)) (fun x16=>(if x16=true then Option.bind (ref03_reader_digits a i0 0 0) (fun (x18,x19)=>some ((w64 (x19 + 1)),x18)) else some ((i0:Int),[48]))):Option (Int × Str)) (fun z=>some z)=some ((j:Int),(epochM r0).1)∧Suf a j (epochM r0).2:=by
      obtain⟨h1,h2,h3⟩:=s0.run (isP 1)
      change Suf a _ (digB r0) at h1
      have hd:=run_zero s0
      generalize runE (isP 1) a i0=e at h1 h2 h3 hd
      have hle:=h1.1
      have hcond:(if ((decide ((e:Int) > (i0:Int))) && (decide ((e:Int) < (List.length a:Int))))=true then Option.bind (idx a (e:Int)) (fun x17=>some (x17 == 33)) else some false:Option (Bool))=some (hdP (isP 1) r0 && hdIs 33 (digB r0)):=by
        have:=head_is hl h1 33 33 rfl
        cases hh:hdP (isP 1) r0 with
        | false=>
          rw[hd.1 hh]
          simp
        | true=>
          have hne:(i0:Int) < (e:Int):=by
            have:e≠i0:=fun q=>by rw[hd.2 q] at hh; cases hh
            omega
          rw[Bool.true_and,← this]
          rw[show (decide ((e:Int) > (i0:Int)))=true from decide_eq_true hne,Bool.true_and]
      rw[hcond]
      simp only[Option.bind_some]
      unfold epochM
      cases hc:(hdP (isP 1) r0 && hdIs 33 (digB r0)) with
      | true=>
        simp only[Bool.and_eq_true] at hc
        obtain⟨q,hq⟩:=hdIs_true hc.2
        obtain⟨j,g1,g2⟩:=rdigits hl s0 0 0
        have hj:=g2.1
        simp only[hq,hc.1,and_self,if_true]
        rw[hq] at g2
        refine⟨j + 1,?_,g2.cons.2.2⟩
        rw[g1]
        simp only[Option.bind_some]
        rw[w64_o j (by omega)]
      | false=>
        refine⟨i0,?_,?_⟩
        · cases hq:digB r0 with
          | nil=>rfl
          | cons c q=>
            simp only
            have e:(if hdP (isP 1) r0=true∧c=33 then (digA r0,q) else ([48],r0))=([48],r0):=if_neg (fun z=>by rw[z.1,hq,z.2] at hc; simp[hdIs] at hc)
            rw[e]
            rfl
        · cases hq:digB r0 with
          | nil=>exact s0
          | cons c q=>
            simp only
            have e:(if hdP (isP 1) r0=true∧c=33 then (digA r0,q) else ([48],r0))=([48],r0):=if_neg (fun z=>by rw[z.1,hq,z.2] at hc; simp[hdIs] at hc)
            rw[e]
            exact s0
    obtain⟨i1,e1,s1⟩:=hE
    rw[show (∀ (x:Option (Int × Str)),Option.bind x (fun z=>some z)=x) from fun x=>by cases x <;> rfl] at e1
    rw[e1]
    simp only[Option.bind_some]
    generalize (epochM r0).1=ep
    generalize (epochM r0).2=r at s1
    rw[rbyte0 hl s1]
    simp only[Option.bind_some]
    unfold bodyM
    simp only[]
    cases hdr:hdP (isP 1) r with
    | false=>
      simp only[Bool.not_false,if_true]
      rw[rfail_must hl s1 hdr]
      have hm:=mustE_cases a.length 1 r
      have hne:(mustE a.length 1 r).1≠0:=by
        unfold mustE
        rw[hdr]
        by_cases hr:r=[] <;> simp[hr]
      have hR:relM a.length r=([],r,mustE a.length 1 r):=by unfold relM; rw[hdr]; rfl
      rw[hR,if_pos hne]
      rfl
    | true=>
      simp only[Bool.not_true,Bool.false_eq_true,if_false]
      obtain⟨i2,e2,s2⟩:=rdigits hl s1 0 0
      rw[e2]
      simp only[Option.bind_some]
      rw[app_ok (by simp) (by simp)]
      simp only[Option.bind_some,List.nil_append]
      have hlt:=digB_lt hdr
      have hrp:=s1.pos
      have h2p:=s2.pos
      obtain⟨i3,e3,s3⟩:=rrel_loop hl (r.length - 1) i2 (digB r) [digA r] (by omega) s2 (by simp; omega)
      rw[e3]
      simp only[Option.bind_some]
      have hR:relM a.length r=([digA r] ++ (tailF (r.length - 1) (digB r)).1,(tailF (r.length - 1) (digB r)).2,(0,0)):=by
        unfold relM
        rw[hdr,if_pos rfl]
        have:r.length=(r.length - 1) + 1:=by omega
        rw[this,relF_tail]
        rfl
      rw[hR]
      simp only[ne_eq,not_true_eq_false,if_false]
      generalize [digA r] ++ (tailF (r.length - 1) (digB r)).1=rel
      generalize (tailF (r.length - 1) (digB r)).2=r2 at s3
      obtain⟨i4,e4,s4⟩:=rword hl s3 0 0 (ws:=preW) (by decide) (by decide)
      rw[show ([[97,108,112,104,97],[97],[98,101,116,97],[98],[112,114,101,118,105,101,119],[112,114,101],[99],[114,99]]:List Str)=preW from rfl,e4]
      simp only[Option.bind_some]
      have hp:∃ j:Nat,(if (wordM preW r2).2.1=true then Option.bind (ref03_letter (wordM preW r2).1) (fun x64=>Option.bind (ref03_reader_number a i4 0 0) (fun (x65,x66)=>some (x66,x64,x65))) else some ((i4:Int),0,[]):Option (Int × Int × Str))=some ((j:Int),(preM r2).1,(preM r2).2.1)∧Suf a j (preM r2).2.2:=by
        unfold preM
        cases hz:(wordM preW r2).2.1 with
        | true=>
          obtain⟨i5,e5,s5⟩:=rnumber hl s4 0 0
          refine⟨i5,?_,s5⟩
          simp only[if_true]
          rw[rletter (wordM_mem hz),e5]
          rfl
        | false=>exact⟨i4,rfl,s4⟩
      obtain⟨i5,e5,s5⟩:=hp
      rw[e5]
      simp only[Option.bind_some]
      have hi5:=s5.1
      have ho:∃ j:Nat,Option.bind (if (decide ((i5:Int) < (List.length a:Int)))=true then Option.bind (idx a i5) (fun x83=>some (x83 == 45)) else some false:Option (Bool)) (fun x82=>Option.bind (if x82=true then Option.bind (ref03_reader_byteIs_s52fb a i5 0 0 1 1) (fun x86=>some x86) else some false:Option (Bool)) (fun x85=>(if x85=true then Option.bind (ref03_reader_digits a (w64 ((i5:Int) + 1)) 0 0) (fun (x87,x88)=>some (x88,true,x87)) else Option.bind (ref03_reader_word a i5 0 0 postW) (fun (x89,x90,x91)=>(if x90=true then Option.bind (ref03_reader_number a x91 0 0) (fun (x92,x93)=>some (x93,true,x92)) else some (x91,false,[]))))))=some ((j:Int),(postM (preM r2).2.2).1,(postM (preM r2).2.2).2.1)∧Suf a j (postM (preM r2).2.2).2.2:=by
        generalize (preM r2).2.2=r3 at s5
        rw[head_is hl s5 45 45 rfl,rbyte1 hl s5]
        simp only[Option.bind_some]
        have hc:(if hdIs 45 r3=true then some (hdP (isP 1) r3.tail) else some false:Option Bool)=some (dashD r3):=by
          rw[dash_hd]
          cases hdIs 45 r3 <;> rfl
        rw[hc]
        simp only[Option.bind_some]
        unfold postM
        cases hd:dashD r3 with
        | true=>
          rw[dash_hd] at hd
          simp only[Bool.and_eq_true] at hd
          obtain⟨q,rfl⟩:=hdIs_true hd.1
          obtain⟨_,_,h3⟩:=s5.cons
          obtain⟨j,g1,g2⟩:=rdigits hl h3 0 0
          refine⟨j,?_,g2⟩
          simp only[if_true,List.tail_cons]
          rw[w64_o i5 (by omega),g1]
          rfl
        | false=>
          obtain⟨j,g1,g2⟩:=rword hl s5 0 0 (ws:=postW) (by decide) (by decide)
          simp only[Bool.false_eq_true,if_false]
          rw[g1]
          simp only[Option.bind_some]
          cases hz:(wordM postW r3).2.1 with
          | true=>
            obtain⟨j2,k1,k2⟩:=rnumber hl g2 0 0
            refine⟨j2,?_,k2⟩
            simp only[if_true]
            rw[k1]
            rfl
          | false=>exact⟨j,rfl,g2⟩
      obtain⟨i6,e6,s6⟩:=ho
      rw[show ([[112,111,115,116],[114,101,118],[114]]:List Str)=postW from rfl,e6]
      simp only[Option.bind_some]
      obtain⟨i7,e7,s7⟩:=rword hl s6 0 0 (ws:=devW) (by decide) (by decide)
      rw[show ([[100,101,118]]:List Str)=devW from rfl,e7]
      simp only[Option.bind_some]
      have hd:∃ j:Nat,(if (wordM devW (postM (preM r2).2.2).2.2).2.1=true then Option.bind (ref03_reader_number a i7 0 0) (fun (x102,x103)=>some (x103,true,x102)) else some ((i7:Int),false,[]):Option (Int × Bool × Str))=some ((j:Int),(devM (postM (preM r2).2.2).2.2).1,(devM (postM (preM r2).2.2).2.2).2.1)∧Suf a j (devM (postM (preM r2).2.2).2.2).2.2:=by
        unfold devM
        cases hz:(wordM devW (postM (preM r2).2.2).2.2).2.1 with
        | true=>
          obtain⟨i8,e8,s8⟩:=rnumber hl s7 0 0
          refine⟨i8,?_,s8⟩
          simp only[if_true]
          rw[e8]
          rfl
        | false=>exact⟨i7,rfl,s7⟩
      obtain⟨i8,e8,s8⟩:=hd
      rw[e8]
      simp only[Option.bind_some]
      obtain⟨i9,e9,s9⟩:=rlocal hl s8
      rw[e9]
      simp only[Option.bind_some]
      have hLe:=localM_err a.length (devM (postM (preM r2).2.2).2.2).2.2
      generalize localM a.length (devM (postM (preM r2).2.2).2.2).2.2=L at s9 hLe
      rcases hLe with hL | hL
      · rw[hL]
        have hpos:=s9.posR
        have hps:=s9.pos
        by_cases hr:L.2.1=[]
        · have h9:¬ ((i9:Int) < (a.length:Int)):=by rw[hr] at hps; simp only[List.length_nil] at hps; omega
          simp[hr,h9]
        · have h9:(i9:Int) < (a.length:Int):=by
            have:=List.length_pos_iff.2 hr
            omega
          simp[hr,h9,hpos,zP,rfail hl s9]
      · have hL':(L.2.2.1 == 0)=false:=by simpa using hL
        rw[hL']
        simp[hL,zP]
  · rw[if_pos (by simp; omega),if_pos (by omega)]
    rfl
end Go.Vm
/- Plain laws of chapter 3: versions are read as the document says. -/
namespace Go.Vm
open Go
theorem ref03_Normal_eq (s:Str):ref03_Normal s=some (normM s):=by
  unfold ref03_Normal normM
  rw[ref03_Parse_eq]
  simp only[Option.bind_some]
  rw[ref03_raw_eq _ (parse_bigP s)]
  by_cases h:(parseP s).2.Err=0
  · rw[if_neg (by simp[h]),if_pos h]
    rfl
  · rw[if_pos (by simp[h]),if_neg h]
theorem ref03_Compare_eq (a b:Str):ref03_Compare a b=some (compP a b):=by
  unfold ref03_Compare compP okPep
  rw[ref03_Parse_eq,ref03_Parse_eq]
  simp only[Option.bind_some,ref03_rank_eq,ref03_ints_eq]
  rw[ref03_Order_eq _ _ (parse_bigP a) (parse_bigP b)]
  by_cases h1:(parseP a).2.Err=0 <;> by_cases h2:(parseP b).2.Err=0
  · simp only[h1,h2,if_true]
    rw[lexL_one,if_neg (by simp),if_pos ⟨(parse_fitP h1).1,(parse_fitP h2).1⟩]
    rfl
  · simp[h1,h2,lexL,b2i]; decide
  · simp[h1,h2,lexL,b2i]; decide
  · simp[h1,h2,lexL,b2i]; decide
theorem PepReads_true (a b:Str) (ha':a.length + 1≤1048576) (hb':b.length + 1≤1048576):law03_PepReads a b=some true:=by
  unfold law03_PepReads
  simp only[pep_Parse_eq,ref03_Parse_eq,Option.bind_some]
  rw[ref03_Same_refl _ (parse_bigP a)]
  simp only[Option.bind_some,pep_Normal_eq,ref03_Normal_eq,pep_Compare_eq,ref03_Compare_eq,beq_self_eq_true,Bool.and_self,if_true,awake03]
end Go.Vm

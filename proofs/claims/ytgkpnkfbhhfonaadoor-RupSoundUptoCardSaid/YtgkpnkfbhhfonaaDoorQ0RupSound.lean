/- The law RupSound, a part of its proof: what the functions that it reaches compute. -/
import Derived.WalkKit
import Derived.ProofKit
import Derived.OpenShut
import Derived.Below
import Derived.ChangeSame
import Derived.Deep.DeepHandedRow
import Derived.Carry
import Derived.Test.YtgkpnkfbhhfonaaDoorAxa185f725
import Derived.Test.YtgkpnkfbhhfonaaDoorFx5b343ccf
import Derived.Lib.Join
import Derived.Lib.SlTrimSet
import Derived.Lib.IndexAny
import Derived.Shelf.Small.Strs
import Derived.Sort.Row
import Derived.Sort.Grow
import Derived.Lib.SlicesCompact
import Derived.WalkSmall
import Derived.Test.YtgkpnkfbhhfonaaDoorDx7d2469ff
import Derived.Shelf.Strconv.Itoa3
import Derived.Deep.Strs
import Derived.Lib.Bytealg
import Derived.Test.YtgkpnkfbhhfonaaDoorG0RupSound
import Derived.Test.YtgkpnkfbhhfonaaDoorW29RupSound
set_option linter.unusedVariables false
set_option linter.unusedSimpArgs false
/- What a row asks behind a call that has left all that was there as it was. -/
namespace Go.Vm
open Go Go.RowKit Go.WideShapes Go.ChangeShapes
theorem row_below {H:Type} {enc:TypeId × Value→H} {P:Program} {f:Func} {s:ChangeSpec} {apart fresh handsOn again:Bool} {W W':World} {args:Array Value} {v:Value} {ds gs:List (DataW H)} {before pa pv:List MemPlace}
    (hW:DataW.Whole enc P f.params.toList s.vars apart W args.toList ds gs before) (hb:Below W.heap.size W W') (hp:before=pa ++ pv)
    (hr:∀ (b:Nat) (sp:Nat→Bool) (hd:Bool),DataW.TrodAll enc P W' b sp hd f.resultTypes.toList (v.resultList f.resultTypes.size) (s.fn H (ds ++ gs)).results [])
    (ha:∀ sp:Nat→Bool,(∀ p∈before,sp p.block=true)→DataW.TrodAll enc P W' 0 sp true f.params.toList args.toList (s.fn H (ds ++ gs)).args pa)
    (hv:∀ sp:Nat→Bool,(∀ p∈before,sp p.block=true)→DataW.TrodVars enc P W' sp s.vars (s.fn H (ds ++ gs)).vars pv)
    (ho:∀ (j:Nat) (t:TypeId) (r:Value),f.resultTypes[j]? = some t→(v.resultList f.resultTypes.size)[j]? = some r→Value.okWide P W' .any 0 t r) :
    s.post enc P f apart fresh handsOn again W args v W':=by
  have small:∀ p∈before,decide (p.block < W.heap.size)=true:=fun p h=>decide_eq_true (hW.lt p h)
  refine⟨ds,gs,before,[],pa,pv,hW,hr _ _ _,ha (fun b=>decide (b < W.heap.size)) small,hv _ small,hb.frame _,fun _=>⟨ho,?_⟩⟩
  obtain⟨_,_,_,_,_,hz,hn⟩:=hW
  refine⟨_,_,([] ++ pa) ++ pv,⟨[] ++ pa,pv,trodAll_append (ha _ fun _ _=>rfl) (hr _ _ _),hv _ fun _ _=>rfl,rfl,fun b off hm=>?_,fun h=>?_⟩,?_⟩
  · have hm':MemPlace.cell b off∈before:=by rw[hp]; simpa using hm
    rw[hb.frozen (of_decide_eq_true (small _ hm'))]
    exact hz b off hm'
  · have:=hn h
    rw[hp] at this
    simpa using this
  · intro x hx _
    rw[hp]
    simpa using hx
end Go.Vm
/- From what a row lists of the library's tables to what the evaluator asks. -/
namespace Go.Vm
open Go
theorem tab_of_vars {P:Program} {W:World} {name:String} {k:IntKind} {zs:List Int} {g:Nat} {t e:TypeId} {n:Nat}
    (hg:P.globalNamed name=some g) (hty:(P.globals[g]?).map (·.type)=some t) (ht:P.underlying t=some (.array n e)) (he:P.underlying e=some (.int k)) (hce:P.cellsOf e=1) (hct:P.cellsOf t=n) :
    ∀ {laid:List (String × DataW Unit)} {ps:List MemPlace},DataW.LaidVars P W laid ps→(name,Lib.tabData k zs)∈laid→Lib.TabIs P W name k zs
  | [],_,_,hm=>by cases hm
  | (x,d) :: laid,ps,h,hm=>by
    obtain⟨g',t',cs,fuel,p,q,hg',ht',hvar,hd,hr,_⟩:=h
    rcases List.mem_cons.1 hm with hm | hm
    · cases hm
      obtain rfl:=Option.some.inj (hg.symm.trans hg')
      obtain rfl:=Option.some.inj (hty.symm.trans ht')
      unfold Lib.TabIs
      rw[hvar,← Lib.cells_of_tab ht he hce hct hd]
    · exact tab_of_vars hg hty ht he hce hct hr hm
theorem cells_of_tabIs {P:Program} {W:World} {name:String} {k:IntKind} {zs:List Int} {g:Nat} (h:Lib.TabIs P W name k zs) (hg:P.globalNamed name=some g) :
    g < W.heap.size∧∃ T fz,W.heap[g]? = some (.cells (zs.map fun z=>Value.int k z).toArray T fz):=by
  unfold Lib.TabIs World.var? at h
  rw[hg] at h
  simp only[Option.bind_some] at h
  split at h
  · rename_i cs T fz e
    cases h
    exact⟨(Array.getElem?_eq_some_iff.1 e).1,T,fz,e⟩
  · cases h
end Go.Vm
/- Functions that are taken for known: from what the shelf says of them. -/
set_option linter.unusedVariables false
set_option linter.unusedSimpArgs false
namespace Go.Vm
open Go Go.RowKit
theorem post_below {K:Cx} {base:Nat} {h:AHeap} (H:HRel K base h) {v:AV} {cv:Value} {w':World} (hb:Below K.w.heap.size K.w w') (hv:∀ K',VRel K' v cv):CallPost K base h K.c v (.returned cv) w':=by
  let K':Cx:={ K with w:=w' }
  have S:K.Step K':=⟨Nat.le_refl _,fun _ _=>rfl,hb.os,hb.tape,hb.output,hb.size,fun b h1 h2=>⟨hb.block b h1,h2⟩,rfl,fun l ⟨R,hR⟩=>⟨R,(hb.block l (by
    rcases Nat.lt_or_ge l K.w.heap.size with hlt | hge
    · exact hlt
    · rw[Array.getElem?_eq_none hge] at hR; cases hR)).trans hR⟩⟩
  exact⟨K',cv,rfl,rfl,S,H.step S (fun b hL=>hb.block b (H.bs b hL).2) rfl,rfl,hv K'⟩
theorem prim_ss {P:Program} {g:FuncId} {p:List AV→Option AV} (hf:∀ args v,p args=some v→∃ a b r,args=[.s (.string a),.s (.string b)]∧v = .s r∧∀ w,Calls P g #[.string a,.string b] w fun e w'=>e = .returned r∧Below w.heap.size w w') :
    ∀ args v,p args=some v→∀ (K:Cx) (base:Nat) (h:AHeap) (cargs:Array Value),HRel K base h→VRels K args cargs.toList→∀ N,CallsIn Fence.wide N P g cargs K.w (CallPost K base h K.c v):=fun args v hp K base h cargs H hr N=>by
  obtain⟨a,b,r,rfl,rfl,hc⟩:=hf args v hp
  obtain⟨cl,rfl⟩:∃ l:List Value,cargs=l.toArray:=⟨cargs.toList,by simp⟩
  match cl,hr with
  | [x,y],hr=>
    simp only[VRels,VRel] at hr
    obtain⟨rfl,rfl,_⟩:=hr
    refine callsIn_wide.2 ((hc K.w).mono ?_)
    rintro e w' ⟨rfl,hb⟩
    exact post_below H hb fun K'=>by simp[VRel]
  | [],hr=>simp[VRels] at hr
  | [_],hr=>simp[VRels] at hr
  | _ :: _ :: _ :: _,hr=>simp[VRels] at hr
theorem prim_si {P:Program} {g:FuncId} {p:List AV→Option AV} (hf:∀ args v,p args=some v→∃ a k c r,args=[.s (.string a),.s (.int k c)]∧v = .s r∧∀ w,Calls P g #[.string a,.int k c] w fun e w'=>e = .returned r∧Below w.heap.size w w') :
    ∀ args v,p args=some v→∀ (K:Cx) (base:Nat) (h:AHeap) (cargs:Array Value),HRel K base h→VRels K args cargs.toList→∀ N,CallsIn Fence.wide N P g cargs K.w (CallPost K base h K.c v):=fun args v hp K base h cargs H hr N=>by
  obtain⟨a,k,c,r,rfl,rfl,hc⟩:=hf args v hp
  obtain⟨cl,rfl⟩:∃ l:List Value,cargs=l.toArray:=⟨cargs.toList,by simp⟩
  match cl,hr with
  | [x,y],hr=>
    simp only[VRels,VRel] at hr
    obtain⟨rfl,rfl,_⟩:=hr
    refine callsIn_wide.2 ((hc K.w).mono ?_)
    rintro e w' ⟨rfl,hb⟩
    exact post_below H hb fun K'=>by simp[VRel]
  | [],hr=>simp[VRels] at hr
  | [_],hr=>simp[VRels] at hr
  | _ :: _ :: _ :: _,hr=>simp[VRels] at hr
end Go.Vm
/- Numbers as texts: a known function that reads a table. -/
namespace Go.Vm
open Go Go.RowKit
theorem below_grow (w:World) (q:Nat) (os:Array Obj):Below w.heap.size w (Sort.grow (w.drewN q) os):=
  ⟨rfl,rfl,rfl,by simp[Sort.grow],fun i hi=>by
    show ((w.drewN q).heap ++ os)[i]? = _
    rw[Array.getElem?_append_left (by show i < w.heap.size; omega)]
    rfl⟩
theorem prim_itoa {P:Program} {g:FuncId} {b:Nat} (hn:P.globalNamed "internal/strconv.uint64pow10" = some b) (hb:(b,(Lib.pow10Tab.map fun z=>Value.int .u64 z).toArray)∈glb)
    (hc:∀ n:Int, -9223372036854775808≤n→n≤9223372036854775807→∀ w:World,Lib.TabIs P w "internal/strconv.uint64pow10" .u64 Lib.pow10Tab→Calls P g #[.int .i64 n] w fun e w'=>e = .returned (.string ⟨(Lib.itoa n).toArray⟩)∧∃ k os,w' = Sort.grow (w.drewN k) os) :
    ∀ args v,itoaP args=some v→∀ (K:Cx) (base:Nat) (h:AHeap) (cargs:Array Value),HRel K base h→VRels K args cargs.toList→∀ N,CallsIn Fence.wide N P g cargs K.w (CallPost K base h K.c v):=fun args v hp K base h cargs H hr N=>by
  unfold itoaP at hp
  split at hp
  · rename_i n
    split at hp
    · rename_i hw
      cases hp
      obtain⟨cl,rfl⟩:∃ l:List Value,cargs=l.toArray:=⟨cargs.toList,by simp⟩
      match cl,hr with
      | [x],hr=>
        simp only[VRels,VRel] at hr
        obtain⟨rfl,_⟩:=hr
        refine callsIn_wide.2 ((hc n hw.1 hw.2 K.w ?_).mono ?_)
        · obtain⟨_,T,fz,h2⟩:=H.gl _ hb
          unfold Lib.TabIs World.var?
          rw[hn]
          show (match K.w.heap[b]? with | some (.cells cs _ _)=>some cs | _=>none)=_
          rw[h2]
        · rintro e w' ⟨rfl,k,os,rfl⟩
          exact post_below H (below_grow _ _ _) fun K'=>by simp[VRel]
      | [],hr=>simp[VRels] at hr
      | _ :: _ :: _,hr=>simp[VRels] at hr
    · cases hp
  · cases hp
end Go.Vm
set_option maxRecDepth 100000
namespace Go.Proofs
open Go.Shelf
def Tryd.z213f:Nat→Nat
  | 213=>58
  | 265=>73
  | n=>n
def Tryd.z213t:Nat→Nat
  | 9=>9
  | 3=>3
  | n=>n
def Tryd.z213g:Nat→Nat
  | n=>n
def Tryd.z213r:Ren:=⟨Tryd.z213f,Tryd.z213t,Tryd.z213g⟩
theorem Tryd.z213:Lays.n213 Tryd.prog Tryd.z213r where
  mixed:=by kernel_rfl
  f213:=by kernel_rfl
  f265:=by kernel_rfl
  t3:=Tryd.underlying3
  a3:=Tryd.isAgg3
  z3:=Tryd.sizeOf3
  v3:=Tryd.zeroValue3
  t9:=Tryd.underlying9
  a9:=Tryd.isAgg9
  z9:=Tryd.sizeOf9
  v9:=Tryd.zeroValue9
def Tryd.z137f:Nat→Nat
  | 137=>88
  | 217=>92
  | 266=>93
  | n=>n
def Tryd.z137t:Nat→Nat
  | 9=>9
  | 5=>5
  | 3=>3
  | n=>n
def Tryd.z137g:Nat→Nat
  | n=>n
def Tryd.z137r:Ren:=⟨Tryd.z137f,Tryd.z137t,Tryd.z137g⟩
theorem Tryd.z137:Lays.n137 Tryd.prog Tryd.z137r where
  mixed:=by kernel_rfl
  f137:=by kernel_rfl
  f217:=by kernel_rfl
  f266:=by kernel_rfl
  t3:=Tryd.underlying3
  a3:=Tryd.isAgg3
  z3:=Tryd.sizeOf3
  v3:=Tryd.zeroValue3
  t5:=Tryd.underlying5
  a5:=Tryd.isAgg5
  z5:=Tryd.sizeOf5
  v5:=Tryd.zeroValue5
  t9:=Tryd.underlying9
  a9:=Tryd.isAgg9
  z9:=Tryd.sizeOf9
  v9:=Tryd.zeroValue9
def Tryd.z171f:Nat→Nat
  | 171=>30
  | 243=>43
  | 246=>59
  | 283=>63
  | 284=>64
  | 285=>65
  | 286=>66
  | 129=>77
  | 317=>76
  | 318=>78
  | 319=>79
  | 320=>80
  | 337=>84
  | 338=>85
  | n=>n
def Tryd.z171t:Nat→Nat
  | 3=>3
  | 9=>9
  | 2=>2
  | 4=>4
  | 171=>87
  | 0=>0
  | 53=>75
  | 37=>52
  | 5=>5
  | 173=>90
  | 212=>109
  | 51=>33
  | 20=>20
  | 213=>110
  | 46=>83
  | 232=>118
  | 233=>119
  | n=>n
def Tryd.z171g:Nat→Nat
  | 17=>3
  | 18=>4
  | 19=>5
  | n=>n
def Tryd.z171r:Ren:=⟨Tryd.z171f,Tryd.z171t,Tryd.z171g⟩
theorem Tryd.z171:LaysM.n171 Tryd.prog Tryd.z171r where
  mixed:=by kernel_rfl
  f129:=by kernel_rfl
  f171:=by kernel_rfl
  f243:=by kernel_rfl
  f246:=by kernel_rfl
  f283:=by kernel_rfl
  f284:=by kernel_rfl
  f285:=by kernel_rfl
  f286:=by kernel_rfl
  f317:=by kernel_rfl
  f318:=by kernel_rfl
  f319:=by kernel_rfl
  f320:=by kernel_rfl
  f337:=by kernel_rfl
  f338:=by kernel_rfl
  t0:=Tryd.underlying0
  a0:=Tryd.isAgg0
  z0:=Tryd.sizeOf0
  v0:=Tryd.zeroValue0
  t2:=Tryd.underlying2
  a2:=Tryd.isAgg2
  z2:=Tryd.sizeOf2
  v2:=Tryd.zeroValue2
  t3:=Tryd.underlying3
  a3:=Tryd.isAgg3
  z3:=Tryd.sizeOf3
  v3:=Tryd.zeroValue3
  t4:=Tryd.underlying4
  a4:=Tryd.isAgg4
  z4:=Tryd.sizeOf4
  v4:=Tryd.zeroValue4
  t5:=Tryd.underlying5
  a5:=Tryd.isAgg5
  z5:=Tryd.sizeOf5
  v5:=Tryd.zeroValue5
  t9:=Tryd.underlying9
  a9:=Tryd.isAgg9
  z9:=Tryd.sizeOf9
  v9:=Tryd.zeroValue9
  t20:=Tryd.underlying20
  a20:=Tryd.isAgg20
  z20:=Tryd.sizeOf20
  v20:=Tryd.zeroValue20
  t37:=Tryd.underlying52
  a37:=Tryd.isAgg52
  z37:=Tryd.sizeOf52
  v37:=Tryd.zeroValue52
  t46:=Tryd.underlying83
  a46:=Tryd.isAgg83
  z46:=Tryd.sizeOf83
  v46:=Tryd.zeroValue83
  t51:=Tryd.underlying33
  a51:=Tryd.isAgg33
  z51:=Tryd.sizeOf33
  v51:=Tryd.zeroValue33
  t53:=Tryd.underlying75
  a53:=Tryd.isAgg75
  z53:=Tryd.sizeOf75
  v53:=Tryd.zeroValue75
  t171:=Tryd.underlying87
  a171:=Tryd.isAgg87
  z171:=Tryd.sizeOf87
  v171:=Tryd.zeroValue87
  t173:=Tryd.underlying90
  a173:=Tryd.isAgg90
  z173:=Tryd.sizeOf90
  v173:=Tryd.zeroValue90
  t212:=Tryd.underlying109
  a212:=Tryd.isAgg109
  z212:=Tryd.sizeOf109
  v212:=Tryd.zeroValue109
  t213:=Tryd.underlying110
  a213:=Tryd.isAgg110
  z213:=Tryd.sizeOf110
  t232:=Tryd.underlying118
  a232:=Tryd.isAgg118
  z232:=Tryd.sizeOf118
  v232:=Tryd.zeroValue118
  t233:=Tryd.underlying119
  a233:=Tryd.isAgg119
  z233:=Tryd.sizeOf119
  v233:=Tryd.zeroValue119
  g17:=by kernel_rfl
  g18:=by kernel_rfl
  g19:=by kernel_rfl
  i0:=by kernel_rfl
  i2:=by kernel_rfl
  i3:=by kernel_rfl
  i4:=by kernel_rfl
  i5:=by kernel_rfl
  i9:=by kernel_rfl
  i20:=by kernel_rfl
  i37:=by kernel_rfl
  i46:=by kernel_rfl
  i51:=by kernel_rfl
  i53:=by kernel_rfl
  i171:=by kernel_rfl
  i173:=by kernel_rfl
  i212:=by kernel_rfl
  i232:=by kernel_rfl
  i233:=by kernel_rfl
  m17:=by kernel_rfl
  m18:=by kernel_rfl
  m19:=by kernel_rfl
end Go.Proofs
namespace Go.Vm
open Go Go.RowKit Go.Proofs
def funcOk (fn:Func):Bool:=!(fn.name == "runtime.NumGoroutine") && (match fn.body with | some c=>codeOk c | none=>true)
theorem funcsOk:E.P.funcs.toList.all funcOk=true:=by kernel_rfl
theorem pk_bytealg_CompareString:∀ args v,cmpP args=some v→∀ (K:Cx) (base:Nat) (h:AHeap) (cargs:Array Value),HRel K base h→VRels K args cargs.toList→∀ N,CallsIn Fence.wide N E.P 58 cargs K.w (CallPost K base h K.c v):=prim_ss fun args v hv=>by
  unfold cmpP at hv
  split at hv
  · rename_i a b
    cases hv
    exact⟨a,b,_,rfl,rfl,fun w=>(Go.Proofs.Any.bytealg_CompareString Go.Proofs.Tryd.z213 a b w).mono fun e w' ⟨h1,h2⟩=>⟨h1,h2 ▸ Below.refl _ _⟩⟩
  · cases hv
theorem pk_strings_IndexByte:∀ args v,ixbP args=some v→∀ (K:Cx) (base:Nat) (h:AHeap) (cargs:Array Value),HRel K base h→VRels K args cargs.toList→∀ N,CallsIn Fence.wide N E.P 88 cargs K.w (CallPost K base h K.c v):=prim_si fun args v hv=>by
  unfold ixbP at hv
  split at hv
  · rename_i a c
    cases hv
    exact⟨a,.u8,c,_,rfl,rfl,fun w=>(Go.Proofs.Any.strings_IndexByte Go.Proofs.Tryd.z137 a c w).mono fun e w' ⟨h1,h2⟩=>⟨h1,h2 ▸ Below.refl _ _⟩⟩
  · cases hv
theorem pk_strconv_Itoa:∀ args v,itoaP args=some v→∀ (K:Cx) (base:Nat) (h:AHeap) (cargs:Array Value),HRel K base h→VRels K args cargs.toList→∀ N,CallsIn Fence.wide N E.P 30 cargs K.w (CallPost K base h K.c v):=prim_itoa (b:=3) (by kernel_rfl) (by simp[glb]) (fun n h0 h1 w ht=>Go.Proofs.Any.strconv_Itoa Go.Proofs.Tryd.z171 n h0 h1 w ht)
theorem envOk:EnvOk E:=by
  have key:∀ (f:FuncId) (fn:Func),E.P.funcs[f]? = some fn→funcOk fn=true:=fun f fn hf=>by
    have:=List.all_eq_true.1 funcsOk fn (by
      obtain⟨h1,h2⟩:=Array.getElem?_eq_some_iff.1 hf
      rw[← h2]
      simp)
    exact this
  refine⟨fun f fn hf=>?_,fun f fn c hf hc=>?_,fun g p hp=>?_,fun g p hp=>?_⟩
  · have:=key f fn hf
    unfold funcOk at this
    rw[Bool.and_eq_true] at this
    simpa using this.1
  · have:=key f fn hf
    unfold funcOk at this
    rw[Bool.and_eq_true,hc] at this
    exact this.2
  · simp only[E] at hp
    split at hp
    · rename_i hg
      subst hg
      cases hp
      exact⟨⟨Go.Proofs.Tryd.f58,by kernel_rfl,by kernel_rfl⟩,pk_bytealg_CompareString⟩
    · skip
      split at hp
      · rename_i hg
        subst hg
        cases hp
        exact⟨⟨Go.Proofs.Tryd.f88,by kernel_rfl,by kernel_rfl⟩,pk_strings_IndexByte⟩
      · skip
        split at hp
        · rename_i hg
          subst hg
          cases hp
          exact⟨⟨Go.Proofs.Tryd.f30,by kernel_rfl,by kernel_rfl⟩,pk_strconv_Itoa⟩
        · skip
          cases hp
  · simp only[E] at hp
    cases hp
theorem law_true {g:FuncId} {vs vs':List AV} {m:Option Bool} (hc:Ct E g vs m (fun r=>bv r)) (hm:m=some true) (hp:E.prim g=none) (hpf:E.pf g=true) (hv:All2 (VLe Rn.nil) vs vs') (hs:snapL (snap AHeap.nil depth) vs' = some (vs',false)) (w:World) (hG:∀ q,q∈glb→q.1 < w.heap.size∧∃ T fz,w.heap[q.1]? = some (.cells q.2 T fz)) {cargs:Array Value}
    (hr:VRels { w:=w,ι:=fun _=>(0,0,0),L:=fun _=>False,X:=fun _=>False,c:=0 } vs' cargs.toList) :
    Calls E.P g cargs w fun e w'=>e = .returned (.bool true)∧w'.os=w.os∧w'.tape=w.tape∧w'.output=w.output∧w.heap.size≤w'.heap.size∧(∀ b,b < w.heap.size→w'.heap[b]? = w.heap[b]?):=by
  obtain⟨u,h1,h2⟩:=hc true hm vs' hv AHeap.nil 0
  have hu:=h2.s_inv
  subst hu
  unfold callFn at h1
  rw[hp] at h1
  simp only[hpf,if_true,hs] at h1
  cases hcl:(rinf E).call g vs' AHeap.nil 0 with
  | none=>rw[hcl] at h1; cases h1
  | some q=>
    obtain⟨v,h3,n3⟩:=q
    rw[hcl] at h1
    simp only at h1
    cases hsn:snap h3 depth v with
    | none=>rw[hsn] at h1; cases h1
    | some q2=>
      obtain⟨v',b2⟩:=q2
      rw[hsn] at h1
      simp only[Bool.false_and,Bool.false_eq_true,if_false,Option.some.injEq,Prod.mk.injEq] at h1
      obtain⟨k,hk⟩:=rinf_call.1 hcl
      have hpc:pcall E k g vs' = some (bv true):=by
        unfold pcall
        rw[hk]
        simp only[hsn,h1.1]
      refine (pcall_sound envOk (fun r=>drawOk_all r) hpc w hG hr).mono ?_
      rintro e w' ⟨cv,h4,h5,h6,h7,h8,h9,h10⟩
      simp only[VRel] at h10
      subst h10
      exact⟨h4,h5,h6,h7,h8,h9⟩
end Go.Vm
/- What a call reads, as Lean data: an argument's reading by shape gives a value of the evaluator. -/
namespace Go.Vm
open Go
structure BulkOk {H:Type} (f:DataW H→Nat) (g:List (DataW H)→Nat):Prop where
  nil:g []=0
  cons:∀ d r,g (d :: r)=f d + g r
  pos:∀ d,1≤f d
  str:∀ l,f (.lit (.string l))=l.length + 1
  slice:∀ e s,f (.slice e s)=g e + g s + 1
  agg:∀ p,f (.agg p)=g p + 1
theorem BulkOk.sum {H:Type} {f:DataW H→Nat} {g:List (DataW H)→Nat} (B:BulkOk f g):∀ l,g l=(l.map f).sum
  | []=>B.nil
  | d :: r=>by rw[B.cons,B.sum r]; rfl
def Kw (W:World):Cx:={ w:=W,ι:=fun _=>(0,0,0),L:=fun _=>False,X:=fun _=>False,c:=0 }
def simpC:AV→Bool
  | .s _=>true
  | .fsl ..=>true
  | .esl=>true
  | _=>false
theorem snap_simpC {h:AHeap} {k:Nat} {c:AV} (hc:simpC c=true):snap h k c=some (c,false):=by
  cases c <;> first | (cases k <;> rfl) | cases hc
theorem snapL_simpC {h:AHeap} {k:Nat}:∀ {cs:List AV},cs.all simpC=true→snapL (snap h k) cs=some (cs,false)
  | [],_=>rfl
  | c :: cs,hc=>by
    simp only[List.all_cons,Bool.and_eq_true] at hc
    simp only[snapL,snap_simpC hc.1,snapL_simpC hc.2,Bool.or_self]
def simpA:AV→Bool
  | .agg cs=>cs.all simpC
  | c=>simpC c
theorem snap_simpA {h:AHeap} {k:Nat} {c:AV} (hc:simpA c=true):snap h (k + 1) c=some (c,false):=by
  unfold simpA at hc
  split at hc
  · simp only[snap,snapL_simpC hc,Option.map_some]
  · exact snap_simpC hc
theorem snapL_nil' (h:AHeap):snapL (snap h depth) []=some ([],false):=rfl
theorem snapL_cons' {h:AHeap} {c:AV} {cs:List AV} (hc:simpA c=true) (hs:snapL (snap h depth) cs=some (cs,false)):snapL (snap h depth) (c :: cs)=some (c :: cs,false):=by
  have h1:snap h depth c=some (c,false):=snap_simpA hc
  simp only[snapL,h1,hs,Bool.or_self]
section
variable {H:Type} {P:Program} {f:DataW H→Nat} {g:List (DataW H)→Nat}
structure Rd (P:Program) (f:DataW H→Nat) (t:TypeId) (n:Nat) {α:Type} (en:α→List AV) (ok:α→Prop) (μ:α→Nat):Prop where
  read:∀ {enc:TypeId × Value→H} {W:World} {fuel:Nat} {cs:List Value} {d:DataW H} {pl:List MemPlace},DataW.trod enc P W 0 (fun _=>true) true fuel t cs=some (d,pl) →
    ∃ x a,VRels (Kw W) a cs∧All2 (VLe Rn.nil) (en x) a∧a.all simpC=true∧ok x∧μ x≤f d∧cs.length=n∧(∀ v∈cs,v.oneCell' = true)
theorem Rd.str (B:BulkOk f g) {t:TypeId} (ht:P.underlying t=some .string):Rd P f t 1 (fun x:Str=>[bs x]) (fun _=>True) (fun x=>x.length + 1) where
  read h:=by
    obtain⟨s,rfl,e,_⟩:=DataW.trod_string ht h
    obtain⟨rfl,rfl⟩:=Prod.mk.inj e
    exact⟨s.data.toList,[.s (.string s)],by simp[VRels,VRel],⟨VLe.s_refl _,trivial⟩,rfl,trivial,by rw[B.str]; exact Nat.le_refl _,rfl,by simp; rfl⟩
theorem Rd.int (B:BulkOk f g) {t:TypeId} {k:IntKind} (ht:P.underlying t=some (.int k)):Rd P f t 1 (fun x:Int=>[.s (.int k x)]) (fun x=>(Lit.int k x).wf=true) (fun _=>1) where
  read h:=by
    obtain⟨n,rfl,e,w⟩:=DataW.trod_int ht h
    obtain⟨rfl,rfl⟩:=Prod.mk.inj e
    exact⟨n,[.s (.int k n)],by simp[VRels,VRel],⟨VLe.s_refl _,trivial⟩,rfl,w,B.pos _,rfl,by simp; rfl⟩
theorem Rd.bool (B:BulkOk f g) {t:TypeId} (ht:P.underlying t=some .bool):Rd P f t 1 (fun x:Bool=>[bv x]) (fun _=>True) (fun _=>1) where
  read h:=by
    obtain⟨n,rfl,e⟩:=DataW.trod_bool ht h
    obtain⟨rfl,rfl⟩:=Prod.mk.inj e
    exact⟨n,[bv n],by simp[VRels,VRel],⟨VLe.s_refl _,trivial⟩,rfl,trivial,B.pos _,rfl,by simp; rfl⟩
theorem VRels.len {K:Cx}:∀ {a:List AV} {x:List Value},VRels K a x→a.length=x.length
  | [],[],_=>rfl
  | _ :: a,_ :: x,h=>by simp only[List.length_cons]; rw[VRels.len (a:=a) (x:=x) (by simp only[VRels] at h; exact h.2)]
  | [],_ :: _,h=>by simp[VRels] at h
  | _ :: _,[],h=>by simp[VRels] at h
theorem crel_rd {W:World} {b:Nat}:∀ {a:List AV} {cs:List Value} {o:Nat},VRels (Kw W) a cs→(∀ i,i < cs.length→W.cell? ⟨b,o + i,none⟩=cs[i]?)→(∀ v∈cs,v.oneCell' = true)→CRel (Kw W) b o a
  | [],_,_,_,_,_=>by simp[CRel]
  | c :: a,[],_,h,_,_=>by simp[VRels] at h
  | c :: a,v :: cs,o,h,hc,h1=>by
    simp only[VRels] at h
    have h0:=hc 0 (by simp)
    simp only[Nat.add_zero,List.getElem?_cons_zero] at h0
    refine⟨⟨v,⟨?_,id,id⟩,h0,h1 v List.mem_cons_self,h.1⟩,crel_rd h.2 (fun i hi=>?_) fun u hu=>h1 u (List.mem_cons_of_mem _ hu)⟩
    · unfold World.cell? at h0
      split at h0
      · rename_i e
        exact (Array.getElem?_eq_some_iff.1 e).1
      · cases h0
    · have:=hc (i + 1) (by simp; omega)
      rw[Nat.add_assoc,Nat.add_comm 1 i,this]
      rfl
theorem Rd.slice (B:BulkOk f g) {t e:TypeId} {n:Nat} {α:Type} {en:α→List AV} {ok:α→Prop} {μ:α→Nat} (R:Rd P f e n en ok μ) (ht:P.underlying t=some (.slice e)) (hn:P.cellsOf e=n) (h0:0 < n) :
    Rd P f t 1 (fun x:List α=>[.fsl n (x.map en)]) (fun x=>∀ y∈x,ok y) (fun x=>(x.map μ).sum + 1) where
  read {enc W fuel cs d pl} h:=by
    rcases Deep.open_slice ht h with ⟨rfl,e'⟩ | ⟨a,len,cap,m,k,D,Pl,rfl,_,hl,_,hm,e',hx⟩
    · obtain⟨rfl,rfl⟩:=Prod.mk.inj e'
      exact⟨[],[nilS],by simp[VRels,VRel],⟨VLe.fsl_iff.2 (.inr ⟨rfl,.inl rfl⟩),trivial⟩,rfl,by simp,by simpa using B.pos _,rfl,by simp; rfl⟩
    · obtain⟨rfl,rfl⟩:=Prod.mk.inj e'
      have hlm:len≤m:=by rw[hm]; simpa using hl
      subst hn
      have hspot:0 < len→a.spot=none:=fun hp=>by
        obtain⟨cs',h1,h2⟩:=hx 0 (by omega)
        obtain⟨_,hlen,hc⟩:=World.cells?_some h1
        have:=hc 0 h0
        rw[List.getElem?_eq_getElem (by omega)] at this
        simp only[Nat.zero_mul,Addr.add,if_true] at this
        unfold World.cell? at this
        split at this
        · split at this
          · cases this
          · rename_i q; simpa using q
        · cases this
      obtain⟨ab,ao,sp⟩:=a
      have key:∀ j i,i + j=len→∃ (xs:List α) (rows:List (List AV)),RRel (Kw W) ab (ao + i * P.cellsOf e) (P.cellsOf e) rows∧All2 (All2 (VLe Rn.nil)) (xs.map en) rows∧xs.length=j∧(∀ x∈xs,ok x)∧(xs.map μ).sum≤((List.range' i j).map fun q=>f (D q)).sum:=by
        intro j
        induction j with
        | zero=>intro i _; exact⟨[],[],by simp[RRel],trivial,rfl,by simp,by simp⟩
        | succ j ih=>
          intro i hij
          obtain rfl:sp=none:=hspot (by omega)
          obtain⟨xs,rows,r1,r0,r2,r3,r4⟩:=ih (i + 1) (by omega)
          obtain⟨cs',h1,h2⟩:=hx i (by omega)
          obtain⟨x,a,x1,x0,_,x2,x3,x4,x5⟩:=R.read h2
          obtain⟨_,hlen,hc⟩:=World.cells?_some h1
          refine⟨x :: xs,a :: rows,?_,⟨x0,r0⟩,by simp[r2],by simpa using ⟨x2,r3⟩,?_⟩
          · simp only[RRel]
            refine⟨by rw[x1.len,x4],crel_rd x1 (fun q hq=>?_) x5,?_⟩
            · have:=hc q (by omega)
              rw[WideShapes.add_plain,WideShapes.add_plain] at this
              exact this
            · rw[Nat.add_assoc,show i * P.cellsOf e + P.cellsOf e=(i + 1) * P.cellsOf e by rw[Nat.add_mul,Nat.one_mul]]
              exact r1
          · simp only[List.map_cons,List.sum_cons,List.range'_succ]
            omega
      obtain⟨xs,rows,r1,r0,r2,r3,r4⟩:=key len 0 (by omega)
      have rl:rows.length=len:=by rw[r0.length,List.length_map,r2]
      refine⟨xs,[.fsl (P.cellsOf e) rows],?_,⟨VLe.fsl_iff.2 (.inl ⟨rows,rfl,r0⟩),trivial⟩,rfl,r3,?_,rfl,by simp; rfl⟩
      · simp only[VRels,VRel,and_true,rl]
        refine⟨some ⟨ab,ao,sp⟩,cap,rfl,by simp,hl,?_⟩
        rcases Nat.eq_zero_or_pos len with hz | hp
        · left
          exact List.length_eq_zero_iff.1 (by omega)
        · right
          obtain rfl:sp=none:=hspot hp
          exact⟨ab,ao,rfl,by rw[Nat.zero_mul,Nat.add_zero] at r1; exact r1⟩
      · rw[B.slice,B.sum,List.map_map,List.range_eq_range']
        have:(List.map (f ∘ D) (List.range' 0 len)).sum=((List.range' 0 len).map fun q=>f (D q)).sum:=rfl
        omega
structure Rds (P:Program) (f:DataW H→Nat) (g:List (DataW H)→Nat) (fs:List Field) (o n:Nat) {α:Type} (en:α→List AV) (ok:α→Prop) (μ:α→Nat):Prop where
  read:∀ {enc:TypeId × Value→H} {W:World} {fuel:Nat} {cs:List Value} {xs:List (DataW H × List MemPlace)},xs.length=fs.length→o + n≤cs.length →
    (∀ (i:Nat) (fd:Field),fs[i]? = some fd→DataW.trod enc P W 0 (fun _=>true) true fuel fd.type ((cs.drop fd.offset).take (P.cellsOf fd.type))=xs[i]?) →
    ∃ x a,VRels (Kw W) a ((cs.drop o).take n)∧All2 (VLe Rn.nil) (en x) a∧a.all simpC=true∧ok x∧μ x≤g (xs.map (·.1))∧(∀ v∈(cs.drop o).take n,v.oneCell' = true)
theorem Rds.nil (o:Nat):Rds P f g [] o 0 (fun _:Unit=>[]) (fun _=>True) (fun _=>0) where
  read _ _ _:=⟨(),[],by simp[VRels],trivial,rfl,trivial,Nat.zero_le _,by simp⟩
theorem Rds.cons (B:BulkOk f g) {fd:Field} {fs:List Field} {o n1 n2:Nat} {α β:Type} {e1:α→List AV} {ok1:α→Prop} {μ1:α→Nat} {e2:β→List AV} {ok2:β→Prop} {μ2:β→Nat} (R1:Rd P f fd.type n1 e1 ok1 μ1) (R2:Rds P f g fs (o + n1) n2 e2 ok2 μ2) (ho:fd.offset=o) (hn:P.cellsOf fd.type=n1) :
    Rds P f g (fd :: fs) o (n1 + n2) (fun x:α × β=>e1 x.1 ++ e2 x.2) (fun x=>ok1 x.1∧ok2 x.2) (fun x=>μ1 x.1 + μ2 x.2) where
  read {enc W fuel cs xs} hl hc h:=by
    cases xs with
    | nil=>simp at hl
    | cons y xs=>
      have h0:=h 0 fd rfl
      simp only[List.getElem?_cons_zero,ho,hn] at h0
      obtain⟨x1,l1,a1,a0,az,a2,a3,a4,a5⟩:=R1.read (d:=y.1) (pl:=y.2) h0
      obtain⟨x2,l2,b1,b0,bz,b2,b3,b5⟩:=R2.read (enc:=enc) (W:=W) (fuel:=fuel) (cs:=cs) (xs:=xs) (by simpa using hl) (by omega) (fun i fd' h'=>by have:=h (i + 1) fd' (by simpa using h'); simpa using this)
      have e:(cs.drop o).take (n1 + n2)=(cs.drop o).take n1 ++ (cs.drop (o + n1)).take n2:=by rw[List.take_add,List.drop_drop]
      refine⟨(x1,x2),l1 ++ l2,?_,a0.append b0,by rw[List.all_append,az,bz]; rfl,⟨a2,b2⟩,?_,?_⟩
      · rw[e]; exact a1.append b1
      · simp only[List.map_cons]; rw[B.cons]; omega
      · rw[e]
        intro v hv
        rcases List.mem_append.1 hv with hv | hv
        · exact a5 v hv
        · exact b5 v hv
theorem Rd.struct (B:BulkOk f g) {t:TypeId} {fs:Array Field} {n:Nat} {α β:Type} {en:α→List AV} {ok:α→Prop} {μ:α→Nat} (R:Rds P f g fs.toList 0 n en ok μ) (ht:P.underlying t=some (.struct fs)) (hn:P.cellsOf t=n) (mk:α→β) (hs:∀ y,∃ x,mk x=y) {en':β→List AV} (he:∀ x,en' (mk x)=en x) {ok':β→Prop} (hk:∀ x,ok x→ok' (mk x)) {μ':β→Nat} (hm:∀ x,μ' (mk x)≤μ x + 1) :
    Rd P f t n en' ok' μ' where
  read {enc W fuel cs d pl} h:=by
    obtain⟨xs,k,_,e,hl,hx,hf⟩:=DataW.trod_struct ht h
    obtain⟨rfl,rfl⟩:=Prod.mk.inj e
    obtain⟨x,a,h1,h0,hz,h2,h3,h4⟩:=R.read (enc:=enc) (W:=W) (fuel:=k) (cs:=cs) (xs:=xs) (by simpa using hx) (by omega) (fun i fd h'=>hf i fd (by simpa using h'))
    rw[List.drop_zero,List.take_of_length_le (by omega)] at h1 h4
    refine⟨mk x,a,h1,by rw[he]; exact h0,hz,hk x h2,?_,by omega,h4⟩
    rw[B.agg]
    have:=hm x
    omega
theorem Rd.arg1 {t:TypeId} {α:Type} {c:α→AV} {ok:α→Prop} {μ:α→Nat} (R:Rd P f t 1 (fun x=>[c x]) ok μ) {enc:TypeId × Value→H} {W:World} {v:Value} {d:DataW H} {pl:List MemPlace} (hv:v.cells = #[v]) (h:DataW.Trod enc P W 0 (fun _=>true) true t v d pl) :
    ∃ x b,VRel (Kw W) b v∧ok x∧μ x≤f d∧VLe Rn.nil (c x) b∧simpA b=true:=by
  obtain⟨fuel,h⟩:=h
  obtain⟨x,a,h1,h0,hz,h2,h3,_⟩:=R.read h
  rw[hv] at h1
  match a,h0 with
  | [b],h0=>
    simp only[VRels,and_true] at h1
    simp only[List.all_cons,List.all_nil,Bool.and_true] at hz
    refine⟨x,b,h1,h2,h3,h0.1,?_⟩
    unfold simpA
    split
    · cases hz
    · exact hz
  | [],h0=>exact h0.elim
  | _ :: _ :: _,h0=>exact h0.2.elim
theorem cells_int {P:Program} {W:World} {r:Reach} {b:Nat} {t:TypeId} {k:IntKind} {v:Value} (ht:P.underlying t=some (.int k)) (h:Value.okWide P W r b t v):v.cells = #[v]:=by
  unfold Value.okWide Cell.okWide Cell.ok at h
  rw[ht] at h
  cases v <;> first | rfl | simp at h
theorem cells_slice {P:Program} {W:World} {r:Reach} {b:Nat} {t e:TypeId} {v:Value} (ht:P.underlying t=some (.slice e)) (h:Value.okWide P W r b t v):v.cells = #[v]:=by
  unfold Value.okWide Cell.okWide Cell.ok at h
  rw[ht] at h
  cases v <;> first | rfl | simp at h
theorem args_stay {enc:TypeId × Value→H} (hl:laidOutB P=true) {W W':World} (hb:RowKit.Below W.heap.size W W') {sp:Nat→Bool}:∀ {ts:List TypeId} {vs:List Value} {ds:List (DataW H)} {ps:List MemPlace},(∀ t∈ts,P.readableRec t=true∧t < P.types.size)→DataW.TrodAll enc P W 0 (fun _=>true) true ts vs ds ps→(∀ x∈ps,x.block < W.heap.size)→(∀ x∈ps,sp x.block=true) →
    DataW.TrodAll enc P W' 0 sp true ts vs ds ps
  | [],[],[],_,_,h,_,_=>h
  | t :: ts,v :: vs,d :: ds,ps,hr,h,h1,h2=>by
    obtain⟨p,q,h3,h4,rfl⟩:=h
    exact⟨p,q,WideElems.Trod_stays hl (hr t List.mem_cons_self).1 (hr t List.mem_cons_self).2 h3 (fun x hx=>hb.same (h1 x (List.mem_append_left _ hx))) (fun x hx=>h2 x (List.mem_append_left _ hx)),
      args_stay hl hb (fun u hu=>hr u (List.mem_cons_of_mem _ hu)) h4 (fun x hx=>h1 x (List.mem_append_right _ hx)) (fun x hx=>h2 x (List.mem_append_right _ hx)),rfl⟩
  | [],_ :: _,_,_,_,h,_,_=>h.elim
  | [],[],_ :: _,_,_,h,_,_=>h.elim
  | _ :: _,[],_,_,_,h,_,_=>h.elim
  | _ :: _,_ :: _,[],_,_,h,_,_=>h.elim
end
end Go.Vm
/- Plain laws: loops, numbers. -/
namespace Go.Vm
open Go
section
variable {σ τ:Type} {f:σ→Option (Step σ τ)}
theorem loopC_next {x y:σ} (h:f x=some (.next y)):loopC f x=loopC f y:=by rw[loopC_eq,h]; rfl
theorem loopC_done {x:σ} {t:τ} (h:f x=some (.done t)):loopC f x=some t:=by rw[loopC_eq,h]; rfl
theorem loopC_inv (I:σ→Prop) (μ:σ→Nat) (P:τ→Prop) (h:∀ x,I x→(∃ t,f x=some (.done t)∧P t)∨∃ y,f x=some (.next y)∧I y∧μ y < μ x) {x:σ} (hx:I x):∃ t,loopC f x=some t∧P t:=by
  have key:∀ n x,I x→μ x≤n→∃ t,loopC f x=some t∧P t:=by
    intro n
    induction n with
    | zero=>
      intro x hx hn
      rcases h x hx with ⟨t,h1,h2⟩ | ⟨y,_,_,h3⟩
      · exact⟨t,loopC_done h1,h2⟩
      · omega
    | succ n ih=>
      intro x hx hn
      rcases h x hx with ⟨t,h1,h2⟩ | ⟨y,h1,h2,h3⟩
      · exact⟨t,loopC_done h1,h2⟩
      · rw[loopC_next h1]
        exact ih y h2 (by omega)
  exact key _ x hx (Nat.le_refl _)
end
theorem w64_id {x:Int} (h1 : -9223372036854775808≤x) (h2:x≤9223372036854775807):w64 x=x:=i64_id h1 h2
theorem ixl_nat {α:Type} {l:List α} {i:Nat} (h:i < l.length):ixl l (i:Int)=some l[i]:=by
  unfold ixl
  rw[if_pos (by omega),Int.toNat_natCast,List.getElem?_eq_getElem h]
theorem app_ok {α:Type} {b:Nat} {l m:List α} (h1:(l.length + m.length) * b≤140737488355328) (h2:l.length + m.length≤9223372036854775807):app b l m=some (l ++ m):=by
  unfold app; rw[if_pos ⟨h1,h2⟩]
end Go.Vm
/- Plain laws of chapter 26: what follows by units. -/
namespace Go.Vm
open Go
theorem w64_n (i:Nat) (h:i≤9223372036854775806):w64 ((i:Int) + 1)=((i + 1:Nat):Int):=by rw[w64_id (by omega) (by omega)]; rfl
def goodB (x:Int):Bool:=decide (x≠0) && decide (-4096≤x) && decide (x≤4096)
theorem goodB_iff {x:Int}:goodB x=true↔x≠0 ∧ -4096≤x∧x≤4096:=by
  unfold goodB
  simp only[Bool.and_eq_true,decide_eq_true_eq,and_assoc]
theorem goodB_neg {x:Int} (h:goodB x=true):goodB (-x)=true:=by
  rw[goodB_iff] at h ⊢
  omega
def tV (V:List Int) (x:Int):Int:=if x < 0 then - V.getD x.natAbs 0 else V.getD x.natAbs 0
theorem tV_neg (V:List Int) {x:Int} (h:x≠0):tV V (-x) = - tV V x:=by
  unfold tV
  rw[Int.natAbs_neg]
  by_cases hx:x < 0
  · rw[if_pos hx,if_neg (by omega)]; omega
  · rw[if_neg hx,if_pos (by omega)]
end Go.Vm
/- Plain laws of chapter 26: PropRuns. -/
namespace Go.Vm
open Go
theorem row_len {s:List (List Int)} (ms:((s.map fun y=>((y.map fun y=>1).sum + 1)).sum + 1)≤1048576):s.length≤1048576∧∀ c∈s,c.length≤1048576:=by
  have key:∀ s:List (List Int),s.length≤(s.map fun y=>((y.map fun y=>1).sum + 1)).sum∧∀ c∈s,c.length≤(s.map fun y=>((y.map fun y=>1).sum + 1)).sum:=by
    intro s
    induction s with
    | nil=>exact⟨Nat.le_refl _,fun c hc=>by cases hc⟩
    | cons x s ih=>
      have hx:(x.map fun _=>1).sum=x.length:=by simp[List.map_const',List.sum_replicate_nat]
      simp only[List.map_cons,List.sum_cons,List.length_cons,hx]
      refine⟨by have:=ih.1; omega,fun c hc=>?_⟩
      rcases List.mem_cons.1 hc with rfl | hc
      · omega
      · have:=ih.2 c hc
        omega
  obtain⟨h1,h2⟩:=key s
  exact⟨by omega,fun c hc=>by have:=h2 c hc; omega⟩
end Go.Vm
/- Plain laws of chapter 26: what a run tells, whole. -/
set_option linter.unusedSectionVars false
namespace Go.Vm
open Go
theorem w64_neg {x:Int} (h:goodB x=true):w64 (0 - x) = -x:=by
  have:=goodB_iff.1 h
  rw[w64_id (by omega) (by omega)]
  omega
end Go.Vm
/- Plain laws of chapter 26: whether what is told is right, and all that follows. -/
namespace Go.Vm
open Go
theorem contains_eq26 (c:List Int) (hc:c.length≤1048576) (x:Int):slices_Contains_int_int c x=some (c.any fun y=>x == y):=by
  unfold slices_Contains_int_int slices_Index_int_int
  obtain⟨t,h1,h2⟩:=loopC_inv (f:=slices_Index_int_int_l1 c x) (fun z=>∃ i:Nat,z=i∧i≤c.length∧∀ y∈c.take i,(x == y)=false) (fun z=>c.length - z.toNat) (fun t=>(∃ i:Nat,t=Sum.inl (i:Int)∧c.any (fun y=>x == y)=true)∨(t=Sum.inr ()∧c.any (fun y=>x == y)=false)) (fun z hz=>by
    obtain⟨i,rfl,hi,hall⟩:=hz
    unfold slices_Index_int_int_l1
    rcases Nat.lt_or_ge i c.length with h | h
    · rw[if_pos (by simpa using h),ixl_nat h]
      simp only[Option.bind_some]
      cases e:(x == c[i]) with
      | true=>
        left
        exact⟨_,rfl,.inl ⟨i,rfl,List.any_eq_true.2 ⟨_,List.getElem_mem h,e⟩⟩⟩
      | false=>
        right
        rw[w64_n i (by omega)]
        refine⟨_,rfl,⟨i + 1,rfl,h,fun y hy=>?_⟩,by omega⟩
        rw[List.take_succ_eq_append_getElem h] at hy
        rcases List.mem_append.1 hy with hy | hy
        · exact hall y hy
        · rw[List.mem_singleton.1 hy]; exact e
    · left
      rw[if_neg (by simp; omega)]
      rw[List.take_of_length_le h] at hall
      exact⟨_,rfl,.inr ⟨rfl,List.any_eq_false.2 fun y hy=>by rw[hall y hy]; decide⟩⟩) (x:=0) ⟨0,rfl,Nat.zero_le _,fun y hy=>by simp at hy⟩
  rw[h1]
  rcases h2 with ⟨i,rfl,h2⟩ | ⟨rfl,h2⟩
  · rw[h2]
    simp
  · rw[h2]
    rfl
end Go.Vm
/- Plain laws of chapter 29: what units tell, over a map of which literals are true. -/
namespace Go.Vm
open Go
theorem rliteral_eq (x:Int):rup_literal x=some (goodB x):=by
  unfold rup_literal
  congr 1
  rw[Bool.eq_iff_iff,goodB_iff]
  simp
  omega
theorem mget_mput (s:List (Int × Int)) (k v k':Int):mget (mput s k v) k' = if k' = k then v else mget s k':=by
  induction s with
  | nil=>
    simp only[mput,mget]
    by_cases h:k=k'
    · rw[if_pos h,if_pos h.symm]
    · rw[if_neg h,if_neg fun q=>h q.symm]
  | cons e s ih=>
    simp only[mput]
    by_cases h:e.1=k
    · rw[if_pos h]
      simp only[mget]
      by_cases h2:k=k'
      · rw[if_pos h2,if_pos h2.symm]
      · rw[if_neg h2,if_neg fun q=>h2 q.symm,if_neg fun q=>h2 (h.symm.trans q)]
    · rw[if_neg h]
      simp only[mget]
      by_cases h2:e.1=k'
      · rw[if_pos h2,if_pos h2,if_neg fun q=>h (h2.trans q)]
      · rw[if_neg h2,if_neg h2,ih]
theorem mget_mem {s:List (Int × Int)} {k:Int}:mget s k=0∨(k,mget s k)∈s:=by
  induction s with
  | nil=>exact .inl rfl
  | cons e s ih=>
    simp only[mget]
    split
    · rename_i h
      subst h
      exact .inr (List.mem_cons_self ..)
    · rcases ih with h | h
      · exact .inl h
      · exact .inr (List.mem_cons_of_mem e h)
theorem mem_mput {s:List (Int × Int)} {k v:Int} {e:Int × Int} (h:e∈mput s k v):e=(k,v)∨e∈s:=by
  induction s with
  | nil=>exact .inl (List.mem_singleton.1 h)
  | cons f s ih=>
    simp only[mput] at h
    split at h
    · rcases List.mem_cons.1 h with h | h
      · exact .inl h
      · exact .inr (List.mem_cons_of_mem f h)
    · rcases List.mem_cons.1 h with h | h
      · exact .inr (h ▸ List.mem_cons_self ..)
      · rcases ih h with h | h
        · exact .inl h
        · exact .inr (List.mem_cons_of_mem f h)
def openN (s:List (Int × Int)):Nat:=((List.range 8193).map fun i:Nat=>(i:Int) - 4096).countP fun x=>decide (mget s x≤0)
theorem countP_lt {α:Type} {p q:α→Bool}:∀ (l:List α),(∀ x∈l,p x=true→q x=true)→(∃ x∈l,q x=true∧p x=false)→l.countP p < l.countP q
  | [],_,⟨x,h,_⟩=>by cases h
  | y :: l,h,⟨x,hx,h1,h2⟩=>by
    have hl:=fun x hx=>h x (List.mem_cons_of_mem y hx)
    have hle:l.countP p≤l.countP q:=List.countP_mono_left hl
    by_cases e:q y=true∧p y=false
    · rw[List.countP_cons_of_pos e.1,List.countP_cons_of_neg (by simp[e.2])]
      omega
    · have hx2:∃ x∈l,q x=true∧p x=false:=by
        rcases List.mem_cons.1 hx with rfl | hx
        · exact absurd ⟨h1,h2⟩ e
        · exact⟨x,hx,h1,h2⟩
      have ih:=countP_lt l hl hx2
      rw[List.countP_cons,List.countP_cons]
      have:=h y (List.mem_cons_self ..)
      cases hp:p y with
      | true=>rw[this hp]; omega
      | false=>
        cases hq:q y with
        | true=>exact absurd ⟨hq,hp⟩ e
        | false=>omega
theorem openN_lt {s:List (Int × Int)} {k v:Int} (hk:goodB k=true) (h0:mget s k≤0) (hv:0 < v):openN (mput s k v) < openN s:=by
  have:=goodB_iff.1 hk
  refine countP_lt _ (fun x _ h=>?_) ⟨k,List.mem_map.2 ⟨(k + 4096).toNat,List.mem_range.2 (by omega),by omega⟩,decide_eq_true h0,?_⟩
  · rw[mget_mput] at h
    split at h
    · simp only[decide_eq_true_eq] at h; omega
    · exact h
  · rw[mget_mput,if_pos rfl,decide_eq_false_iff_not]
    omega
def Truths (C:Prop) (M:Int→Bool) (B:Int) (s:List (Int × Int)):Prop:=∀ e∈s,goodB e.1=true∧(C→M e.1=true)∧0 < e.2∧e.2≤B
section
variable {C:Prop} {M:Int→Bool} {B:Int} {s:List (Int × Int)}
theorem Truths.le (h:Truths C M B s) (k:Int) (hB:0≤B):0≤mget s k∧mget s k≤B:=by
  rcases mget_mem (s:=s) (k:=k) with e | e
  · omega
  · have:=h _ e
    simp only at this
    omega
theorem Truths.pos (h:Truths C M B s) {k:Int} (hk:0 < mget s k):goodB k=true∧(C→M k=true):=by
  rcases mget_mem (s:=s) (k:=k) with e | e
  · omega
  · exact⟨(h _ e).1,(h _ e).2.1⟩
theorem Truths.put (h:Truths C M B s) {k v B':Int} (hk:goodB k=true) (hM:C→M k=true) (hv:0 < v) (hB:v≤B') (hB2:B≤B'):Truths C M B' (mput s k v):=fun e he=>by
  rcases mem_mput he with rfl | he
  · exact⟨hk,hM,hv,hB⟩
  · obtain⟨h1,h2,h3,h4⟩:=h e he
    exact⟨h1,h2,h3,Int.le_trans h4 hB2⟩
theorem isTrue_eq (s:List (Int × Int)) (k:Int):rup_sheet_isTrue s k=some (decide (mget s k > 0)):=rfl
theorem assume_eq (a:List Int) (ha:a.length≤1048576) (hneg:∀ x,goodB x=true→M (-x) = !M x) (hC:C→∀ x∈a,goodB x=true→M x=true) :
    ∃ t,loopC (rup_units_l1 a) ([],0)=some t∧((∃ s,t=Sum.inl s∧¬ C)∨∃ s,t=Sum.inr s∧Truths C M 1048576 s):=by
  refine loopC_inv (f:=rup_units_l1 a) (fun x=>∃ i:Nat,x.2=(i:Int)∧i≤a.length∧Truths C M (i:Int) x.1) (fun x=>a.length - x.2.toNat) _ (fun x hx=>?_) (x:=(([]:List (Int × Int)),(0:Int))) ⟨0,rfl,Nat.zero_le _,fun e he=>by cases he⟩
  obtain⟨s,z⟩:=x
  obtain⟨i,e,hi,hT⟩:=hx
  simp only at e hT
  subst e
  unfold rup_units_l1
  simp only[]
  rcases Nat.lt_or_ge i a.length with hlt | hge
  · have hm:=List.getElem_mem hlt
    rw[if_pos (by simpa using hlt),ixl_nat hlt]
    simp only[Option.bind_some,rliteral_eq]
    cases hg:goodB a[i] with
    | false=>
      right
      simp only[Bool.not_false,if_true,Option.bind_some]
      rw[w64_n i (by omega)]
      exact⟨(s,((i + 1:Nat):Int)),rfl,⟨i + 1,rfl,hlt,fun e he=>by
        obtain⟨h1,h2,h3,h4⟩:=hT e he
        exact⟨h1,h2,h3,by omega⟩⟩,by simp only[Int.toNat_natCast]; omega⟩
    | true=>
      simp only[Bool.not_true,Bool.false_eq_true,if_false,w64_neg hg,isTrue_eq,Option.bind_some]
      by_cases hp:mget s (-a[i]) > 0
      · left
        simp only[decide_eq_true hp,if_true,Option.bind_some]
        refine⟨_,rfl,.inl ⟨s,rfl,fun c=>?_⟩⟩
        have h1:=(hT.pos hp).2 c
        rw[hneg _ hg,hC c _ hm hg] at h1
        cases h1
      · right
        simp only[decide_eq_false hp,Bool.false_eq_true,if_false,Option.bind_some]
        have hb:=hT.le a[i] (by omega)
        rw[w64_n i (by omega),w64_id (x:=mget s a[i] + 1) (by omega) (by omega)]
        refine⟨(mput s a[i] (mget s a[i] + 1),((i + 1:Nat):Int)),rfl,⟨i + 1,rfl,hlt,?_⟩,by simp only[Int.toNat_natCast]; omega⟩
        exact hT.put hg (fun c=>hC c _ hm hg) (by omega) (by omega) (by omega)
  · left
    rw[if_neg (by simp; omega)]
    exact⟨_,rfl,.inr ⟨s,rfl,fun e he=>by
      obtain⟨h1,h2,h3,h4⟩:=hT e he
      exact⟨h1,h2,h3,by omega⟩⟩⟩
theorem skip_eq (s:List (Int × Int)) (c:List Int) (hc:c.length≤1048576):slices_ContainsFunc_int_int_se3d8 c s=some (c.any fun x=>!goodB x || decide (mget s x > 0)):=by
  unfold slices_ContainsFunc_int_int_se3d8 slices_IndexFunc_int_int_se3d8
  obtain⟨t,h1,h2⟩:=loopC_inv (f:=slices_IndexFunc_int_int_se3d8_l1 c s) (fun z=>∃ i:Nat,z=i∧i≤c.length∧∀ y∈c.take i,(!goodB y || decide (mget s y > 0))=false) (fun z=>c.length - z.toNat)
    (fun t=>(∃ i:Nat,∃ h:i < c.length,t=Sum.inl (i:Int)∧(!goodB c[i] || decide (mget s c[i] > 0))=true)∨(t=Sum.inr ()∧∀ y∈c,(!goodB y || decide (mget s y > 0))=false)) (fun z hz=>by
    obtain⟨i,rfl,hi,hall⟩:=hz
    unfold slices_IndexFunc_int_int_se3d8_l1
    rcases Nat.lt_or_ge i c.length with hlt | hge
    · have ev:rup_sheet_open_1_1_s467c c[i] s=some (!goodB c[i] || decide (mget s c[i] > 0)):=by
        unfold rup_sheet_open_1_1_s467c
        simp only[rliteral_eq,Option.bind_some,isTrue_eq]
        cases goodB c[i] <;> rfl
      rw[if_pos (by simpa using hlt),ixl_nat hlt]
      simp only[Option.bind_some,ev]
      cases e:(!goodB c[i] || decide (mget s c[i] > 0)) with
      | true=>exact .inl ⟨_,rfl,.inl ⟨i,hlt,rfl,e⟩⟩
      | false=>
        right
        simp only[Bool.false_eq_true,if_false]
        rw[w64_n i (by omega)]
        refine⟨_,rfl,⟨i + 1,rfl,hlt,fun y hy=>?_⟩,by omega⟩
        rw[List.take_succ_eq_append_getElem hlt] at hy
        rcases List.mem_append.1 hy with hy | hy
        · exact hall y hy
        · rw[List.mem_singleton.1 hy]; exact e
    · left
      have:i=c.length:=by omega
      subst this
      rw[List.take_length] at hall
      rw[if_neg (by simp)]
      exact⟨_,rfl,.inr ⟨rfl,hall⟩⟩) (x:=0) ⟨0,rfl,Nat.zero_le _,by simp⟩
  rw[h1]
  rcases h2 with ⟨i,h,rfl,e⟩ | ⟨rfl,e⟩
  · simp only[Option.bind_some]
    rw[decide_eq_true (by omega),List.any_eq_true.2 ⟨_,List.getElem_mem h,e⟩]
  · simp only[Option.bind_some]
    rw[List.any_eq_false.2 fun y hy=>by rw[e y hy]; decide]
    rfl
theorem left_eq (s:List (Int × Int)) (c:List Int) (hc:c.length≤1048576) (hg:∀ x∈c,goodB x=true) :
    ∃ r,loopC (rup_units_l2 s c) ([],0)=some r∧r.length≤c.length∧(∀ x∈r,x∈c)∧∀ y∈c,¬ mget s (-y) > 0→y∈r:=by
  obtain⟨t,h1,h2⟩:=loopC_inv (f:=rup_units_l2 s c) (fun x=>∃ i:Nat,x.2=(i:Int)∧i≤c.length∧x.1.length≤i∧(∀ w∈x.1,w∈c)∧∀ y∈c.take i,¬ mget s (-y) > 0→y∈x.1) (fun x=>c.length - x.2.toNat)
    (fun r=>r.length≤c.length∧(∀ x∈r,x∈c)∧∀ y∈c,¬ mget s (-y) > 0→y∈r) (fun x hx=>by
    obtain⟨r,z⟩:=x
    obtain⟨i,e,hi,hr,hm,hall⟩:=hx
    simp only at e hr hm hall
    subst e
    unfold rup_units_l2
    simp only[]
    rcases Nat.lt_or_ge i c.length with hlt | hge
    · right
      have hci:=List.getElem_mem hlt
      rw[if_pos (by simpa using hlt),ixl_nat hlt]
      simp only[Option.bind_some,w64_neg (hg _ hci),isTrue_eq,contains_eq26 r (by omega),w64_n i (by omega)]
      by_cases hp:mget s (-c[i]) > 0
      · simp only[decide_eq_true hp,Bool.not_true,Bool.false_eq_true,if_false,Option.bind_some]
        refine⟨(r,((i + 1:Nat):Int)),rfl,⟨i + 1,rfl,hlt,Nat.le_succ_of_le hr,hm,fun y hy hn=>?_⟩,by simp only[Int.toNat_natCast]; omega⟩
        rw[List.take_succ_eq_append_getElem hlt] at hy
        rcases List.mem_append.1 hy with hy | hy
        · exact hall y hy hn
        · rw[List.mem_singleton.1 hy] at hn; exact absurd hp hn
      · simp only[decide_eq_false hp,Bool.not_false,if_true,Option.bind_some]
        cases hq:r.any (fun y=>c[i] == y) with
        | true=>
          simp only[Bool.not_true,Bool.false_eq_true,if_false,Option.bind_some]
          refine⟨(r,((i + 1:Nat):Int)),rfl,⟨i + 1,rfl,hlt,Nat.le_succ_of_le hr,hm,fun y hy hn=>?_⟩,by simp only[Int.toNat_natCast]; omega⟩
          rw[List.take_succ_eq_append_getElem hlt] at hy
          rcases List.mem_append.1 hy with hy | hy
          · exact hall y hy hn
          · rw[List.mem_singleton.1 hy]
            obtain⟨x,hx,he⟩:=List.any_eq_true.1 hq
            rw[eq_of_beq he]
            exact hx
        | false=>
          simp only[Bool.not_false,if_true,Option.bind_some]
          rw[app_ok (by simp only[List.length_singleton]; omega) (by simp only[List.length_singleton]; omega)]
          refine⟨(r ++ [c[i]],((i + 1:Nat):Int)),rfl,⟨i + 1,rfl,hlt,by simp only[List.length_append,List.length_singleton]; omega,fun x hx=>?_,fun y hy hn=>?_⟩,by simp only[Int.toNat_natCast]; omega⟩
          · rcases List.mem_append.1 hx with hx | hx
            · exact hm x hx
            · rw[List.mem_singleton.1 hx]; exact hci
          · rw[List.take_succ_eq_append_getElem hlt] at hy
            rcases List.mem_append.1 hy with hy | hy
            · exact List.mem_append_left _ (hall y hy hn)
            · exact List.mem_append_right _ hy
    · left
      have:i=c.length:=by omega
      subst this
      rw[List.take_length] at hall
      rw[if_neg (by simp)]
      exact⟨_,rfl,hr,hm,hall⟩) (x:=(([]:List Int),(0:Int))) ⟨0,rfl,Nat.zero_le _,Nat.le_refl _,(fun x hx=>nomatch hx),by simp⟩
  exact⟨t,h1,h2⟩
theorem pass_eq (cls:List (List Int)) (hn:cls.length≤1048576) (hl:∀ c∈cls,c.length≤1048576) (hneg:∀ x,goodB x=true→M (-x) = !M x) (hC:C→∀ c∈cls,∃ y∈c,M y=true) (hB1:1≤B) (hT:Truths C M B s) :
    ∃ t,loopC (rup_units_l3 cls) (s,0)=some t∧((∃ s',t=Sum.inl s'∧¬ C)∨∃ s',t=Sum.inr s'∧Truths C M B s'∧(s'.length=s.length∨openN s' < openN s)):=by
  refine loopC_inv (f:=rup_units_l3 cls) (fun x=>∃ i:Nat,x.2=(i:Int)∧i≤cls.length∧Truths C M B x.1∧(x.1=s∨openN x.1 < openN s)) (fun x=>cls.length - x.2.toNat) _ (fun x hx=>?_) (x:=(s,(0:Int))) ⟨0,rfl,Nat.zero_le _,hT,.inl rfl⟩
  obtain⟨u,z⟩:=x
  obtain⟨i,e,hi,hU,hm⟩:=hx
  simp only at e hU hm
  subst e
  unfold rup_units_l3
  simp only[]
  rcases Nat.lt_or_ge i cls.length with hlt | hge
  · have hci:=List.getElem_mem hlt
    have hcl:=hl _ hci
    have stay:∃ y,(some (Step.next (u,((i + 1:Nat):Int))):Option (Step (List (Int × Int) × Int) ((List (Int × Int)) ⊕ (List (Int × Int)))))=some (.next y)∧(∃ i:Nat,y.2=(i:Int)∧i≤cls.length∧Truths C M B y.1∧(y.1=s∨openN y.1 < openN s))∧cls.length - y.2.toNat < cls.length - (i:Int).toNat:=
      ⟨(u,((i + 1:Nat):Int)),rfl,⟨i + 1,rfl,hlt,hU,hm⟩,by simp only[Int.toNat_natCast]; omega⟩
    rw[if_pos (by simpa using hlt),ixl_nat hlt]
    simp only[Option.bind_some,skip_eq u _ hcl,w64_n i (by omega)]
    cases hs:cls[i].any (fun x=>!goodB x || decide (mget u x > 0)) with
    | true=>
      right
      simpa using stay
    | false=>
      simp only[Bool.false_eq_true,if_false]
      have hf:=List.any_eq_false.1 hs
      have hg:∀ x∈cls[i],goodB x=true:=fun x hx=>by
        have:=hf x hx
        cases hg:goodB x with
        | true=>rfl
        | false=>rw[hg] at this; exact absurd rfl this
      obtain⟨r,r1,r2,r3,r4⟩:=left_eq u _ hcl hg
      rw[r1]
      have hC2:C→∃ y∈r,M y=true:=fun c=>by
        obtain⟨y,hy,h1⟩:=hC c _ hci
        refine⟨y,r4 y hy fun hp=>?_,h1⟩
        have:=(hU.pos hp).2 c
        rw[hneg y (hg y hy),h1] at this
        cases this
      simp only[Option.bind_some]
      match r,r2,r3,hC2 with
      | [],_,_,hC2=>
        left
        refine⟨_,rfl,.inl ⟨_,rfl,fun c=>?_⟩⟩
        obtain⟨y,hy,_⟩:=hC2 c
        cases hy
      | [x],_,r3,hC2=>
        have hgx:=hg x (r3 x (List.mem_singleton.2 rfl))
        have e0:ixl [x] 0=some x:=rfl
        have l0:((([x]:List Int).length:Int) == 0)=false:=rfl
        have l1:((([x]:List Int).length:Int) == 1)=true:=rfl
        rw[e0]
        simp only[l0,l1,Bool.false_eq_true,if_false,if_true,Option.bind_some,isTrue_eq]
        by_cases hp:mget u x > 0
        · right
          simpa[hp] using stay
        · right
          have hb:=hU.le x (by omega)
          simp only[decide_eq_false hp,Bool.not_false,if_true,Option.bind_some]
          rw[show mget u x=0 by omega,w64_id (x:=0 + 1) (by omega) (by omega)]
          refine⟨(mput u x (0 + 1),((i + 1:Nat):Int)),rfl,⟨i + 1,rfl,hlt,hU.put hgx (fun c=>?_) (by omega) (by omega) (Int.le_refl _),?_⟩,by simp only[Int.toNat_natCast]; omega⟩
          · obtain⟨y,hy,h1⟩:=hC2 c
            rw[List.mem_singleton.1 hy] at h1
            exact h1
          · have:=openN_lt (v:=0 + 1) hgx (by omega:mget u x≤0) (by omega)
            rcases hm with rfl | hm
            · exact .inr this
            · exact .inr (Nat.lt_trans this hm)
      | x :: y :: r,_,_,_=>
        right
        have l0:(((x :: y :: r:List Int).length:Int) == 0)=false:=by
          rw[beq_eq_false_iff_ne]; simp only[List.length_cons]; omega
        have l1:(((x :: y :: r:List Int).length:Int) == 1)=false:=by
          rw[beq_eq_false_iff_ne]; simp only[List.length_cons]; omega
        simp only[l0,l1,Bool.false_eq_true,if_false,Option.bind_some]
        exact stay
  · left
    rw[if_neg (by simp; omega)]
    refine⟨_,rfl,.inr ⟨u,rfl,hU,?_⟩⟩
    rcases hm with rfl | hm
    · exact .inl rfl
    · exact .inr hm
theorem units_ok (cls:List (List Int)) (a:List Int) (hn:cls.length≤1048576) (hl:∀ c∈cls,c.length≤1048576) (ha:a.length≤1048576) (hneg:∀ x,goodB x=true→M (-x) = !M x) (hC:C→∀ c∈cls,∃ y∈c,M y=true) (hA:C→∀ x∈a,goodB x=true→M x=true) :
    ∃ s b,rup_units cls a=some (s,b)∧(C→b=false):=by
  unfold rup_units
  obtain⟨t,h1,h2⟩:=assume_eq (C:=C) (M:=M) a ha hneg hA
  rw[h1]
  simp only[Option.bind_some]
  rcases h2 with ⟨s,rfl,hc⟩ | ⟨s,rfl,hT⟩
  · exact⟨s,true,rfl,fun c=>absurd c hc⟩
  · obtain⟨t,k1,k2⟩:=loopC_inv (f:=rup_units_l4 cls) (fun x=>Truths C M 1048576 x) openN (fun t=>C→t.2=false) (fun x hx=>by
      unfold rup_units_l4
      rw[show rup_sheet_open x cls=some () from rfl]
      simp only[Option.bind_some]
      obtain⟨t,h1,h2⟩:=pass_eq cls hn hl hneg hC (by decide) hx
      rw[h1]
      simp only[Option.bind_some]
      rcases h2 with ⟨s',rfl,hc⟩ | ⟨s',rfl,hT,hm⟩
      · exact .inl ⟨_,rfl,fun c=>absurd c hc⟩
      · by_cases e:s'.length=x.length
        · left
          refine⟨(s',false),?_,fun _=>rfl⟩
          simp[e]
        · right
          refine⟨s',?_,hT,?_⟩
          · have:((s'.length:Int) == (x.length:Int))=false:=by rw[beq_eq_false_iff_ne]; omega
            simp[this]
          · rcases hm with hm | hm
            · exact absurd hm e
            · exact hm) hT
    simp only[]
    rw[k1]
    obtain⟨s',b⟩:=t
    exact⟨s',b,rfl,k2⟩
theorem step_ok (cls:List (List Int)) (c:List Int) (hn:cls.length≤1048576) (hl:∀ c∈cls,c.length≤1048576) (hc:c.length≤1048576) (hneg:∀ x,goodB x=true→M (-x) = !M x) (hS:∀ c∈cls,∃ y∈c,M y=true) :
    ∃ b,rup_Step cls c=some b∧(b=true→(∀ y∈c,goodB y=true)∧∃ y∈c,M y=true):=by
  unfold rup_Step
  obtain⟨t,h1,h2⟩:=loopC_inv (f:=rup_Step_l1 c) (fun x=>∃ i:Nat,x.2=(i:Int)∧i≤c.length∧x.1.length=i∧(∀ y∈c.take i,goodB y=true)∧∀ y∈x.1,∃ z∈c,y = -z) (fun x=>c.length - x.2.toNat)
    (fun t=>t=Sum.inl ()∨∃ l,t=Sum.inr l∧l.length=c.length∧(∀ y∈c,goodB y=true)∧∀ y∈l,∃ z∈c,y = -z) (fun x hx=>by
    obtain⟨l,z⟩:=x
    obtain⟨i,e,hi,hll,hg,hz⟩:=hx
    simp only at e hll hg hz
    subst e
    unfold rup_Step_l1
    simp only[]
    rcases Nat.lt_or_ge i c.length with h | h
    · rw[if_pos (by simpa using h),ixl_nat h]
      simp only[Option.bind_some,rliteral_eq]
      cases hgi:goodB c[i] with
      | false=>exact .inl ⟨_,rfl,.inl rfl⟩
      | true=>
        right
        simp only[Bool.not_true,Bool.false_eq_true,if_false]
        rw[w64_neg hgi,app_ok (by simp only[List.length_singleton]; omega) (by simp only[List.length_singleton]; omega),w64_n i (by omega)]
        refine⟨(l ++ [-c[i]],((i + 1:Nat):Int)),rfl,⟨i + 1,rfl,h,by simp only[List.length_append,List.length_singleton]; omega,fun y hy=>?_,fun y hy=>?_⟩,by simp only[Int.toNat_natCast]; omega⟩
        · rw[List.take_succ_eq_append_getElem h] at hy
          rcases List.mem_append.1 hy with hy | hy
          · exact hg y hy
          · rw[List.mem_singleton.1 hy]; exact hgi
        · rcases List.mem_append.1 hy with hy | hy
          · exact hz y hy
          · exact⟨c[i],List.getElem_mem h,List.mem_singleton.1 hy⟩
    · left
      have:i=c.length:=by omega
      subst this
      rw[List.take_length] at hg
      rw[if_neg (by simp)]
      exact⟨_,rfl,.inr ⟨l,rfl,hll,hg,hz⟩⟩) (x:=(([]:List Int),(0:Int))) ⟨0,rfl,Nat.zero_le _,rfl,by simp,fun y hy=>by cases hy⟩
  rw[h1]
  simp only[Option.bind_some]
  rcases h2 with rfl | ⟨l,rfl,hll,hg,hz⟩
  · exact⟨false,rfl,fun q=>by cases q⟩
  · obtain⟨s,b,k1,k2⟩:=units_ok (C:=∀ y∈c,M y=false) (M:=M) cls l hn hl (by omega) hneg (fun _=>hS) (fun hf x hx _=>by
      obtain⟨z,hz1,rfl⟩:=hz x hx
      rw[hneg z (hg z hz1),hf z hz1]
      rfl)
    simp only[]
    rw[k1]
    refine⟨b,rfl,fun hb=>⟨hg,?_⟩⟩
    refine Classical.byContradiction fun hne=>?_
    have:∀ y∈c,M y=false:=fun y hy=>by
      cases hv:M y with
      | false=>rfl
      | true=>exact absurd ⟨y,hy,hv⟩ hne
    rw[k2 this] at hb
    cases hb
theorem check_ok (cls prf:List (List Int)) (hn:cls.length≤1000) (hn2:prf.length≤1000) (hl:∀ c∈cls,c.length≤1048576) (hl2:∀ c∈prf,c.length≤1048576) (hneg:∀ x,goodB x=true→M (-x) = !M x) (hS:∀ c∈cls,∃ y∈c,M y=true) :
    ∃ n:Int,rup_Check cls prf=some n∧(n=(prf.length:Int)→∀ c∈prf,∃ y∈c,M y=true):=by
  unfold rup_Check slices_Clone_int_int
  rw[app_ok (by simp only[List.length_nil]; omega) (by simp only[List.length_nil]; omega)]
  simp only[Option.bind_some,List.nil_append]
  obtain⟨t,h1,h2⟩:=loopC_inv (f:=rup_Check_l1 prf) (fun x=>∃ i:Nat,x.2=(i:Int)∧i≤prf.length∧x.1=cls ++ prf.take i∧∀ c∈prf.take i,∃ y∈c,M y=true) (fun x=>prf.length - x.2.toNat)
    (fun t=>(∃ i:Nat,t=Sum.inl (i:Int)∧i < prf.length)∨(t=Sum.inr ()∧∀ c∈prf,∃ y∈c,M y=true)) (fun x hx=>by
    obtain⟨l,z⟩:=x
    obtain⟨i,e,hi,e2,hall⟩:=hx
    simp only at e e2
    subst e e2
    unfold rup_Check_l1
    simp only[]
    rcases Nat.lt_or_ge i prf.length with h | h
    · have hlen:(cls ++ prf.take i).length≤2000:=by simp only[List.length_append,List.length_take]; omega
      have hm:=List.getElem_mem h
      rw[if_pos (by simpa using h),ixl_nat h]
      simp only[Option.bind_some]
      obtain⟨b,b1,b2⟩:=step_ok (cls ++ prf.take i) prf[i] (by omega) (fun c hc=>by
        rcases List.mem_append.1 hc with hc | hc
        · exact hl c hc
        · exact hl2 c (List.mem_of_mem_take hc)) (hl2 _ hm) hneg (fun c hc=>by
        rcases List.mem_append.1 hc with hc | hc
        · exact hS c hc
        · exact hall c hc)
      rw[b1]
      simp only[Option.bind_some]
      cases b with
      | false=>exact .inl ⟨_,rfl,.inl ⟨i,rfl,h⟩⟩
      | true=>
        right
        simp only[Bool.not_true,Bool.false_eq_true,if_false]
        rw[app_ok (by simp only[List.length_singleton]; omega) (by simp only[List.length_singleton]; omega),w64_n i (by omega)]
        refine⟨(cls ++ prf.take i ++ [prf[i]],((i + 1:Nat):Int)),rfl,⟨i + 1,rfl,h,by simp only[List.take_succ_eq_append_getElem h,List.append_assoc],fun c hc=>?_⟩,by simp only[Int.toNat_natCast]; omega⟩
        rw[List.take_succ_eq_append_getElem h] at hc
        rcases List.mem_append.1 hc with hc | hc
        · exact hall c hc
        · rw[List.mem_singleton.1 hc]; exact (b2 rfl).2
    · left
      have:i=prf.length:=by omega
      subst this
      rw[List.take_length] at hall
      rw[if_neg (by simp)]
      exact⟨_,rfl,.inr ⟨rfl,hall⟩⟩) (x:=(cls,(0:Int))) ⟨0,rfl,Nat.zero_le _,by simp,by simp⟩
  rw[h1]
  simp only[Option.bind_some]
  rcases h2 with ⟨i,rfl,h⟩ | ⟨rfl,h⟩
  · exact⟨_,rfl,fun q=>by omega⟩
  · exact⟨_,rfl,fun _=>h⟩
theorem refutes_ok (cls prf:List (List Int)) (hn:cls.length≤1000) (hn2:prf.length≤1000) (hl:∀ c∈cls,c.length≤1048576) (hl2:∀ c∈prf,c.length≤1048576) (hneg:∀ x,goodB x=true→M (-x) = !M x) (hS:∀ c∈cls,∃ y∈c,M y=true) :
    rup_Refutes cls prf=some false:=by
  unfold rup_Refutes
  obtain⟨n,h1,h2⟩:=check_ok cls prf hn hn2 hl hl2 hneg hS
  rcases Nat.eq_zero_or_pos prf.length with e | e
  · have:prf=[]:=List.eq_nil_of_length_eq_zero e
    subst this
    rfl
  · have hlt:prf.length - 1 < prf.length:=by omega
    rw[if_pos (by simpa using e),show w64 ((prf.length:Int) - 1)=((prf.length - 1:Nat):Int) by rw[w64_id (by omega) (by omega)]; omega,ixl_nat hlt,h1]
    simp only[Option.bind_some]
    cases hq:(((prf[prf.length - 1]'hlt).length:Int) == 0) with
    | false=>rfl
    | true=>
      simp only[if_true,Option.bind_some]
      congr 1
      rw[beq_eq_false_iff_ne]
      intro q
      obtain⟨y,hy,_⟩:=h2 q _ (List.getElem_mem hlt)
      have:(prf[prf.length - 1]'hlt).length=0:=by have:=eq_of_beq hq; omega
      rw[List.eq_nil_of_length_eq_zero this] at hy
      cases hy
end
end Go.Vm
/- Plain laws of chapter 26: what a run tells is true wherever the clauses and what is assumed are. -/
namespace Go.Vm
open Go
def smallB (x:Int):Prop:=x≠0 ∧ -30≤x∧x≤30
theorem small_good {x:Int} (h:smallB x):goodB x=true:=goodB_iff.2 ⟨h.1,by have:=h.2; omega,by have:=h.2; omega⟩
section
variable {is:Int→Bool} (hneg:∀ x,smallB x→is (-x) = !is x)
include hneg
def TrueBy (is:Int→Bool) (V:List Int):Prop:=∀ y,goodB y=true→tV V y=1→smallB y∧is y=true
theorem not_false {V:List Int} (hI:TrueBy is V) {y:Int} (hy:smallB y) (h1:is y=true):tV V y ≠ -1:=fun e=>by
  have h2:tV V (-y)=1:=by rw[tV_neg V hy.1,e]; rfl
  have:=(hI (-y) (goodB_neg (small_good hy)) h2).2
  rw[hneg y hy,h1] at this
  cases this
end
end Go.Vm
/- Plain laws of chapter 26: PropSound. -/
namespace Go.Vm
open Go
theorem and1 (s:Int):∃ r,andI .u32 s 1=some r∧(r=0∨r=1):=by
  refine⟨_,rfl,?_⟩
  have h:(BitVec.ofInt IntKind.u32.bits s &&& BitVec.ofInt IntKind.u32.bits 1).toNat=(BitVec.ofInt 32 s).toNat % 2:=by
    show (BitVec.ofInt 32 s &&& 1#32).toNat=_
    rw[BitVec.toNat_and]
    exact Nat.and_one_is_mod _
  rw[h]
  rcases Nat.mod_two_eq_zero_or_one (BitVec.ofInt 32 s).toNat with e | e
  · rw[e]; exact .inl (by decide)
  · rw[e]; exact .inr (by decide)
end Go.Vm
/- Plain laws of chapter 26: PropSound. -/
namespace Go.Vm
open Go
theorem walkT {α τ:Type} {ws:List α} {f:Int→Option (Step Int (Bool ⊕ τ))} {u:τ} {P:α→Prop} (hn:ws.length≤1048576)
    (hs:∀ (i:Nat) (h:i < ws.length),f (i:Int)=some (.done (Sum.inl true))∨(f (i:Int)=some (.next ((i + 1:Nat):Int))∧P ws[i])) (he:f (ws.length:Int)=some (.done (Sum.inr u))) :
    loopC f 0=some (Sum.inl true)∨(loopC f 0=some (Sum.inr u)∧∀ x∈ws,P x):=by
  obtain⟨t,h1,h2⟩:=loopC_inv (f:=f) (fun x=>∃ i:Nat,x=(i:Int)∧i≤ws.length∧∀ y∈ws.take i,P y) (fun x=>ws.length - x.toNat) (fun t=>t=Sum.inl true∨(t=Sum.inr u∧∀ x∈ws,P x)) (fun x hx=>by
    obtain⟨i,rfl,hi,hall⟩:=hx
    rcases Nat.lt_or_ge i ws.length with h | h
    · rcases hs i h with e | ⟨e1,e2⟩
      · exact .inl ⟨_,e,.inl rfl⟩
      · refine .inr ⟨_,e1,⟨i + 1,rfl,h,fun y hy=>?_⟩,by omega⟩
        rw[List.take_succ_eq_append_getElem h] at hy
        rcases List.mem_append.1 hy with hy | hy
        · exact hall y hy
        · rw[List.mem_singleton.1 hy]; exact e2
    · have:i=ws.length:=by omega
      subst this
      rw[List.take_length] at hall
      exact .inl ⟨_,he,.inr ⟨rfl,hall⟩⟩) (x:=0) ⟨0,rfl,Nat.zero_le _,by simp⟩
  rcases h2 with rfl | ⟨rfl,h2⟩
  · exact .inl h1
  · exact .inr ⟨h1,h2⟩
end Go.Vm
/- Plain laws of chapter 29: RupSound. -/
namespace Go.Vm
open Go
theorem awake29_t:law29_awake=some true:=rfl
theorem fewr_eq (l:List (List Int)) (hl:l.length≤1048576):law29_few l=some (l.take 30):=by
  unfold law29_few subl
  by_cases e:30 < (l.length:Int)
  · rw[if_pos e,if_pos (by omega)]
    simp
  · rw[if_neg e,if_pos (by omega)]
    simp only[Option.bind_some,Int.toNat_natCast,Int.toNat_zero,List.drop_zero,Nat.sub_zero,List.take_length]
    rw[List.take_of_length_le (by omega)]
theorem is29_pos (b:Int) {x:Int} (h0:0 < x) (h1:x < 31):∃ r:Int,(r=0∨r=1)∧law29_RupSound_1_sb011 x b=some (r == 1)∧law29_RupSound_1_sb011 (-x) b=some (r == 0):=by
  obtain⟨r,hr,hr2⟩:=and1 (b.fdiv (2 ^ (min x.toNat IntKind.u32.bits)))
  have hsh:shrI .u32 b x=some (b.fdiv (2 ^ (min x.toNat IntKind.u32.bits))):=by
    unfold shrI
    rw[if_neg (by omega)]
  refine⟨r,hr2,?_,?_⟩
  · unfold law29_RupSound_1_sb011
    rw[if_pos (by simp[h0,h1]),hsh]
    simp only[Option.bind_some,hr]
    have hx0:decide (x < 0)=false:=by rw[decide_eq_false_iff_not]; omega
    cases hb:(r == 1) with
    | true=>rfl
    | false=>simp[hx0]
  · unfold law29_RupSound_1_sb011
    rw[if_neg (by simp; omega),w64_id (x:=0 - -x) (by omega) (by omega),show 0 - -x=x by omega,hsh,if_pos (by simp; omega)]
    simp only[Option.bind_some,hr,Bool.false_eq_true,if_false,Bool.false_or]
noncomputable def isR (b x:Int):Bool:=(law29_RupSound_1_sb011 x b).getD false
theorem isR_small (b:Int) {x:Int} (h:smallB x):law29_RupSound_1_sb011 x b=some (isR b x)∧isR b (-x) = !isR b x:=by
  unfold isR
  have key:∀ r:Int,(r=0∨r=1)→(r == 0) = !(r == 1):=by
    rintro r (rfl | rfl) <;> rfl
  obtain⟨h0,h1,h2⟩:=h
  by_cases hp:0 < x
  · obtain⟨r,hr,e1,e2⟩:=is29_pos b hp (by omega)
    rw[e1,e2]
    exact⟨rfl,key r hr⟩
  · obtain⟨r,hr,e1,e2⟩:=is29_pos b (x:= -x) (by omega) (by omega)
    rw[Int.neg_neg] at e2
    rw[e1,e2]
    refine⟨rfl,?_⟩
    show (r == 1) = !(r == 0)
    rw[key r hr,Bool.not_not]
noncomputable def modR (b x:Int):Bool:=if -30≤x∧x≤30 then isR b x else decide (0 < x)
theorem modR_neg (b:Int) {x:Int} (h:goodB x=true):modR b (-x) = !modR b x:=by
  have hg:=goodB_iff.1 h
  unfold modR
  by_cases e : -30≤x∧x≤30
  · rw[if_pos e,if_pos (by omega)]
    exact (isR_small b ⟨hg.1,e.1,e.2⟩).2
  · rw[if_neg e,if_neg (by omega)]
    by_cases p:0 < x
    · rw[decide_eq_true p,decide_eq_false (by omega)]; rfl
    · rw[decide_eq_false p,decide_eq_true (by omega)]; rfl
theorem modR_small (b:Int) {x:Int} (h:smallB x):modR b x=isR b x:=if_pos ⟨h.2.1,h.2.2⟩
theorem rl1 (b:Int) (c:List Int) (hc:c.length≤1048576):loopC (law29_RupSound_l1 b c) (false,0)=some (Sum.inl true)∨(∃ q,loopC (law29_RupSound_l1 b c) (false,0)=some (Sum.inr q)∧(∀ x∈c,smallB x)∧(q=true→∃ y∈c,isR b y=true)):=by
  obtain⟨t,h1,h2⟩:=loopC_inv (f:=law29_RupSound_l1 b c) (fun x=>∃ i:Nat,x.2=(i:Int)∧i≤c.length∧(∀ y∈c.take i,smallB y)∧(x.1=true→∃ y∈c,isR b y=true)) (fun x=>c.length - x.2.toNat) (fun t=>t=Sum.inl true∨∃ q,t=Sum.inr q∧(∀ x∈c,smallB x)∧(q=true→∃ y∈c,isR b y=true)) (fun x hx=>by
    obtain⟨q,z⟩:=x
    obtain⟨i,e,hi,hall,hq⟩:=hx
    simp only at e hq
    subst e
    unfold law29_RupSound_l1
    simp only[]
    rcases Nat.lt_or_ge i c.length with h | h
    · rw[if_pos (by simpa using h),ixl_nat h]
      simp only[Option.bind_some,awake29_t]
      by_cases e:smallB c[i]
      · right
        have e':=e
        obtain⟨e1,e2,e3⟩:=e'
        rw[if_neg (by simp[e1]; omega),w64_n i (by omega),(isR_small b e).1]
        have hall2:∀ y∈c.take (i + 1),smallB y:=fun y hy=>by
          rw[List.take_succ_eq_append_getElem h] at hy
          rcases List.mem_append.1 hy with hy | hy
          · exact hall y hy
          · rw[List.mem_singleton.1 hy]; exact e
        cases q with
        | true=>
          exact⟨(true,((i + 1:Nat):Int)),rfl,⟨i + 1,rfl,h,hall2,hq⟩,by simp only[Int.toNat_natCast]; omega⟩
        | false=>
          exact⟨(isR b c[i],((i + 1:Nat):Int)),rfl,⟨i + 1,rfl,h,hall2,fun g=>⟨_,List.getElem_mem h,g⟩⟩,by simp only[Int.toNat_natCast]; omega⟩
      · left
        rw[if_pos (by
          simp only[Bool.or_eq_true,beq_iff_eq,decide_eq_true_eq]
          unfold smallB at e
          omega)]
        exact⟨_,rfl,.inl rfl⟩
    · left
      have:i=c.length:=by omega
      subst this
      rw[if_neg (by simp)]
      rw[List.take_length] at hall
      exact⟨_,rfl,.inr ⟨q,rfl,hall,hq⟩⟩) (x:=(false,(0:Int))) ⟨0,rfl,Nat.zero_le _,by simp,fun q=>by cases q⟩
  rcases h2 with rfl | ⟨q,rfl,h2⟩
  · exact .inl h1
  · exact .inr ⟨q,h1,h2⟩
theorem rl2 (b:Int) (cls:List (List Int)) (hn:cls.length≤1048576) (hl:∀ c∈cls,c.length≤1048576):loopC (law29_RupSound_l2 b cls) 0=some (Sum.inl true)∨(loopC (law29_RupSound_l2 b cls) 0=some (Sum.inr ())∧∀ c∈cls,(∀ x∈c,smallB x)∧∃ y∈c,isR b y=true):=
  walkT (ws:=cls) (f:=law29_RupSound_l2 b cls) (u:=()) (P:=fun c=>(∀ x∈c,smallB x)∧∃ y∈c,isR b y=true) hn (fun i h=>by
    unfold law29_RupSound_l2
    rw[if_pos (by simpa using h),ixl_nat h]
    simp only[Option.bind_some]
    rcases rl1 b _ (hl _ (List.getElem_mem h)) with e | ⟨q,e,e2,e3⟩
    · rw[e]; exact .inl rfl
    · rw[e,w64_n i (by omega)]
      cases q with
      | false=>exact .inl rfl
      | true=>exact .inr ⟨rfl,e2,e3 rfl⟩) (by
    unfold law29_RupSound_l2
    rw[if_neg (by simp)])
theorem rl3 (b:Int) (c:List Int) (hc:c.length≤1048576) (hg:∀ y∈c,goodB y=true) (h:∃ y∈c,modR b y=true):loopC (law29_RupSound_l3 c b) 0=some (Sum.inl true):=by
  obtain⟨y,hy,hm⟩:=h
  rcases walkT (ws:=c) (f:=law29_RupSound_l3 c b) (u:=()) (P:=fun x=>smallB x∧isR b x=false) hc (fun i h=>by
    unfold law29_RupSound_l3
    rw[if_pos (by simpa using h),ixl_nat h]
    simp only[Option.bind_some,awake29_t]
    have hg1:=goodB_iff.1 (hg _ (List.getElem_mem h))
    by_cases e:smallB c[i]
    · rw[if_neg (by have:=e.2; simp; omega),(isR_small b e).1,w64_n i (by omega)]
      simp only[Option.bind_some]
      cases hb:isR b c[i] with
      | true=>exact .inl rfl
      | false=>exact .inr ⟨rfl,e,rfl⟩
    · rw[if_pos (by
        simp only[Bool.or_eq_true,decide_eq_true_eq]
        unfold smallB at e
        omega)]
      exact .inl rfl) (by
    unfold law29_RupSound_l3
    rw[if_neg (by simp)]) with e | ⟨e,hh⟩
  · exact e
  · obtain⟨h1,h2⟩:=hh y hy
    rw[modR_small b h1,h2] at hm
    cases hm
theorem RupSound_true (a0 a1:List (List Int)) (a2:List Int) (a3:Int) (_:∀ c∈a0,∀ y∈c,(Lit.int .i64 y).wf=true) (_:∀ c∈a1,∀ y∈c,(Lit.int .i64 y).wf=true) (_:∀ y∈a2,(Lit.int .i64 y).wf=true) (_:(Lit.int .u32 a3).wf=true)
    (m0:((a0.map fun y=>((y.map fun y=>1).sum + 1)).sum + 1)≤1048576) (m1:((a1.map fun y=>((y.map fun y=>1).sum + 1)).sum + 1)≤1048576) (m2:((a2.map fun y=>1).sum + 1)≤1048576):law29_RupSound a0 a1 a2 a3=some true:=by
  obtain⟨l0,c0⟩:=row_len m0
  obtain⟨l1,c1⟩:=row_len m1
  have l2:a2.length≤1048576:=by simp only[List.map_const',List.sum_replicate_nat] at m2; omega
  unfold law29_RupSound
  rw[fewr_eq a0 l0]
  simp only[Option.bind_some]
  have hcl:∀ c∈a0.take 30,c.length≤1048576:=fun c hc=>c0 c (List.mem_of_mem_take hc)
  have hnl:(a0.take 30).length≤30:=by rw[List.length_take]; omega
  generalize a0.take 30=cls at hcl hnl
  rcases rl2 a3 cls (by omega) hcl with e | ⟨e,hs⟩
  · rw[e]; rfl
  rw[e]
  simp only[Option.bind_some]
  rw[fewr_eq a1 l1]
  have hpl:∀ c∈a1.take 30,c.length≤1048576:=fun c hc=>c1 c (List.mem_of_mem_take hc)
  have hnp:(a1.take 30).length≤30:=by rw[List.length_take]; omega
  generalize a1.take 30=prf at hpl hnp
  have hS:∀ c∈cls,∃ y∈c,modR a3 y=true:=fun c hc=>by
    obtain⟨h1,y,hy,h2⟩:=hs c hc
    exact⟨y,hy,by rw[modR_small a3 (h1 y hy)]; exact h2⟩
  simp only[Option.bind_some]
  rw[refutes_ok cls prf (by omega) (by omega) hcl hpl (fun x hx=>modR_neg a3 hx) hS]
  simp only[Option.bind_some,Bool.false_eq_true,if_false]
  obtain⟨b,b1,b2⟩:=step_ok cls a2 (by omega) hcl l2 (fun x hx=>modR_neg a3 hx) hS
  rw[b1]
  cases b with
  | false=>rfl
  | true=>
    obtain⟨hg,h⟩:=b2 rfl
    simp only[Option.bind_some,Bool.not_true,Bool.false_eq_true,if_false]
    rw[rl3 a3 a2 l2 hg h]
    rfl
end Go.Vm

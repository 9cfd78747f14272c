/- The law RupBack, a part of its proof: what the functions that it reaches compute. -/
import Derived.WalkKit
import Derived.ProofKit
import Derived.OpenShut
import Derived.Below
import Derived.ChangeSame
import Derived.Deep.DeepHandedRow
import Derived.Carry
import Derived.Test.YtgkpnkfbhhfonaaDoorAx6c94715a
import Derived.Test.YtgkpnkfbhhfonaaDoorFxe669e80b
import Derived.Lib.Join
import Derived.Lib.SlTrimSet
import Derived.Lib.IndexAny
import Derived.Shelf.Small.Strs
import Derived.Sort.Row
import Derived.Sort.Grow
import Derived.Lib.SlicesCompact
import Derived.WalkSmall
import Derived.Shelf.Strconv.AppendUint10
import Derived.Shelf.Strconv.ErrVarAll
import Derived.Test.YtgkpnkfbhhfonaaDoorDx854d873f
import Derived.Shelf.Strconv.Itoa3
import Derived.Deep.Strs
import Derived.Lib.Bytealg
import Derived.Test.YtgkpnkfbhhfonaaDoorG0RupBack
import Derived.Test.YtgkpnkfbhhfonaaDoorW29RupBack
set_option linter.unusedVariables false
set_option linter.unusedSimpArgs false
/- What a row asks behind a call that has left all that was there as it was. -/
namespace Go.Vm
open Go Go.RowKit Go.WideShapes Go.ChangeShapes
theorem row_below {H:Type} {enc:TypeId × Value→H} {P:Program} {f:Func} {s:ChangeSpec} {apart fresh handsOn again:Bool} {W W':World} {args:Array Value} {v:Value} {ds gs:List (DataW H)} {before pa pv:List MemPlace}
    (hW:DataW.Whole enc P f.params.toList s.vars apart W args.toList ds gs before) (hb:Below W.heap.size W W') (hp:before=pa ++ pv)
    (hr:∀ (b:Nat) (sp:Nat→Bool) (hd:Bool),DataW.TrodAll enc P W' b sp hd f.resultTypes.toList (v.resultList f.resultTypes.size) (s.fn H (ds ++ gs)).results [])
    (ha:∀ sp:Nat→Bool,(∀ p∈before,sp p.block=true)→DataW.TrodAll enc P W' 0 sp true f.params.toList args.toList (s.fn H (ds ++ gs)).args pa)
    (hv:∀ sp:Nat→Bool,(∀ p∈before,sp p.block=true)→DataW.TrodVars enc P W' sp s.vars (s.fn H (ds ++ gs)).vars pv)
    (ho:∀ (j:Nat) (t:TypeId) (r:Value),f.resultTypes[j]? = some t→(v.resultList f.resultTypes.size)[j]? = some r→Value.okWide P W' .any 0 t r) :
    s.post enc P f apart fresh handsOn again W args v W':=by
  have small:∀ p∈before,decide (p.block < W.heap.size)=true:=fun p h=>decide_eq_true (hW.lt p h)
  refine⟨ds,gs,before,[],pa,pv,hW,hr _ _ _,ha (fun b=>decide (b < W.heap.size)) small,hv _ small,hb.frame _,fun _=>⟨ho,?_⟩⟩
  obtain⟨_,_,_,_,_,hz,hn⟩:=hW
  refine⟨_,_,([] ++ pa) ++ pv,⟨[] ++ pa,pv,trodAll_append (ha _ fun _ _=>rfl) (hr _ _ _),hv _ fun _ _=>rfl,rfl,fun b off hm=>?_,fun h=>?_⟩,?_⟩
  · have hm':MemPlace.cell b off∈before:=by rw[hp]; simpa using hm
    rw[hb.frozen (of_decide_eq_true (small _ hm'))]
    exact hz b off hm'
  · have:=hn h
    rw[hp] at this
    simpa using this
  · intro x hx _
    rw[hp]
    simpa using hx
end Go.Vm
/- From what a row lists of the library's tables to what the evaluator asks. -/
namespace Go.Vm
open Go
theorem tab_of_vars {P:Program} {W:World} {name:String} {k:IntKind} {zs:List Int} {g:Nat} {t e:TypeId} {n:Nat}
    (hg:P.globalNamed name=some g) (hty:(P.globals[g]?).map (·.type)=some t) (ht:P.underlying t=some (.array n e)) (he:P.underlying e=some (.int k)) (hce:P.cellsOf e=1) (hct:P.cellsOf t=n) :
    ∀ {laid:List (String × DataW Unit)} {ps:List MemPlace},DataW.LaidVars P W laid ps→(name,Lib.tabData k zs)∈laid→Lib.TabIs P W name k zs
  | [],_,_,hm=>by cases hm
  | (x,d) :: laid,ps,h,hm=>by
    obtain⟨g',t',cs,fuel,p,q,hg',ht',hvar,hd,hr,_⟩:=h
    rcases List.mem_cons.1 hm with hm | hm
    · cases hm
      obtain rfl:=Option.some.inj (hg.symm.trans hg')
      obtain rfl:=Option.some.inj (hty.symm.trans ht')
      unfold Lib.TabIs
      rw[hvar,← Lib.cells_of_tab ht he hce hct hd]
    · exact tab_of_vars hg hty ht he hce hct hr hm
theorem cells_of_tabIs {P:Program} {W:World} {name:String} {k:IntKind} {zs:List Int} {g:Nat} (h:Lib.TabIs P W name k zs) (hg:P.globalNamed name=some g) :
    g < W.heap.size∧∃ cs T fz,W.heap[g]? = some (.cells cs T fz)∧cs=(zs.map fun z=>Value.int k z).toArray:=by
  unfold Lib.TabIs World.var? at h
  rw[hg] at h
  simp only[Option.bind_some] at h
  split at h
  · rename_i cs T fz e
    cases h
    exact⟨(Array.getElem?_eq_some_iff.1 e).1,_,T,fz,e,rfl⟩
  · cases h
theorem iface_of_trod {P:Program} {w:World} {fuel:Nat} {t:TypeId} {cs:List Value} {ms:Array (String × TypeId)} {nm:String} {d:DataW Unit} {p:List MemPlace} (ht:P.underlying t=some (.interface ms))
    (h:DataW.trod (fun _=>()) P w 0 (fun _=>true) false fuel t cs=some (.iface nm d,p)):∃ u v,cs=[.iface u v]:=by
  cases fuel with
  | zero=>simp[DataW.trod] at h
  | succ fuel=>
    unfold DataW.trod at h
    rw[ht] at h
    match cs,h with
    | [.iface u v],_=>exact⟨u,v,rfl⟩
    | [.nilIface],h=>simp at h
theorem iface_of_vars {P:Program} {W:World} {name nm:String} {g:Nat} {t:TypeId} {ms:Array (String × TypeId)} {dd:DataW Unit}
    (hg:P.globalNamed name=some g) (hty:(P.globals[g]?).map (·.type)=some t) (ht:P.underlying t=some (.interface ms)) :
    ∀ {laid:List (String × DataW Unit)} {ps:List MemPlace},DataW.LaidVars P W laid ps→(name,DataW.iface nm dd)∈laid→g < W.heap.size∧∃ cs T fz,W.heap[g]? = some (.cells cs T fz)∧∃ tp p,cs = #[.iface tp p]
  | [],_,_,hm=>by cases hm
  | (x,d) :: laid,ps,h,hm=>by
    obtain⟨g',t',cs,fuel,p,q,hg',ht',hvar,hd,hr,_⟩:=h
    rcases List.mem_cons.1 hm with hm | hm
    · cases hm
      obtain rfl:=Option.some.inj (hg.symm.trans hg')
      obtain rfl:=Option.some.inj (hty.symm.trans ht')
      obtain⟨u,v,e⟩:=iface_of_trod ht hd
      unfold World.var? at hvar
      rw[hg] at hvar
      simp only[Option.bind_some] at hvar
      split at hvar
      · rename_i cs' T fz e2
        cases hvar
        exact⟨(Array.getElem?_eq_some_iff.1 e2).1,_,T,fz,e2,u,v,by apply Array.ext'; rw[e]⟩
      · cases hvar
    · exact iface_of_vars hg hty ht hr hm
end Go.Vm
/- Functions that are taken for known: from what the shelf says of them. -/
set_option linter.unusedVariables false
set_option linter.unusedSimpArgs false
namespace Go.Vm
open Go Go.RowKit
theorem post_below {K:Cx} {base:Nat} {h:AHeap} (H:HRel K base h) {v:AV} {cv:Value} {w':World} (hb:Below K.w.heap.size K.w w') (hv:∀ K',VRel K' v cv):CallPost K base h K.c v (.returned cv) w':=by
  let K':Cx:={ K with w:=w' }
  have S:K.Step K':=⟨Nat.le_refl _,fun _ _=>rfl,hb.os,hb.tape,hb.output,hb.size,fun b h1 h2=>⟨hb.block b h1,h2⟩,rfl,fun l ⟨R,hR⟩=>⟨R,(hb.block l (by
    rcases Nat.lt_or_ge l K.w.heap.size with hlt | hge
    · exact hlt
    · rw[Array.getElem?_eq_none hge] at hR; cases hR)).trans hR⟩⟩
  exact⟨K',cv,rfl,rfl,S,H.step S (fun b hL=>hb.block b (H.bs b hL).2) rfl,rfl,hv K'⟩
theorem prim_ss {P:Program} {g:FuncId} {p:List AV→Option AV} (hf:∀ args v,p args=some v→∃ a b r,args=[.s (.string a),.s (.string b)]∧v = .s r∧∀ w,Calls P g #[.string a,.string b] w fun e w'=>e = .returned r∧Below w.heap.size w w') :
    ∀ args v,p args=some v→∀ (K:Cx) (base:Nat) (h:AHeap) (cargs:Array Value),HRel K base h→VRels K args cargs.toList→∀ N,CallsIn Fence.wide N P g cargs K.w (CallPost K base h K.c v):=fun args v hp K base h cargs H hr N=>by
  obtain⟨a,b,r,rfl,rfl,hc⟩:=hf args v hp
  obtain⟨cl,rfl⟩:∃ l:List Value,cargs=l.toArray:=⟨cargs.toList,by simp⟩
  match cl,hr with
  | [x,y],hr=>
    simp only[VRels,VRel] at hr
    obtain⟨rfl,rfl,_⟩:=hr
    refine callsIn_wide.2 ((hc K.w).mono ?_)
    rintro e w' ⟨rfl,hb⟩
    exact post_below H hb fun K'=>by simp[VRel]
  | [],hr=>simp[VRels] at hr
  | [_],hr=>simp[VRels] at hr
  | _ :: _ :: _ :: _,hr=>simp[VRels] at hr
theorem prim_si {P:Program} {g:FuncId} {p:List AV→Option AV} (hf:∀ args v,p args=some v→∃ a k c r,args=[.s (.string a),.s (.int k c)]∧v = .s r∧∀ w,Calls P g #[.string a,.int k c] w fun e w'=>e = .returned r∧Below w.heap.size w w') :
    ∀ args v,p args=some v→∀ (K:Cx) (base:Nat) (h:AHeap) (cargs:Array Value),HRel K base h→VRels K args cargs.toList→∀ N,CallsIn Fence.wide N P g cargs K.w (CallPost K base h K.c v):=fun args v hp K base h cargs H hr N=>by
  obtain⟨a,k,c,r,rfl,rfl,hc⟩:=hf args v hp
  obtain⟨cl,rfl⟩:∃ l:List Value,cargs=l.toArray:=⟨cargs.toList,by simp⟩
  match cl,hr with
  | [x,y],hr=>
    simp only[VRels,VRel] at hr
    obtain⟨rfl,rfl,_⟩:=hr
    refine callsIn_wide.2 ((hc K.w).mono ?_)
    rintro e w' ⟨rfl,hb⟩
    exact post_below H hb fun K'=>by simp[VRel]
  | [],hr=>simp[VRels] at hr
  | [_],hr=>simp[VRels] at hr
  | _ :: _ :: _ :: _,hr=>simp[VRels] at hr
end Go.Vm
/- Numbers as texts: a known function that reads a table. -/
namespace Go.Vm
open Go Go.RowKit
theorem below_grow (w:World) (q:Nat) (os:Array Obj):Below w.heap.size w (Sort.grow (w.drewN q) os):=
  ⟨rfl,rfl,rfl,by simp[Sort.grow],fun i hi=>by
    show ((w.drewN q).heap ++ os)[i]? = _
    rw[Array.getElem?_append_left (by show i < w.heap.size; omega)]
    rfl⟩
theorem prim_itoa {P:Program} {g:FuncId} {b:Nat} (hn:P.globalNamed "internal/strconv.uint64pow10" = some b) (hb:(b,fun cs=>cs=(Lib.pow10Tab.map fun z=>Value.int .u64 z).toArray)∈glb)
    (hc:∀ n:Int, -9223372036854775808≤n→n≤9223372036854775807→∀ w:World,Lib.TabIs P w "internal/strconv.uint64pow10" .u64 Lib.pow10Tab→Calls P g #[.int .i64 n] w fun e w'=>e = .returned (.string ⟨(Lib.itoa n).toArray⟩)∧∃ k os,w' = Sort.grow (w.drewN k) os) :
    ∀ args v,itoaP args=some v→∀ (K:Cx) (base:Nat) (h:AHeap) (cargs:Array Value),HRel K base h→VRels K args cargs.toList→∀ N,CallsIn Fence.wide N P g cargs K.w (CallPost K base h K.c v):=fun args v hp K base h cargs H hr N=>by
  unfold itoaP at hp
  split at hp
  · rename_i n
    split at hp
    · rename_i hw
      cases hp
      obtain⟨cl,rfl⟩:∃ l:List Value,cargs=l.toArray:=⟨cargs.toList,by simp⟩
      match cl,hr with
      | [x],hr=>
        simp only[VRels,VRel] at hr
        obtain⟨rfl,_⟩:=hr
        refine callsIn_wide.2 ((hc n hw.1 hw.2 K.w ?_).mono ?_)
        · obtain⟨_,cs,T,fz,h2,h3⟩:=H.gl _ hb
          have h3:cs=_:=h3
          subst h3
          unfold Lib.TabIs World.var?
          rw[hn]
          show (match K.w.heap[b]? with | some (.cells cs _ _)=>some cs | _=>none)=_
          rw[h2]
        · rintro e w' ⟨rfl,k,os,rfl⟩
          exact post_below H (below_grow _ _ _) fun K'=>by simp[VRel]
      | [],hr=>simp[VRels] at hr
      | _ :: _ :: _,hr=>simp[VRels] at hr
    · cases hp
  · cases hp
end Go.Vm
/- Digits laid behind a row of bytes: a known function that changes memory. -/
namespace Go.Vm
open Go Go.RowKit
theorem append_run {P:Program} {K:Cx} {base:Nat} {h:AHeap} (H:HRel K base h) {e tx ty:TypeId} {d:TypeDesc} (rty:TypeId) (hu:P.underlying tx=some (.slice e)) (hd:P.underlying ty=some d) (hk:∀ k,d ≠ .int k) {u r V:AV} {us:Ups} {sv src:Value}
    (hx:VRel K u sv) (hy:VRel K V src) (hr:appendOf P h K.c e u V=some (r,us)) :
    ∃ K' v',(Builtin.append_ #[tx,ty] rty #[sv,src]).run P K.w = .ok v' K'.w∧K.Step K'∧HRel K' base (h.upd us)∧K'.c=K.c + 1∧VRel K' r v':=by
  let a:Act:={ tmps:=#[sv,src],defers:=[] }
  let o:Oper:={ dst:=none,op:=.call { callee:=.builtin .append,args:=#[.tmp 0,.tmp 1],argTypes:=#[tx,ty] },type:=rty,pos:= "",after:=#[],guard:=none }
  have ht:VRels K [u,V] a.tmps.toList:=⟨hx,hy,trivial⟩
  obtain⟨K',x,g1,g2,g3,g4,g5⟩:=good_append (P:=P) (K:=K) (a:=a) (t:=[u,V]) (o:=o) (x:=.tmp 0) (y:=.tmp 1) H ht rfl rfl rfl rfl hy hu hd hk hr
  have e:(execOp a.eval o).run P K.w=((Builtin.append_ #[tx,ty] rty #[sv,src]).run P K.w).andThen fun v w'=>.ok (.value v) w':=by
    simp only[execOp,o,resolve,invoke,builtin,Sem.run_bind,Sem.run_pure,Result.andThen_ok,List.map_toArray,List.map_cons,List.map_nil]
    rfl
  cases hq:(Builtin.append_ #[tx,ty] rty #[sv,src]).run P K.w with
  | ok v w=>
    rw[hq] at e
    simp only[Result.andThen_ok] at e
    rcases g1 with g1 | ⟨g1,_⟩
    · rw[e] at g1
      cases g1
      exact⟨K',_,rfl,g2,g3,g4,g5⟩
    · rw[e] at g1
      cases g1
  | halt q w=>
    rw[hq] at e
    simp only[Result.andThen_halt] at e
    rcases g1 with g1 | ⟨g1,_⟩ <;> rw[e] at g1 <;> cases g1
theorem wpList_append_run {P:Program} {ops:Array Oper} {rest:List Oper} {o:Oper} {a:Act} {w:World} {Q:Exit→Act→World→Prop} (hgd:o.guard=none) (sl x:Operand) (t u:TypeId)
    (ho:o.op = .call { callee:=.builtin .append,args:=#[sl,x],argTypes:=#[t,u] }) (v xv:Value) (hs:a.eval sl=v) (hx:a.eval x=xv) {R:Value→World→Prop} (hr:∀ rty,∃ v' w',(Builtin.append_ #[t,u] rty #[v,xv]).run P w = .ok v' w'∧R v' w')
    (h:∀ v' w',R v' w'→wpList P ops Q rest (a.put o.dst v') w'):wpList P ops Q (o :: rest) a w:=by
  refine wpList_plain hgd fun K hK=>?_
  obtain⟨v',w',hr,hR⟩:=hr o.type
  unfold Oper.wp execOp
  simp only[ho,resolve,invoke,builtin,Sem.run_bind,Sem.run_pure,Result.andThen_ok,List.map_toArray,List.map_cons,List.map_nil,hs,hx,hr]
  exact hK _ _ (h v' w' hR)
end Go.Vm
namespace Go.Proofs
open Go Go.Shelf Go.RowKit Go.Sort Go.Lib Go.Vm
variable {P:Program} {ρ:Ren}
set_option maxHeartbeats 6400000 in
set_option maxRecDepth 100000 in
theorem AnyV.AppendUint_small (L:LaysM.n288 P ρ) (u:Nat) (hu:u < 100) (sv:Value) (w:World) (R:Value→World→Prop)
    (hstr:∀ rty,∃ v' w',(Builtin.append_ #[ρ.t 37,ρ.t 9] rty #[sv,.string ⟨(Lib.decDigits u).toArray⟩]).run P w = .ok v' w'∧R v' w') :
    Calls P (ρ.f 288) #[sv,.int .u64 u,.int .i64 10] w fun e w'=>∃ v',e = .returned v'∧R v' w':=by
  have mixed:=L.mixed
  have t5:=L.t5; have a5:=L.a5; have z5:=L.z5; have v5:=L.v5
  have t37:=L.t37; have u37:=run_underlying L.t37; have a37:=L.a37; have z37:=L.z37; have v37:=L.v37
  have t53:=L.t53; have a53:=L.a53; have z53:=L.z53; have v53:=L.v53
  have t3:=L.t3; have a3:=L.a3; have z3:=L.z3; have v3:=L.v3
  have t4:=L.t4; have a4:=L.a4; have z4:=L.z4; have v4:=L.v4
  have t9:=L.t9; have a9:=L.a9; have z9:=L.z9; have v9:=L.v9
  have t171:=L.t171; have a171:=L.a171; have z171:=L.z171; have v171:=L.v171
  have t0:=L.t0; have a0:=L.a0; have z0:=L.z0; have v0:=L.v0
  have t173:=L.t173; have a173:=L.a173; have z173:=L.z173; have v173:=L.v173
  have e283:∀ args w,(callFunc (ρ.f 283) args).run P w = .ok (.enter (ρ.f 283) args) w:=enters_of L.f283 (by kernel_rfl) rfl
  go_enter L.f288,Body.n288_ntmps ρ
  go_wp2_with (first
    | (go_at_fn (ρ.f 283); refine (Any.internal_strconv_small { L with } u hu _).mono ?_; rintro e w' ⟨rfl,rfl⟩)
    | (at_builtin; refine wpList_append_run rfl _ _ (ρ.t 37) (ρ.t 9) rfl _ _ rfl rfl hstr ?_))
  intro v' w1 hR
  go_wp2
  go_ret
  exact⟨v',rfl,hR⟩
set_option maxHeartbeats 12800000 in
set_option maxRecDepth 100000 in
theorem AnyV.AppendUint_big (L:LaysM.n288 P ρ) (u:Nat) (hu:100≤u) (hu64:u < 18446744073709551616) (sv:Value) (w:World) (R:Value→World→Prop)
    (hsl:∀ W b,Below w.heap.size w W→w.heap.size≤b→b < W.heap.size→(∀ j x,(Lib.byteCells (Lib.decDigits u))[j]? = some x→W.cell? ⟨b,j,none⟩=some x)→∀ rty,∃ v' w',(Builtin.append_ #[ρ.t 37,ρ.t 37] rty #[sv,.slice (some ⟨b,0,none⟩) (Lib.nDigits u) 24]).run P W = .ok v' w'∧R v' w')
    (htab:Lib.TabIs P w "internal/strconv.uint64pow10" .u64 Lib.pow10Tab) :
    Calls P (ρ.f 288) #[sv,.int .u64 u,.int .i64 10] w fun e w'=>∃ v',e = .returned v'∧R v' w':=by
  have mixed:=L.mixed
  have t5:=L.t5; have a5:=L.a5; have z5:=L.z5; have v5:=L.v5
  have t37:=L.t37; have u37:=run_underlying L.t37; have a37:=L.a37; have z37:=L.z37; have v37:=L.v37
  have t53:=L.t53; have a53:=L.a53; have z53:=L.z53; have v53:=L.v53
  have t3:=L.t3; have a3:=L.a3; have z3:=L.z3; have v3:=L.v3
  have t4:=L.t4; have a4:=L.a4; have z4:=L.z4; have v4:=L.v4
  have t9:=L.t9; have a9:=L.a9; have z9:=L.z9; have v9:=L.v9
  have t171:=L.t171; have a171:=L.a171; have z171:=L.z171; have v171:=L.v171
  have t0:=L.t0; have a0:=L.a0; have z0:=L.z0; have v0:=L.v0
  have t173:=L.t173; have a173:=L.a173; have z173:=L.z173; have v173:=L.v173
  have e284:∀ args w,(callFunc (ρ.f 284) args).run P w = .ok (.enter (ρ.f 284) args) w:=enters_of L.f284 (by kernel_rfl) rfl
  have e285:∀ args w,(callFunc (ρ.f 285) args).run P w = .ok (.enter (ρ.f 285) args) w:=enters_of L.f285 (by kernel_rfl) rfl
  have hu1:1≤u:=by omega
  have hnd20:Lib.nDigits u≤20:=by have:=Lib.numDigits_eq u hu1 hu64; split at this <;> omega
  have hal:P.arrayLen (ρ.t 171)=24:=by simp[Program.arrayLen,L.t171]
  have hslc:∀ W,(Instr.sliceAt (ρ.t 171) (.pointer (some ⟨w.heap.size,0,none⟩)) none (some (.int .i64 (Lib.nDigits u:Int))) none).run P W = .ok (.slice (some ⟨w.heap.size,0,none⟩) (Lib.nDigits u) 24) W:=fun W=>by
    rw[run_sliceAt_array_h W (ρ.t 171) ⟨w.heap.size,0,none⟩ (by simp[Program.arrayLen,Program.elem,L.t171]) .i64 (Lib.nDigits u:Int) (by omega) (by rw[hal]; omega)]
    go_simp
  have hH0:=Lib.holds_zero0 w (ρ.t 171) (Lib.nDigits u) (by omega)
  have hfmt:=Any.internal_strconv_formatBase10 { L with } w.heap.size 0 24 u (Array.replicate (Lib.nDigits u) 0) (w.alloc (.cells Lib.zeros24 (ρ.t 171))) hH0 (by rw[Array.size_replicate]; exact Lib.lt_pow_nDigits u) hu64 (by rw[Array.size_replicate]; omega)
  rw[Array.size_replicate] at hfmt
  have HH0:=Lib.hid hH0
  have iu:(100:Int)≤(u:Int):=by omega
  clear hH0 hal
  go_enter L.f288,Body.n288_ntmps ρ
  go_wp2_with (first
    | (go_at_fn (ρ.f 284); refine (Any.internal_strconv_numDigits { L with } u hu1 hu64 _ (Lib.tabIs_alloc htab _)).mono ?_; rintro e w' ⟨rfl,rfl⟩))
  go_at_fn (ρ.f 285)
  refine hfmt.mono ?_
  rintro e w' ⟨rfl,k,v',dk,rfl,hF⟩
  have hcells:∀ j u',(Lib.byteCells (Lib.decDigits u))[j]? = some u'→((putRow (fun (b:UInt8)=>Value.int .u8 (b.toNat:Int)) (w.alloc (.cells Lib.zeros24 (ρ.t 171))) w.heap.size 0 dk).drewN k).cell? ⟨w.heap.size,j,none⟩=some u':=by
    intro j u' hj
    have hjl:j < (Lib.decDigits u).length:=by
      have h5:=(List.getElem?_eq_some_iff.1 hj).1
      rwa [Lib.byteCells_length] at h5
    have e5:(Lib.byteCells (Lib.decDigits u))[j]? = some (Value.int .u8 ((Lib.decDigits u)[j].toNat:Int)):=by simp[Lib.byteCells,hjl]
    rw[e5] at hj
    cases hj
    have hadd:(⟨w.heap.size,j,none⟩:Addr)=(⟨w.heap.size,0,none⟩:Addr).add j:=by simp[Addr.add]
    rw[hadd,Lib.row_is_numeral hF j hjl,Lib.add_plain,World.cell?_drewN]
    exact cell?_putRow (fun (b:UInt8)=>Value.int .u8 (b.toNat:Int)) _ w.heap.size 0 _ dk HH0.out (by rw[hF.size,Array.size_replicate]) j (by rw[hF.size]; rw[Lib.decDigits_length] at hjl; exact hjl)
  obtain⟨os,eo⟩:=Lib.fin_at w (.cells Lib.zeros24 (ρ.t 171)) dk k 0
  have hnx2:Below w.heap.size w ((putRow (fun (b:UInt8)=>Value.int .u8 (b.toNat:Int)) (w.alloc (.cells Lib.zeros24 (ρ.t 171))) w.heap.size 0 dk).drewN k):=by rw[eo]; exact Lib.below_grow w.heap.size w (Nat.le_refl _) k os
  have hlt:w.heap.size < ((putRow (fun (b:UInt8)=>Value.int .u8 (b.toNat:Int)) (w.alloc (.cells Lib.zeros24 (ρ.t 171))) w.heap.size 0 dk).drewN k).heap.size:=by
    have h0:0 < (Lib.byteCells (Lib.decDigits u)).length:=by
      rw[Lib.byteCells_length]
      exact List.length_pos_iff.2 (decDigits_ne u)
    have:=hcells 0 _ (List.getElem?_eq_getElem h0)
    rcases Nat.lt_or_ge w.heap.size ((putRow (fun (b:UInt8)=>Value.int .u8 (b.toNat:Int)) (w.alloc (.cells Lib.zeros24 (ρ.t 171))) w.heap.size 0 dk).drewN k).heap.size with h | h
    · exact h
    · exfalso
      unfold World.cell? at this
      simp only[Array.getElem?_eq_none h] at this
      cases this
  generalize (putRow (fun (b:UInt8)=>Value.int .u8 (b.toNat:Int)) (w.alloc (.cells Lib.zeros24 (ρ.t 171))) w.heap.size 0 dk).drewN k=W2 at hcells hnx2 hlt ⊢
  clear eo HH0 hfmt
  go_wp2_with (at_builtin; refine wpList_append_run rfl _ _ (ρ.t 37) (ρ.t 37) rfl _ _ rfl rfl (hsl W2 w.heap.size hnx2 (Nat.le_refl _) hlt hcells) ?_)
  intro v2 w3 hR
  go_wp2
  go_ret
  exact⟨v2,rfl,hR⟩
end Go.Proofs
namespace Go.Vm
open Go Go.RowKit Go.Shelf Go.Proofs
theorem cx_grow {K:Cx} {base:Nat} {h:AHeap} (H:HRel K base h) {W:World} (hb:Below K.w.heap.size K.w W):K.Step { K with w:=W }∧HRel { K with w:=W } base h:=by
  have S:K.Step { K with w:=W }:=⟨Nat.le_refl _,fun _ _=>rfl,hb.os,hb.tape,hb.output,hb.size,fun b h1 h2=>⟨hb.block b h1,h2⟩,rfl,fun l ⟨R,hR⟩=>⟨R,(hb.block l (by
    rcases Nat.lt_or_ge l K.w.heap.size with hlt | hge
    · exact hlt
    · rw[Array.getElem?_eq_none hge] at hR; cases hR)).trans hR⟩⟩
  exact⟨S,H.step S (fun b hL=>hb.block b (H.bs b hL).2) rfl⟩
theorem tab_here {P:Program} {K:Cx} {base:Nat} {h:AHeap} (H:HRel K base h) {b:Nat} (hn:P.globalNamed "internal/strconv.uint64pow10" = some b) (hb:(b,fun cs=>cs=(Lib.pow10Tab.map fun z=>Value.int .u64 z).toArray)∈glb):Lib.TabIs P K.w "internal/strconv.uint64pow10" .u64 Lib.pow10Tab:=by
  obtain⟨_,cs,T,fz,h2,h3⟩:=H.gl _ hb
  have h3:cs=_:=h3
  subst h3
  unfold Lib.TabIs World.var?
  rw[hn]
  show (match K.w.heap[b]? with | some (.cells cs _ _)=>some cs | _=>none)=_
  rw[h2]
theorem prim_appU {P:Program} {ρ:Ren} (L:LaysM.n288 P ρ) {b:Nat} (hn:P.globalNamed "internal/strconv.uint64pow10" = some b) (hb:(b,fun cs=>cs=(Lib.pow10Tab.map fun z=>Value.int .u64 z).toArray)∈glb) :
    ∀ args h n v h' n',appUM P (ρ.t 5) args h n=some (v,h',n')→∀ (K:Cx) (base:Nat) (cargs:Array Value),HRel K base h→K.c=n→VRels K args cargs.toList→∀ N,CallsIn Fence.wide N P (ρ.f 288) cargs K.w (CallPost K base h' n' v):=fun args h n v h' n' hp K base cargs H hc hr N=>by
  subst hc
  unfold appUM at hp
  split at hp
  case h_2=>cases hp
  rename_i u z ten
  split at hp
  case isFalse=>cases hp
  rename_i hz
  obtain⟨⟨r,us⟩,h1,h2⟩:=Option.map_eq_some_iff.1 hp
  cases h2
  obtain⟨rfl,hz0,hz1⟩:=hz
  obtain⟨m,rfl⟩:=Int.eq_ofNat_of_zero_le hz0
  simp only[Int.toNat_natCast] at h1
  obtain⟨cl,rfl⟩:∃ l:List Value,cargs=l.toArray:=⟨cargs.toList,by simp⟩
  match cl,hr with
  | [sv,y1,y2],hr=>
    simp only[VRels,VRel,and_true] at hr
    obtain⟨hsv,rfl,rfl⟩:=hr
    have done:∀ (W:World) (src:Value) (ty:TypeId) (d:TypeDesc) (V:AV),Below K.w.heap.size K.w W→P.underlying ty=some d→(∀ k,d ≠ .int k)→VRel { K with w:=W } V src→rowsOf h 1 V=rowsOf h 1 (.s (.string ⟨(Lib.decDigits m).toArray⟩)) →
        ∀ rty,∃ v' w',(Builtin.append_ #[ρ.t 37,ty] rty #[sv,src]).run P W = .ok v' w'∧CallPost K base (h.upd us) (K.c + 1) r (.returned v') w':=fun W src ty d V hB hd hk hV hrow rty=>by
      obtain⟨S,H2⟩:=cx_grow H hB
      obtain⟨sz0,rws,g1,g2⟩:=appendOf_size h1
      have hs1:sz0=1:=by
        simp only[rowsOf] at g2
        split at g2
        · assumption
        · cases g2
      subst hs1
      obtain⟨K',v',q1,q2,q3,q4,q5⟩:=append_run (P:=P) (K:={ K with w:=W }) H2 rty (L.t37) hd hk (hsv.mono S.le) hV ((appendOf_swap g1 hrow).trans h1)
      exact⟨v',K'.w,q1,K',v',rfl,rfl,S.trans q2,q3,q4,q5⟩
    refine callsIn_wide.2 ?_
    by_cases h100:m < 100
    · refine (Go.Proofs.AnyV.AppendUint_small L m h100 sv K.w (fun v' w'=>CallPost K base (h.upd us) (K.c + 1) r (.returned v') w') (done K.w _ _ .string (.s (.string ⟨(Lib.decDigits m).toArray⟩)) (Below.refl _ _) L.t9 (fun k e=>by cases e) (by simp[VRel]) rfl)).mono ?_
      rintro e w' ⟨v',rfl,h3⟩
      exact h3
    · refine (Go.Proofs.AnyV.AppendUint_big L m (by omega) (by omega) sv K.w (fun v' w'=>CallPost K base (h.upd us) (K.c + 1) r (.returned v') w') (fun W bk hB hb1 hb2 hcells=>done W _ _ (.slice (ρ.t 5)) (.fsl 1 ((bytesI (Lib.decDigits m)).map cB)) hB L.t37 (fun k e=>by cases e) ?_ ?_) (tab_here H hn hb)).mono ?_
      · simp only[VRel]
        have hlen:((bytesI (Lib.decDigits m)).map cB).length=Lib.nDigits m:=by simp[bytesI,Lib.decDigits_length]
        refine⟨_,24,by rw[hlen],by simp,?_,.inr ⟨bk,0,rfl,rrel_of fun i row hi=>?_⟩⟩
        · rw[hlen]
          have:=Lib.numDigits_eq m (by omega) (by omega:m < 18446744073709551616)
          split at this <;> omega
        · simp only[List.getElem?_map,bytesI,Option.map_map] at hi
          obtain⟨x,hx,rfl⟩:=Option.map_eq_some_iff.1 hi
          refine⟨rfl,crel_of fun j c hj=>?_⟩
          match j,hj with
          | 0,hj=>
            simp only[List.getElem?_cons_zero,Option.some.injEq,Function.comp] at hj
            subst hj
            refine⟨.int .u8 (x.toNat:Int),⟨hb2,fun e=>?_,fun e=>?_⟩,?_,rfl,by simp[VRel]⟩
            · have:=(H.bs _ e).2; omega
            · have:=H.XL _ e; have:=H.le; omega
            · have:=hcells i (.int .u8 (x.toNat:Int)) (by simp[Lib.byteCells,hx])
              simpa using this
          | j + 1,hj=>simp at hj
      · rw[rows_str]
        simp[rowsOf]
      · rintro e w' ⟨v',rfl,h3⟩
        exact h3
  | [],hr=>simp[VRels] at hr
  | [_],hr=>simp[VRels] at hr
  | [_,_],hr=>simp[VRels] at hr
  | _ :: _ :: _ :: _ :: _,hr=>simp[VRels] at hr
end Go.Vm
/- Texts as numbers: a known function that reads the library's errors. -/
namespace Go.Vm
open Go Go.RowKit Go.Shelf Go.Proofs
theorem var_here {P:Program} {K:Cx} {base:Nat} {h:AHeap} (H:HRel K base h) {nm:String} {b:Nat} (hn:P.globalNamed nm=some b) (hb:(b,fun cs=>∃ tp p,cs = #[Value.iface tp p])∈glb):∃ tp p,K.w.var? P nm=some #[.iface tp p]:=by
  obtain⟨_,cs,T,fz,h2,h3⟩:=H.gl _ hb
  obtain⟨tp,p,h3⟩:∃ tp p,cs = #[Value.iface tp p]:=h3
  subst h3
  refine⟨tp,p,?_⟩
  unfold World.var?
  rw[hn]
  show (match K.w.heap[b]? with | some (.cells cs _ _)=>some cs | _=>none)=_
  rw[h2]
theorem prim_atoi {P:Program} {ρ:Ren} (L:LaysC.n172 P ρ) {b1 b2:Nat} (hn1:P.globalNamed "strconv.ErrSyntax" = some b1) (hb1:(b1,fun cs=>∃ tp p,cs = #[Value.iface tp p])∈glb) (hn2:P.globalNamed "strconv.ErrRange" = some b2) (hb2:(b2,fun cs=>∃ tp p,cs = #[Value.iface tp p])∈glb) :
    ∀ args v,atoiP args=some v→∀ (K:Cx) (base:Nat) (h:AHeap) (cargs:Array Value),HRel K base h→VRels K args cargs.toList→∀ N,CallsIn Fence.wide N P (ρ.f 172) cargs K.w (CallPost K base h K.c v):=fun args v hp K base h cargs H hr N=>by
  unfold atoiP at hp
  split at hp
  case h_2=>cases hp
  rename_i s
  split at hp
  case isFalse=>cases hp
  rename_i hs
  cases hp
  obtain⟨cl,rfl⟩:∃ l:List Value,cargs=l.toArray:=⟨cargs.toList,by simp⟩
  have fin:∀ (n:Int) (er:Value) (w':World),n=atoiV s.data.toList→Below K.w.heap.size K.w w'→CallPost K base h K.c (.tup [.s (.int .i64 (atoiV s.data.toList)),.any]) (.returned (.tuple #[.int .i64 n,er])) w':=fun n er w' hn hb=>by
    subst hn
    exact post_below H hb fun K'=>by simp[VRel,VRels]
  match cl,hr with
  | [x],hr=>
    simp only[VRels,VRel,and_true] at hr
    subst hr
    refine callsIn_wide.2 ?_
    cases ha:Lib.atoiAll s.data.toList with
    | ok n=>
      refine (Any.strconv_Atoi_ok L s (by omega) n ha K.w).mono ?_
      rintro e w' ⟨rfl,hw⟩
      refine fin n _ w' (by simp only[atoiV,ha]) ?_
      rcases hw with rfl | ⟨t,rfl⟩
      · exact Below.refl _ _
      · exact Lib.bytesWorld_below _ _ _
    | range=>
      obtain⟨tp,p,hv⟩:=var_here (P:=P) H hn2 hb2
      refine (Any.strconv_Atoi_range_var L s hs ha tp p K.w hv).mono ?_
      rintro e w' ⟨N,rfl,_,_,hb⟩
      exact fin _ _ w' (by simp only[atoiV,ha]) hb
    | _=>
      obtain⟨tp,p,hv⟩:=var_here (P:=P) H hn1 hb1
      refine (Any.strconv_Atoi_syntax_var L s hs ha tp p K.w hv).mono ?_
      rintro e w' ⟨N,rfl,_,_,hb⟩
      exact fin 0 _ w' (by simp only[atoiV,ha]) hb
  | [],hr=>simp[VRels] at hr
  | _ :: _ :: _,hr=>simp[VRels] at hr
end Go.Vm
set_option maxRecDepth 100000
namespace Go.Proofs
open Go.Shelf
def Tryd.z213f:Nat→Nat
  | 213=>58
  | 265=>73
  | n=>n
def Tryd.z213t:Nat→Nat
  | 9=>9
  | 3=>3
  | n=>n
def Tryd.z213g:Nat→Nat
  | n=>n
def Tryd.z213r:Ren:=⟨Tryd.z213f,Tryd.z213t,Tryd.z213g⟩
theorem Tryd.z213:Lays.n213 Tryd.prog Tryd.z213r where
  mixed:=by kernel_rfl
  f213:=by kernel_rfl
  f265:=by kernel_rfl
  t3:=Tryd.underlying3
  a3:=Tryd.isAgg3
  z3:=Tryd.sizeOf3
  v3:=Tryd.zeroValue3
  t9:=Tryd.underlying9
  a9:=Tryd.isAgg9
  z9:=Tryd.sizeOf9
  v9:=Tryd.zeroValue9
def Tryd.z137f:Nat→Nat
  | 137=>88
  | 217=>92
  | 266=>93
  | n=>n
def Tryd.z137t:Nat→Nat
  | 9=>9
  | 5=>5
  | 3=>3
  | n=>n
def Tryd.z137g:Nat→Nat
  | n=>n
def Tryd.z137r:Ren:=⟨Tryd.z137f,Tryd.z137t,Tryd.z137g⟩
theorem Tryd.z137:Lays.n137 Tryd.prog Tryd.z137r where
  mixed:=by kernel_rfl
  f137:=by kernel_rfl
  f217:=by kernel_rfl
  f266:=by kernel_rfl
  t3:=Tryd.underlying3
  a3:=Tryd.isAgg3
  z3:=Tryd.sizeOf3
  v3:=Tryd.zeroValue3
  t5:=Tryd.underlying5
  a5:=Tryd.isAgg5
  z5:=Tryd.sizeOf5
  v5:=Tryd.zeroValue5
  t9:=Tryd.underlying9
  a9:=Tryd.isAgg9
  z9:=Tryd.sizeOf9
  v9:=Tryd.zeroValue9
def Tryd.z171f:Nat→Nat
  | 171=>30
  | 243=>43
  | 246=>59
  | 283=>63
  | 284=>64
  | 285=>65
  | 286=>66
  | 129=>77
  | 317=>76
  | 318=>78
  | 319=>79
  | 320=>80
  | 337=>84
  | 338=>85
  | n=>n
def Tryd.z171t:Nat→Nat
  | 3=>3
  | 9=>9
  | 2=>2
  | 4=>4
  | 171=>87
  | 0=>0
  | 53=>75
  | 37=>52
  | 5=>5
  | 173=>90
  | 212=>109
  | 51=>33
  | 20=>20
  | 213=>110
  | 46=>83
  | 232=>118
  | 233=>119
  | n=>n
def Tryd.z171g:Nat→Nat
  | 17=>3
  | 18=>4
  | 19=>5
  | n=>n
def Tryd.z171r:Ren:=⟨Tryd.z171f,Tryd.z171t,Tryd.z171g⟩
theorem Tryd.z171:LaysM.n171 Tryd.prog Tryd.z171r where
  mixed:=by kernel_rfl
  f129:=by kernel_rfl
  f171:=by kernel_rfl
  f243:=by kernel_rfl
  f246:=by kernel_rfl
  f283:=by kernel_rfl
  f284:=by kernel_rfl
  f285:=by kernel_rfl
  f286:=by kernel_rfl
  f317:=by kernel_rfl
  f318:=by kernel_rfl
  f319:=by kernel_rfl
  f320:=by kernel_rfl
  f337:=by kernel_rfl
  f338:=by kernel_rfl
  t0:=Tryd.underlying0
  a0:=Tryd.isAgg0
  z0:=Tryd.sizeOf0
  v0:=Tryd.zeroValue0
  t2:=Tryd.underlying2
  a2:=Tryd.isAgg2
  z2:=Tryd.sizeOf2
  v2:=Tryd.zeroValue2
  t3:=Tryd.underlying3
  a3:=Tryd.isAgg3
  z3:=Tryd.sizeOf3
  v3:=Tryd.zeroValue3
  t4:=Tryd.underlying4
  a4:=Tryd.isAgg4
  z4:=Tryd.sizeOf4
  v4:=Tryd.zeroValue4
  t5:=Tryd.underlying5
  a5:=Tryd.isAgg5
  z5:=Tryd.sizeOf5
  v5:=Tryd.zeroValue5
  t9:=Tryd.underlying9
  a9:=Tryd.isAgg9
  z9:=Tryd.sizeOf9
  v9:=Tryd.zeroValue9
  t20:=Tryd.underlying20
  a20:=Tryd.isAgg20
  z20:=Tryd.sizeOf20
  v20:=Tryd.zeroValue20
  t37:=Tryd.underlying52
  a37:=Tryd.isAgg52
  z37:=Tryd.sizeOf52
  v37:=Tryd.zeroValue52
  t46:=Tryd.underlying83
  a46:=Tryd.isAgg83
  z46:=Tryd.sizeOf83
  v46:=Tryd.zeroValue83
  t51:=Tryd.underlying33
  a51:=Tryd.isAgg33
  z51:=Tryd.sizeOf33
  v51:=Tryd.zeroValue33
  t53:=Tryd.underlying75
  a53:=Tryd.isAgg75
  z53:=Tryd.sizeOf75
  v53:=Tryd.zeroValue75
  t171:=Tryd.underlying87
  a171:=Tryd.isAgg87
  z171:=Tryd.sizeOf87
  v171:=Tryd.zeroValue87
  t173:=Tryd.underlying90
  a173:=Tryd.isAgg90
  z173:=Tryd.sizeOf90
  v173:=Tryd.zeroValue90
  t212:=Tryd.underlying109
  a212:=Tryd.isAgg109
  z212:=Tryd.sizeOf109
  v212:=Tryd.zeroValue109
  t213:=Tryd.underlying110
  a213:=Tryd.isAgg110
  z213:=Tryd.sizeOf110
  t232:=Tryd.underlying118
  a232:=Tryd.isAgg118
  z232:=Tryd.sizeOf118
  v232:=Tryd.zeroValue118
  t233:=Tryd.underlying119
  a233:=Tryd.isAgg119
  z233:=Tryd.sizeOf119
  v233:=Tryd.zeroValue119
  g17:=by kernel_rfl
  g18:=by kernel_rfl
  g19:=by kernel_rfl
  i0:=by kernel_rfl
  i2:=by kernel_rfl
  i3:=by kernel_rfl
  i4:=by kernel_rfl
  i5:=by kernel_rfl
  i9:=by kernel_rfl
  i20:=by kernel_rfl
  i37:=by kernel_rfl
  i46:=by kernel_rfl
  i51:=by kernel_rfl
  i53:=by kernel_rfl
  i171:=by kernel_rfl
  i173:=by kernel_rfl
  i212:=by kernel_rfl
  i232:=by kernel_rfl
  i233:=by kernel_rfl
  m17:=by kernel_rfl
  m18:=by kernel_rfl
  m19:=by kernel_rfl
def Tryd.z172f:Nat→Nat
  | 172=>21
  | 244=>33
  | 245=>34
  | 247=>46
  | 279=>47
  | 280=>48
  | 281=>49
  | 282=>50
  | 287=>60
  | 316=>61
  | 171=>30
  | 205=>62
  | 321=>74
  | 322=>75
  | 243=>43
  | 246=>59
  | 283=>63
  | 284=>64
  | 285=>65
  | 286=>66
  | 129=>77
  | 317=>76
  | 318=>78
  | 319=>79
  | 320=>80
  | 337=>84
  | 338=>85
  | n=>n
def Tryd.z172t:Nat→Nat
  | 9=>9
  | 3=>3
  | 75=>49
  | 76=>50
  | 4=>4
  | 5=>5
  | 167=>69
  | 37=>52
  | 0=>0
  | 85=>70
  | 2=>2
  | 168=>72
  | 53=>75
  | 175=>81
  | 46=>83
  | 210=>85
  | 127=>103
  | 145=>106
  | 143=>104
  | 21=>21
  | 171=>87
  | 173=>90
  | 212=>109
  | 51=>33
  | 20=>20
  | 213=>110
  | 232=>118
  | 233=>119
  | 80=>126
  | n=>n
def Tryd.z172g:Nat→Nat
  | 15=>0
  | 16=>1
  | 17=>3
  | 18=>4
  | 19=>5
  | n=>n
def Tryd.z172r:Ren:=⟨Tryd.z172f,Tryd.z172t,Tryd.z172g⟩
theorem Tryd.z172:LaysC.n172 Tryd.prog Tryd.z172r where
  mixed:=by kernel_rfl
  f129:=by kernel_rfl
  f171:=by kernel_rfl
  f172:=by kernel_rfl
  f205:=by kernel_rfl
  f243:=by kernel_rfl
  f244:=by kernel_rfl
  f245:=by kernel_rfl
  f246:=by kernel_rfl
  f247:=by kernel_rfl
  f279:=by kernel_rfl
  f280:=by kernel_rfl
  f281:=by kernel_rfl
  f282:=by kernel_rfl
  f283:=by kernel_rfl
  f284:=by kernel_rfl
  f285:=by kernel_rfl
  f286:=by kernel_rfl
  f287:=by kernel_rfl
  f316:=by kernel_rfl
  f317:=by kernel_rfl
  f318:=by kernel_rfl
  f319:=by kernel_rfl
  f320:=by kernel_rfl
  f321:=by kernel_rfl
  f322:=by kernel_rfl
  f337:=by kernel_rfl
  f338:=by kernel_rfl
  t0:=Tryd.underlying0
  a0:=Tryd.isAgg0
  z0:=Tryd.sizeOf0
  v0:=Tryd.zeroValue0
  t2:=Tryd.underlying2
  a2:=Tryd.isAgg2
  z2:=Tryd.sizeOf2
  v2:=Tryd.zeroValue2
  t3:=Tryd.underlying3
  a3:=Tryd.isAgg3
  z3:=Tryd.sizeOf3
  v3:=Tryd.zeroValue3
  t4:=Tryd.underlying4
  a4:=Tryd.isAgg4
  z4:=Tryd.sizeOf4
  v4:=Tryd.zeroValue4
  t5:=Tryd.underlying5
  a5:=Tryd.isAgg5
  z5:=Tryd.sizeOf5
  v5:=Tryd.zeroValue5
  t9:=Tryd.underlying9
  a9:=Tryd.isAgg9
  z9:=Tryd.sizeOf9
  v9:=Tryd.zeroValue9
  t20:=Tryd.underlying20
  a20:=Tryd.isAgg20
  z20:=Tryd.sizeOf20
  v20:=Tryd.zeroValue20
  t21:=Tryd.underlying21
  a21:=Tryd.isAgg21
  z21:=Tryd.sizeOf21
  v21:=Tryd.zeroValue21
  t37:=Tryd.underlying52
  a37:=Tryd.isAgg52
  z37:=Tryd.sizeOf52
  v37:=Tryd.zeroValue52
  t46:=Tryd.underlying83
  a46:=Tryd.isAgg83
  z46:=Tryd.sizeOf83
  v46:=Tryd.zeroValue83
  t51:=Tryd.underlying33
  a51:=Tryd.isAgg33
  z51:=Tryd.sizeOf33
  v51:=Tryd.zeroValue33
  t53:=Tryd.underlying75
  a53:=Tryd.isAgg75
  z53:=Tryd.sizeOf75
  v53:=Tryd.zeroValue75
  t75:=Tryd.underlying49
  a75:=Tryd.isAgg49
  z75:=Tryd.sizeOf49
  v75:=Tryd.zeroValue49
  t76:=Tryd.underlying50
  a76:=Tryd.isAgg50
  z76:=Tryd.sizeOf50
  v76:=Tryd.zeroValue50
  t85:=Tryd.underlying70
  a85:=Tryd.isAgg70
  z85:=Tryd.sizeOf70
  v85:=Tryd.zeroValue70
  t127:=Tryd.underlying103
  a127:=Tryd.isAgg103
  z127:=Tryd.sizeOf103
  v127:=Tryd.zeroValue103
  t143:=Tryd.underlying104
  a143:=Tryd.isAgg104
  z143:=Tryd.sizeOf104
  v143:=Tryd.zeroValue104
  t145:=Tryd.underlying106
  a145:=Tryd.isAgg106
  z145:=Tryd.sizeOf106
  v145:=Tryd.zeroValue106
  t167:=Tryd.underlying69
  a167:=Tryd.isAgg69
  z167:=Tryd.sizeOf69
  v167:=Tryd.zeroValue69
  t168:=Tryd.underlying72
  a168:=Tryd.isAgg72
  z168:=Tryd.sizeOf72
  v168:=Tryd.zeroValue72
  t171:=Tryd.underlying87
  a171:=Tryd.isAgg87
  z171:=Tryd.sizeOf87
  v171:=Tryd.zeroValue87
  t173:=Tryd.underlying90
  a173:=Tryd.isAgg90
  z173:=Tryd.sizeOf90
  v173:=Tryd.zeroValue90
  t175:=Tryd.underlying81
  a175:=Tryd.isAgg81
  z175:=Tryd.sizeOf81
  v175:=Tryd.zeroValue81
  t210:=Tryd.underlying85
  a210:=Tryd.isAgg85
  z210:=Tryd.sizeOf85
  v210:=Tryd.zeroValue85
  t212:=Tryd.underlying109
  a212:=Tryd.isAgg109
  z212:=Tryd.sizeOf109
  v212:=Tryd.zeroValue109
  t213:=Tryd.underlying110
  a213:=Tryd.isAgg110
  z213:=Tryd.sizeOf110
  t232:=Tryd.underlying118
  a232:=Tryd.isAgg118
  z232:=Tryd.sizeOf118
  v232:=Tryd.zeroValue118
  t233:=Tryd.underlying119
  a233:=Tryd.isAgg119
  z233:=Tryd.sizeOf119
  v233:=Tryd.zeroValue119
  g15:=by kernel_rfl
  g16:=by kernel_rfl
  g17:=by kernel_rfl
  g18:=by kernel_rfl
  g19:=by kernel_rfl
  t80:=Tryd.underlying126
  a80:=Tryd.isAgg126
  z80:=Tryd.sizeOf126
  v80:=Tryd.zeroValue126
  i0:=by kernel_rfl
  i2:=by kernel_rfl
  i3:=by kernel_rfl
  i4:=by kernel_rfl
  i5:=by kernel_rfl
  i9:=by kernel_rfl
  i20:=by kernel_rfl
  i21:=by kernel_rfl
  i37:=by kernel_rfl
  i46:=by kernel_rfl
  i51:=by kernel_rfl
  i53:=by kernel_rfl
  i75:=by kernel_rfl
  i76:=by kernel_rfl
  i80:=by kernel_rfl
  i85:=by kernel_rfl
  i127:=by kernel_rfl
  i143:=by kernel_rfl
  i145:=by kernel_rfl
  i167:=by kernel_rfl
  i168:=by kernel_rfl
  i171:=by kernel_rfl
  i173:=by kernel_rfl
  i175:=by kernel_rfl
  i210:=by kernel_rfl
  i212:=by kernel_rfl
  i232:=by kernel_rfl
  i233:=by kernel_rfl
  m15:=by kernel_rfl
  m16:=by kernel_rfl
  m17:=by kernel_rfl
  m18:=by kernel_rfl
  m19:=by kernel_rfl
  c0:=by kernel_rfl
  c2:=by kernel_rfl
  c3:=by kernel_rfl
  c4:=by kernel_rfl
  c5:=by kernel_rfl
  c9:=by kernel_rfl
  c20:=by kernel_rfl
  c21:=by kernel_rfl
  c37:=by kernel_rfl
  c46:=by kernel_rfl
  c51:=by kernel_rfl
  c53:=by kernel_rfl
  c75:=by kernel_rfl
  c76:=by kernel_rfl
  c80:=by kernel_rfl
  c85:=by kernel_rfl
  c127:=by kernel_rfl
  c143:=by kernel_rfl
  c145:=by kernel_rfl
  c167:=by kernel_rfl
  c168:=by kernel_rfl
  c171:=by kernel_rfl
  c173:=by kernel_rfl
  c175:=by kernel_rfl
  c210:=by kernel_rfl
  c212:=by kernel_rfl
  c213:=by kernel_rfl
  c232:=by kernel_rfl
  c233:=by kernel_rfl
def Tryd.z288f:Nat→Nat
  | 288=>51
  | 283=>63
  | 284=>64
  | 285=>65
  | 286=>66
  | 129=>77
  | 317=>76
  | 318=>78
  | 319=>79
  | 320=>80
  | 337=>84
  | 338=>85
  | n=>n
def Tryd.z288t:Nat→Nat
  | 37=>52
  | 53=>75
  | 3=>3
  | 4=>4
  | 9=>9
  | 171=>87
  | 0=>0
  | 173=>90
  | 212=>109
  | 51=>33
  | 5=>5
  | 20=>20
  | 213=>110
  | 46=>83
  | 232=>118
  | 233=>119
  | n=>n
def Tryd.z288g:Nat→Nat
  | 17=>3
  | 18=>4
  | 19=>5
  | n=>n
def Tryd.z288r:Ren:=⟨Tryd.z288f,Tryd.z288t,Tryd.z288g⟩
theorem Tryd.z288:LaysM.n288 Tryd.prog Tryd.z288r where
  mixed:=by kernel_rfl
  f129:=by kernel_rfl
  f283:=by kernel_rfl
  f284:=by kernel_rfl
  f285:=by kernel_rfl
  f286:=by kernel_rfl
  f288:=by kernel_rfl
  f317:=by kernel_rfl
  f318:=by kernel_rfl
  f319:=by kernel_rfl
  f320:=by kernel_rfl
  f337:=by kernel_rfl
  f338:=by kernel_rfl
  t0:=Tryd.underlying0
  a0:=Tryd.isAgg0
  z0:=Tryd.sizeOf0
  v0:=Tryd.zeroValue0
  t3:=Tryd.underlying3
  a3:=Tryd.isAgg3
  z3:=Tryd.sizeOf3
  v3:=Tryd.zeroValue3
  t4:=Tryd.underlying4
  a4:=Tryd.isAgg4
  z4:=Tryd.sizeOf4
  v4:=Tryd.zeroValue4
  t5:=Tryd.underlying5
  a5:=Tryd.isAgg5
  z5:=Tryd.sizeOf5
  v5:=Tryd.zeroValue5
  t9:=Tryd.underlying9
  a9:=Tryd.isAgg9
  z9:=Tryd.sizeOf9
  v9:=Tryd.zeroValue9
  t20:=Tryd.underlying20
  a20:=Tryd.isAgg20
  z20:=Tryd.sizeOf20
  v20:=Tryd.zeroValue20
  t37:=Tryd.underlying52
  a37:=Tryd.isAgg52
  z37:=Tryd.sizeOf52
  v37:=Tryd.zeroValue52
  t46:=Tryd.underlying83
  a46:=Tryd.isAgg83
  z46:=Tryd.sizeOf83
  v46:=Tryd.zeroValue83
  t51:=Tryd.underlying33
  a51:=Tryd.isAgg33
  z51:=Tryd.sizeOf33
  v51:=Tryd.zeroValue33
  t53:=Tryd.underlying75
  a53:=Tryd.isAgg75
  z53:=Tryd.sizeOf75
  v53:=Tryd.zeroValue75
  t171:=Tryd.underlying87
  a171:=Tryd.isAgg87
  z171:=Tryd.sizeOf87
  v171:=Tryd.zeroValue87
  t173:=Tryd.underlying90
  a173:=Tryd.isAgg90
  z173:=Tryd.sizeOf90
  v173:=Tryd.zeroValue90
  t212:=Tryd.underlying109
  a212:=Tryd.isAgg109
  z212:=Tryd.sizeOf109
  v212:=Tryd.zeroValue109
  t213:=Tryd.underlying110
  a213:=Tryd.isAgg110
  z213:=Tryd.sizeOf110
  t232:=Tryd.underlying118
  a232:=Tryd.isAgg118
  z232:=Tryd.sizeOf118
  v232:=Tryd.zeroValue118
  t233:=Tryd.underlying119
  a233:=Tryd.isAgg119
  z233:=Tryd.sizeOf119
  v233:=Tryd.zeroValue119
  g17:=by kernel_rfl
  g18:=by kernel_rfl
  g19:=by kernel_rfl
  i0:=by kernel_rfl
  i3:=by kernel_rfl
  i4:=by kernel_rfl
  i5:=by kernel_rfl
  i9:=by kernel_rfl
  i20:=by kernel_rfl
  i37:=by kernel_rfl
  i46:=by kernel_rfl
  i51:=by kernel_rfl
  i53:=by kernel_rfl
  i171:=by kernel_rfl
  i173:=by kernel_rfl
  i212:=by kernel_rfl
  i232:=by kernel_rfl
  i233:=by kernel_rfl
  m17:=by kernel_rfl
  m18:=by kernel_rfl
  m19:=by kernel_rfl
end Go.Proofs
namespace Go.Vm
open Go Go.RowKit Go.Proofs
def funcOk (fn:Func):Bool:=!(fn.name == "runtime.NumGoroutine") && (match fn.body with | some c=>codeOk c | none=>true)
theorem funcsOk:E.P.funcs.toList.all funcOk=true:=by kernel_rfl
theorem pk_bytealg_CompareString:∀ args v,cmpP args=some v→∀ (K:Cx) (base:Nat) (h:AHeap) (cargs:Array Value),HRel K base h→VRels K args cargs.toList→∀ N,CallsIn Fence.wide N E.P 58 cargs K.w (CallPost K base h K.c v):=prim_ss fun args v hv=>by
  unfold cmpP at hv
  split at hv
  · rename_i a b
    cases hv
    exact⟨a,b,_,rfl,rfl,fun w=>(Go.Proofs.Any.bytealg_CompareString Go.Proofs.Tryd.z213 a b w).mono fun e w' ⟨h1,h2⟩=>⟨h1,h2 ▸ Below.refl _ _⟩⟩
  · cases hv
theorem pk_strings_IndexByte:∀ args v,ixbP args=some v→∀ (K:Cx) (base:Nat) (h:AHeap) (cargs:Array Value),HRel K base h→VRels K args cargs.toList→∀ N,CallsIn Fence.wide N E.P 88 cargs K.w (CallPost K base h K.c v):=prim_si fun args v hv=>by
  unfold ixbP at hv
  split at hv
  · rename_i a c
    cases hv
    exact⟨a,.u8,c,_,rfl,rfl,fun w=>(Go.Proofs.Any.strings_IndexByte Go.Proofs.Tryd.z137 a c w).mono fun e w' ⟨h1,h2⟩=>⟨h1,h2 ▸ Below.refl _ _⟩⟩
  · cases hv
theorem pk_strconv_Itoa:∀ args v,itoaP args=some v→∀ (K:Cx) (base:Nat) (h:AHeap) (cargs:Array Value),HRel K base h→VRels K args cargs.toList→∀ N,CallsIn Fence.wide N E.P 30 cargs K.w (CallPost K base h K.c v):=prim_itoa (b:=3) (by kernel_rfl) (List.mem_of_getElem? (i:=0) rfl) (fun n h0 h1 w ht=>Go.Proofs.Any.strconv_Itoa Go.Proofs.Tryd.z171 n h0 h1 w ht)
theorem pk_strconv_Atoi:∀ args v,atoiP args=some v→∀ (K:Cx) (base:Nat) (h:AHeap) (cargs:Array Value),HRel K base h→VRels K args cargs.toList→∀ N,CallsIn Fence.wide N E.P 21 cargs K.w (CallPost K base h K.c v):=prim_atoi Go.Proofs.Tryd.z172 (b1:=0) (b2:=1) (by kernel_rfl) (List.mem_of_getElem? (i:=1) rfl) (by kernel_rfl) (List.mem_of_getElem? (i:=2) rfl)
theorem pk_strconv_AppendUint:∀ args h n v h' n',(appUM Go.Proofs.Tryd.prog 5) args h n=some (v,h',n')→∀ (K:Cx) (base:Nat) (cargs:Array Value),HRel K base h→K.c=n→VRels K args cargs.toList→∀ N,CallsIn Fence.wide N E.P 51 cargs K.w (CallPost K base h' n' v):=prim_appU Go.Proofs.Tryd.z288 (b:=3) (by kernel_rfl) (List.mem_of_getElem? (i:=0) rfl)
theorem envOk:EnvOk E:=by
  have key:∀ (f:FuncId) (fn:Func),E.P.funcs[f]? = some fn→funcOk fn=true:=fun f fn hf=>by
    have:=List.all_eq_true.1 funcsOk fn (by
      obtain⟨h1,h2⟩:=Array.getElem?_eq_some_iff.1 hf
      rw[← h2]
      simp)
    exact this
  refine⟨fun f fn hf=>?_,fun f fn c hf hc=>?_,fun g p hp=>?_,fun g p hp=>?_⟩
  · have:=key f fn hf
    unfold funcOk at this
    rw[Bool.and_eq_true] at this
    simpa using this.1
  · have:=key f fn hf
    unfold funcOk at this
    rw[Bool.and_eq_true,hc] at this
    exact this.2
  · simp only[E] at hp
    split at hp
    · rename_i hg
      subst hg
      cases hp
      exact⟨⟨Go.Proofs.Tryd.f58,by kernel_rfl,by kernel_rfl⟩,pk_bytealg_CompareString⟩
    · skip
      split at hp
      · rename_i hg
        subst hg
        cases hp
        exact⟨⟨Go.Proofs.Tryd.f88,by kernel_rfl,by kernel_rfl⟩,pk_strings_IndexByte⟩
      · skip
        split at hp
        · rename_i hg
          subst hg
          cases hp
          exact⟨⟨Go.Proofs.Tryd.f30,by kernel_rfl,by kernel_rfl⟩,pk_strconv_Itoa⟩
        · skip
          split at hp
          · rename_i hg
            subst hg
            cases hp
            exact⟨⟨Go.Proofs.Tryd.f21,by kernel_rfl,by kernel_rfl⟩,pk_strconv_Atoi⟩
          · skip
            cases hp
  · simp only[E] at hp
    split at hp
    · rename_i hg
      subst hg
      cases hp
      exact⟨⟨Go.Proofs.Tryd.f51,by kernel_rfl,by kernel_rfl⟩,pk_strconv_AppendUint⟩
    · skip
      cases hp
theorem law_true {g:FuncId} {vs vs':List AV} {m:Option Bool} (hc:Ct E g vs m (fun r=>bv r)) (hm:m=some true) (hp:E.prim g=none) (hpf:E.pf g=true) (hv:All2 (VLe Rn.nil) vs vs') (hs:snapL (snap AHeap.nil depth) vs' = some (vs',false)) (w:World) (hG:∀ q,q∈glb→q.1 < w.heap.size∧∃ cs T fz,w.heap[q.1]? = some (.cells cs T fz)∧q.2 cs) {cargs:Array Value}
    (hr:VRels { w:=w,ι:=fun _=>(0,0,0),L:=fun _=>False,X:=fun _=>False,c:=0 } vs' cargs.toList) :
    Calls E.P g cargs w fun e w'=>e = .returned (.bool true)∧w'.os=w.os∧w'.tape=w.tape∧w'.output=w.output∧w.heap.size≤w'.heap.size∧(∀ b,b < w.heap.size→w'.heap[b]? = w.heap[b]?):=by
  obtain⟨u,h1,h2⟩:=hc true hm vs' hv AHeap.nil 0
  have hu:=h2.s_inv
  subst hu
  unfold callFn at h1
  rw[hp] at h1
  simp only[hpf,if_true,hs] at h1
  cases hcl:(rinf E).call g vs' AHeap.nil 0 with
  | none=>rw[hcl] at h1; cases h1
  | some q=>
    obtain⟨v,h3,n3⟩:=q
    rw[hcl] at h1
    simp only at h1
    cases hsn:snap h3 depth v with
    | none=>rw[hsn] at h1; cases h1
    | some q2=>
      obtain⟨v',b2⟩:=q2
      rw[hsn] at h1
      simp only[Bool.false_and,Bool.false_eq_true,if_false,Option.some.injEq,Prod.mk.injEq] at h1
      obtain⟨k,hk⟩:=rinf_call.1 hcl
      have hpc:pcall E k g vs' = some (bv true):=by
        unfold pcall
        rw[hk]
        simp only[hsn,h1.1]
      refine (pcall_sound envOk (fun r=>drawOk_all r) hpc w hG hr).mono ?_
      rintro e w' ⟨cv,h4,h5,h6,h7,h8,h9,h10⟩
      simp only[VRel] at h10
      subst h10
      exact⟨h4,h5,h6,h7,h8,h9⟩
end Go.Vm
/- What a call reads, as Lean data: an argument's reading by shape gives a value of the evaluator. -/
namespace Go.Vm
open Go
structure BulkOk {H:Type} (f:DataW H→Nat) (g:List (DataW H)→Nat):Prop where
  nil:g []=0
  cons:∀ d r,g (d :: r)=f d + g r
  pos:∀ d,1≤f d
  str:∀ l,f (.lit (.string l))=l.length + 1
  slice:∀ e s,f (.slice e s)=g e + g s + 1
  agg:∀ p,f (.agg p)=g p + 1
theorem BulkOk.sum {H:Type} {f:DataW H→Nat} {g:List (DataW H)→Nat} (B:BulkOk f g):∀ l,g l=(l.map f).sum
  | []=>B.nil
  | d :: r=>by rw[B.cons,B.sum r]; rfl
def Kw (W:World):Cx:={ w:=W,ι:=fun _=>(0,0,0),L:=fun _=>False,X:=fun _=>False,c:=0 }
def simpC:AV→Bool
  | .s _=>true
  | .fsl ..=>true
  | .esl=>true
  | _=>false
theorem snap_simpC {h:AHeap} {k:Nat} {c:AV} (hc:simpC c=true):snap h k c=some (c,false):=by
  cases c <;> first | (cases k <;> rfl) | cases hc
theorem snapL_simpC {h:AHeap} {k:Nat}:∀ {cs:List AV},cs.all simpC=true→snapL (snap h k) cs=some (cs,false)
  | [],_=>rfl
  | c :: cs,hc=>by
    simp only[List.all_cons,Bool.and_eq_true] at hc
    simp only[snapL,snap_simpC hc.1,snapL_simpC hc.2,Bool.or_self]
def simpA:AV→Bool
  | .agg cs=>cs.all simpC
  | c=>simpC c
theorem snap_simpA {h:AHeap} {k:Nat} {c:AV} (hc:simpA c=true):snap h (k + 1) c=some (c,false):=by
  unfold simpA at hc
  split at hc
  · simp only[snap,snapL_simpC hc,Option.map_some]
  · exact snap_simpC hc
theorem snapL_nil' (h:AHeap):snapL (snap h depth) []=some ([],false):=rfl
theorem snapL_cons' {h:AHeap} {c:AV} {cs:List AV} (hc:simpA c=true) (hs:snapL (snap h depth) cs=some (cs,false)):snapL (snap h depth) (c :: cs)=some (c :: cs,false):=by
  have h1:snap h depth c=some (c,false):=snap_simpA hc
  simp only[snapL,h1,hs,Bool.or_self]
section
variable {H:Type} {P:Program} {f:DataW H→Nat} {g:List (DataW H)→Nat}
structure Rd (P:Program) (f:DataW H→Nat) (t:TypeId) (n:Nat) {α:Type} (en:α→List AV) (ok:α→Prop) (μ:α→Nat):Prop where
  read:∀ {enc:TypeId × Value→H} {W:World} {fuel:Nat} {cs:List Value} {d:DataW H} {pl:List MemPlace},DataW.trod enc P W 0 (fun _=>true) true fuel t cs=some (d,pl) →
    ∃ x a,VRels (Kw W) a cs∧All2 (VLe Rn.nil) (en x) a∧a.all simpC=true∧ok x∧μ x≤f d∧cs.length=n∧(∀ v∈cs,v.oneCell' = true)
theorem Rd.str (B:BulkOk f g) {t:TypeId} (ht:P.underlying t=some .string):Rd P f t 1 (fun x:Str=>[bs x]) (fun _=>True) (fun x=>x.length + 1) where
  read h:=by
    obtain⟨s,rfl,e,_⟩:=DataW.trod_string ht h
    obtain⟨rfl,rfl⟩:=Prod.mk.inj e
    exact⟨s.data.toList,[.s (.string s)],by simp[VRels,VRel],⟨VLe.s_refl _,trivial⟩,rfl,trivial,by rw[B.str]; exact Nat.le_refl _,rfl,by simp; rfl⟩
theorem Rd.int (B:BulkOk f g) {t:TypeId} {k:IntKind} (ht:P.underlying t=some (.int k)):Rd P f t 1 (fun x:Int=>[.s (.int k x)]) (fun x=>(Lit.int k x).wf=true) (fun _=>1) where
  read h:=by
    obtain⟨n,rfl,e,w⟩:=DataW.trod_int ht h
    obtain⟨rfl,rfl⟩:=Prod.mk.inj e
    exact⟨n,[.s (.int k n)],by simp[VRels,VRel],⟨VLe.s_refl _,trivial⟩,rfl,w,B.pos _,rfl,by simp; rfl⟩
theorem Rd.bool (B:BulkOk f g) {t:TypeId} (ht:P.underlying t=some .bool):Rd P f t 1 (fun x:Bool=>[bv x]) (fun _=>True) (fun _=>1) where
  read h:=by
    obtain⟨n,rfl,e⟩:=DataW.trod_bool ht h
    obtain⟨rfl,rfl⟩:=Prod.mk.inj e
    exact⟨n,[bv n],by simp[VRels,VRel],⟨VLe.s_refl _,trivial⟩,rfl,trivial,B.pos _,rfl,by simp; rfl⟩
theorem VRels.len {K:Cx}:∀ {a:List AV} {x:List Value},VRels K a x→a.length=x.length
  | [],[],_=>rfl
  | _ :: a,_ :: x,h=>by simp only[List.length_cons]; rw[VRels.len (a:=a) (x:=x) (by simp only[VRels] at h; exact h.2)]
  | [],_ :: _,h=>by simp[VRels] at h
  | _ :: _,[],h=>by simp[VRels] at h
theorem crel_rd {W:World} {b:Nat}:∀ {a:List AV} {cs:List Value} {o:Nat},VRels (Kw W) a cs→(∀ i,i < cs.length→W.cell? ⟨b,o + i,none⟩=cs[i]?)→(∀ v∈cs,v.oneCell' = true)→CRel (Kw W) b o a
  | [],_,_,_,_,_=>by simp[CRel]
  | c :: a,[],_,h,_,_=>by simp[VRels] at h
  | c :: a,v :: cs,o,h,hc,h1=>by
    simp only[VRels] at h
    have h0:=hc 0 (by simp)
    simp only[Nat.add_zero,List.getElem?_cons_zero] at h0
    refine⟨⟨v,⟨?_,id,id⟩,h0,h1 v List.mem_cons_self,h.1⟩,crel_rd h.2 (fun i hi=>?_) fun u hu=>h1 u (List.mem_cons_of_mem _ hu)⟩
    · unfold World.cell? at h0
      split at h0
      · rename_i e
        exact (Array.getElem?_eq_some_iff.1 e).1
      · cases h0
    · have:=hc (i + 1) (by simp; omega)
      rw[Nat.add_assoc,Nat.add_comm 1 i,this]
      rfl
theorem Rd.slice (B:BulkOk f g) {t e:TypeId} {n:Nat} {α:Type} {en:α→List AV} {ok:α→Prop} {μ:α→Nat} (R:Rd P f e n en ok μ) (ht:P.underlying t=some (.slice e)) (hn:P.cellsOf e=n) (h0:0 < n) :
    Rd P f t 1 (fun x:List α=>[.fsl n (x.map en)]) (fun x=>∀ y∈x,ok y) (fun x=>(x.map μ).sum + 1) where
  read {enc W fuel cs d pl} h:=by
    rcases Deep.open_slice ht h with ⟨rfl,e'⟩ | ⟨a,len,cap,m,k,D,Pl,rfl,_,hl,_,hm,e',hx⟩
    · obtain⟨rfl,rfl⟩:=Prod.mk.inj e'
      exact⟨[],[nilS],by simp[VRels,VRel],⟨VLe.fsl_iff.2 (.inr ⟨rfl,.inl rfl⟩),trivial⟩,rfl,by simp,by simpa using B.pos _,rfl,by simp; rfl⟩
    · obtain⟨rfl,rfl⟩:=Prod.mk.inj e'
      have hlm:len≤m:=by rw[hm]; simpa using hl
      subst hn
      have hspot:0 < len→a.spot=none:=fun hp=>by
        obtain⟨cs',h1,h2⟩:=hx 0 (by omega)
        obtain⟨_,hlen,hc⟩:=World.cells?_some h1
        have:=hc 0 h0
        rw[List.getElem?_eq_getElem (by omega)] at this
        simp only[Nat.zero_mul,Addr.add,if_true] at this
        unfold World.cell? at this
        split at this
        · split at this
          · cases this
          · rename_i q; simpa using q
        · cases this
      obtain⟨ab,ao,sp⟩:=a
      have key:∀ j i,i + j=len→∃ (xs:List α) (rows:List (List AV)),RRel (Kw W) ab (ao + i * P.cellsOf e) (P.cellsOf e) rows∧All2 (All2 (VLe Rn.nil)) (xs.map en) rows∧xs.length=j∧(∀ x∈xs,ok x)∧(xs.map μ).sum≤((List.range' i j).map fun q=>f (D q)).sum:=by
        intro j
        induction j with
        | zero=>intro i _; exact⟨[],[],by simp[RRel],trivial,rfl,by simp,by simp⟩
        | succ j ih=>
          intro i hij
          obtain rfl:sp=none:=hspot (by omega)
          obtain⟨xs,rows,r1,r0,r2,r3,r4⟩:=ih (i + 1) (by omega)
          obtain⟨cs',h1,h2⟩:=hx i (by omega)
          obtain⟨x,a,x1,x0,_,x2,x3,x4,x5⟩:=R.read h2
          obtain⟨_,hlen,hc⟩:=World.cells?_some h1
          refine⟨x :: xs,a :: rows,?_,⟨x0,r0⟩,by simp[r2],by simpa using ⟨x2,r3⟩,?_⟩
          · simp only[RRel]
            refine⟨by rw[x1.len,x4],crel_rd x1 (fun q hq=>?_) x5,?_⟩
            · have:=hc q (by omega)
              rw[WideShapes.add_plain,WideShapes.add_plain] at this
              exact this
            · rw[Nat.add_assoc,show i * P.cellsOf e + P.cellsOf e=(i + 1) * P.cellsOf e by rw[Nat.add_mul,Nat.one_mul]]
              exact r1
          · simp only[List.map_cons,List.sum_cons,List.range'_succ]
            omega
      obtain⟨xs,rows,r1,r0,r2,r3,r4⟩:=key len 0 (by omega)
      have rl:rows.length=len:=by rw[r0.length,List.length_map,r2]
      refine⟨xs,[.fsl (P.cellsOf e) rows],?_,⟨VLe.fsl_iff.2 (.inl ⟨rows,rfl,r0⟩),trivial⟩,rfl,r3,?_,rfl,by simp; rfl⟩
      · simp only[VRels,VRel,and_true,rl]
        refine⟨some ⟨ab,ao,sp⟩,cap,rfl,by simp,hl,?_⟩
        rcases Nat.eq_zero_or_pos len with hz | hp
        · left
          exact List.length_eq_zero_iff.1 (by omega)
        · right
          obtain rfl:sp=none:=hspot hp
          exact⟨ab,ao,rfl,by rw[Nat.zero_mul,Nat.add_zero] at r1; exact r1⟩
      · rw[B.slice,B.sum,List.map_map,List.range_eq_range']
        have:(List.map (f ∘ D) (List.range' 0 len)).sum=((List.range' 0 len).map fun q=>f (D q)).sum:=rfl
        omega
structure Rds (P:Program) (f:DataW H→Nat) (g:List (DataW H)→Nat) (fs:List Field) (o n:Nat) {α:Type} (en:α→List AV) (ok:α→Prop) (μ:α→Nat):Prop where
  read:∀ {enc:TypeId × Value→H} {W:World} {fuel:Nat} {cs:List Value} {xs:List (DataW H × List MemPlace)},xs.length=fs.length→o + n≤cs.length →
    (∀ (i:Nat) (fd:Field),fs[i]? = some fd→DataW.trod enc P W 0 (fun _=>true) true fuel fd.type ((cs.drop fd.offset).take (P.cellsOf fd.type))=xs[i]?) →
    ∃ x a,VRels (Kw W) a ((cs.drop o).take n)∧All2 (VLe Rn.nil) (en x) a∧a.all simpC=true∧ok x∧μ x≤g (xs.map (·.1))∧(∀ v∈(cs.drop o).take n,v.oneCell' = true)
theorem Rds.nil (o:Nat):Rds P f g [] o 0 (fun _:Unit=>[]) (fun _=>True) (fun _=>0) where
  read _ _ _:=⟨(),[],by simp[VRels],trivial,rfl,trivial,Nat.zero_le _,by simp⟩
theorem Rds.cons (B:BulkOk f g) {fd:Field} {fs:List Field} {o n1 n2:Nat} {α β:Type} {e1:α→List AV} {ok1:α→Prop} {μ1:α→Nat} {e2:β→List AV} {ok2:β→Prop} {μ2:β→Nat} (R1:Rd P f fd.type n1 e1 ok1 μ1) (R2:Rds P f g fs (o + n1) n2 e2 ok2 μ2) (ho:fd.offset=o) (hn:P.cellsOf fd.type=n1) :
    Rds P f g (fd :: fs) o (n1 + n2) (fun x:α × β=>e1 x.1 ++ e2 x.2) (fun x=>ok1 x.1∧ok2 x.2) (fun x=>μ1 x.1 + μ2 x.2) where
  read {enc W fuel cs xs} hl hc h:=by
    cases xs with
    | nil=>simp at hl
    | cons y xs=>
      have h0:=h 0 fd rfl
      simp only[List.getElem?_cons_zero,ho,hn] at h0
      obtain⟨x1,l1,a1,a0,az,a2,a3,a4,a5⟩:=R1.read (d:=y.1) (pl:=y.2) h0
      obtain⟨x2,l2,b1,b0,bz,b2,b3,b5⟩:=R2.read (enc:=enc) (W:=W) (fuel:=fuel) (cs:=cs) (xs:=xs) (by simpa using hl) (by omega) (fun i fd' h'=>by have:=h (i + 1) fd' (by simpa using h'); simpa using this)
      have e:(cs.drop o).take (n1 + n2)=(cs.drop o).take n1 ++ (cs.drop (o + n1)).take n2:=by rw[List.take_add,List.drop_drop]
      refine⟨(x1,x2),l1 ++ l2,?_,a0.append b0,by rw[List.all_append,az,bz]; rfl,⟨a2,b2⟩,?_,?_⟩
      · rw[e]; exact a1.append b1
      · simp only[List.map_cons]; rw[B.cons]; omega
      · rw[e]
        intro v hv
        rcases List.mem_append.1 hv with hv | hv
        · exact a5 v hv
        · exact b5 v hv
theorem Rd.struct (B:BulkOk f g) {t:TypeId} {fs:Array Field} {n:Nat} {α β:Type} {en:α→List AV} {ok:α→Prop} {μ:α→Nat} (R:Rds P f g fs.toList 0 n en ok μ) (ht:P.underlying t=some (.struct fs)) (hn:P.cellsOf t=n) (mk:α→β) (hs:∀ y,∃ x,mk x=y) {en':β→List AV} (he:∀ x,en' (mk x)=en x) {ok':β→Prop} (hk:∀ x,ok x→ok' (mk x)) {μ':β→Nat} (hm:∀ x,μ' (mk x)≤μ x + 1) :
    Rd P f t n en' ok' μ' where
  read {enc W fuel cs d pl} h:=by
    obtain⟨xs,k,_,e,hl,hx,hf⟩:=DataW.trod_struct ht h
    obtain⟨rfl,rfl⟩:=Prod.mk.inj e
    obtain⟨x,a,h1,h0,hz,h2,h3,h4⟩:=R.read (enc:=enc) (W:=W) (fuel:=k) (cs:=cs) (xs:=xs) (by simpa using hx) (by omega) (fun i fd h'=>hf i fd (by simpa using h'))
    rw[List.drop_zero,List.take_of_length_le (by omega)] at h1 h4
    refine⟨mk x,a,h1,by rw[he]; exact h0,hz,hk x h2,?_,by omega,h4⟩
    rw[B.agg]
    have:=hm x
    omega
theorem Rd.arg1 {t:TypeId} {α:Type} {c:α→AV} {ok:α→Prop} {μ:α→Nat} (R:Rd P f t 1 (fun x=>[c x]) ok μ) {enc:TypeId × Value→H} {W:World} {v:Value} {d:DataW H} {pl:List MemPlace} (hv:v.cells = #[v]) (h:DataW.Trod enc P W 0 (fun _=>true) true t v d pl) :
    ∃ x b,VRel (Kw W) b v∧ok x∧μ x≤f d∧VLe Rn.nil (c x) b∧simpA b=true:=by
  obtain⟨fuel,h⟩:=h
  obtain⟨x,a,h1,h0,hz,h2,h3,_⟩:=R.read h
  rw[hv] at h1
  match a,h0 with
  | [b],h0=>
    simp only[VRels,and_true] at h1
    simp only[List.all_cons,List.all_nil,Bool.and_true] at hz
    refine⟨x,b,h1,h2,h3,h0.1,?_⟩
    unfold simpA
    split
    · cases hz
    · exact hz
  | [],h0=>exact h0.elim
  | _ :: _ :: _,h0=>exact h0.2.elim
theorem cells_slice {P:Program} {W:World} {r:Reach} {b:Nat} {t e:TypeId} {v:Value} (ht:P.underlying t=some (.slice e)) (h:Value.okWide P W r b t v):v.cells = #[v]:=by
  unfold Value.okWide Cell.okWide Cell.ok at h
  rw[ht] at h
  cases v <;> first | rfl | simp at h
theorem args_stay {enc:TypeId × Value→H} (hl:laidOutB P=true) {W W':World} (hb:RowKit.Below W.heap.size W W') {sp:Nat→Bool}:∀ {ts:List TypeId} {vs:List Value} {ds:List (DataW H)} {ps:List MemPlace},(∀ t∈ts,P.readableRec t=true∧t < P.types.size)→DataW.TrodAll enc P W 0 (fun _=>true) true ts vs ds ps→(∀ x∈ps,x.block < W.heap.size)→(∀ x∈ps,sp x.block=true) →
    DataW.TrodAll enc P W' 0 sp true ts vs ds ps
  | [],[],[],_,_,h,_,_=>h
  | t :: ts,v :: vs,d :: ds,ps,hr,h,h1,h2=>by
    obtain⟨p,q,h3,h4,rfl⟩:=h
    exact⟨p,q,WideElems.Trod_stays hl (hr t List.mem_cons_self).1 (hr t List.mem_cons_self).2 h3 (fun x hx=>hb.same (h1 x (List.mem_append_left _ hx))) (fun x hx=>h2 x (List.mem_append_left _ hx)),
      args_stay hl hb (fun u hu=>hr u (List.mem_cons_of_mem _ hu)) h4 (fun x hx=>h1 x (List.mem_append_right _ hx)) (fun x hx=>h2 x (List.mem_append_right _ hx)),rfl⟩
  | [],_ :: _,_,_,_,h,_,_=>h.elim
  | [],[],_ :: _,_,_,h,_,_=>h.elim
  | _ :: _,[],_,_,_,h,_,_=>h.elim
  | _ :: _,_ :: _,[],_,_,h,_,_=>h.elim
end
end Go.Vm
/- Plain laws: loops, numbers. -/
namespace Go.Vm
open Go
section
variable {σ τ:Type} {f:σ→Option (Step σ τ)}
theorem loopC_next {x y:σ} (h:f x=some (.next y)):loopC f x=loopC f y:=by rw[loopC_eq,h]; rfl
theorem loopC_done {x:σ} {t:τ} (h:f x=some (.done t)):loopC f x=some t:=by rw[loopC_eq,h]; rfl
theorem loopC_fun (I:σ→Prop) (μ:σ→Nat) (g:σ→τ) (h:∀ x,I x→f x=some (.done (g x))∨∃ y,f x=some (.next y)∧I y∧μ y < μ x∧g y=g x) {x:σ} (hx:I x):loopC f x=some (g x):=by
  have key:∀ n x,I x→μ x≤n→loopC f x=some (g x):=by
    intro n
    induction n with
    | zero=>
      intro x hx hn
      rcases h x hx with h1 | ⟨y,_,_,h3,_⟩
      · exact loopC_done h1
      · omega
    | succ n ih=>
      intro x hx hn
      rcases h x hx with h1 | ⟨y,h1,h2,h3,h4⟩
      · exact loopC_done h1
      · rw[loopC_next h1,ih y h2 (by omega),h4]
  exact key _ x hx (Nat.le_refl _)
theorem loopC_inv (I:σ→Prop) (μ:σ→Nat) (P:τ→Prop) (h:∀ x,I x→(∃ t,f x=some (.done t)∧P t)∨∃ y,f x=some (.next y)∧I y∧μ y < μ x) {x:σ} (hx:I x):∃ t,loopC f x=some t∧P t:=by
  have key:∀ n x,I x→μ x≤n→∃ t,loopC f x=some t∧P t:=by
    intro n
    induction n with
    | zero=>
      intro x hx hn
      rcases h x hx with ⟨t,h1,h2⟩ | ⟨y,_,_,h3⟩
      · exact⟨t,loopC_done h1,h2⟩
      · omega
    | succ n ih=>
      intro x hx hn
      rcases h x hx with ⟨t,h1,h2⟩ | ⟨y,h1,h2,h3⟩
      · exact⟨t,loopC_done h1,h2⟩
      · rw[loopC_next h1]
        exact ih y h2 (by omega)
  exact key _ x hx (Nat.le_refl _)
end
theorem w64_id {x:Int} (h1 : -9223372036854775808≤x) (h2:x≤9223372036854775807):w64 x=x:=i64_id h1 h2
theorem idx_nat {s:Str} {i:Nat} (h:i < s.length):idx s (i:Int)=some (s[i].toNat:Int):=by
  unfold idx
  rw[if_pos (by omega),Int.toNat_natCast,List.getElem?_eq_getElem h]
  rfl
theorem ixl_nat {α:Type} {l:List α} {i:Nat} (h:i < l.length):ixl l (i:Int)=some l[i]:=by
  unfold ixl
  rw[if_pos (by omega),Int.toNat_natCast,List.getElem?_eq_getElem h]
theorem subl_nat {α:Type} {l:List α} {i j:Nat} (h1:i≤j) (h2:j≤l.length):subl l (i:Int) (j:Int)=some ((l.drop i).take (j - i)):=by
  unfold subl
  rw[if_pos ⟨by omega,by omega,by omega⟩]
  rfl
theorem subl_drop {α:Type} {l:List α} {i:Nat} (h:i≤l.length):subl l (i:Int) (l.length:Int)=some (l.drop i):=by
  rw[subl_nat h (Nat.le_refl _),List.take_of_length_le (by simp)]
theorem u8c_beq (a c:UInt8):((a.toNat:Int) == (c.toNat:Int))=(a == c):=u8_beq
theorem app_ok {α:Type} {b:Nat} {l m:List α} (h1:(l.length + m.length) * b≤140737488355328) (h2:l.length + m.length≤9223372036854775807):app b l m=some (l ++ m):=by
  unfold app; rw[if_pos ⟨h1,h2⟩]
def runE (p:UInt8→Bool) (s:Str) (i:Nat):Nat:=i + ((s.drop i).takeWhile p).length
theorem runE_le {p:UInt8→Bool} {s:Str} {i:Nat} (h:i≤s.length):runE p s i≤s.length:=by
  unfold runE
  have:=(List.takeWhile_prefix p (l:=s.drop i)).length_le
  simp only[List.length_drop] at this
  omega
theorem runE_ge (p:UInt8→Bool) (s:Str) (i:Nat):i≤runE p s i:=by unfold runE; omega
theorem runE_end (p:UInt8→Bool) (s:Str):runE p s s.length=s.length:=by simp[runE]
theorem runE_yes {p:UInt8→Bool} {s:Str} {i:Nat} (h:i < s.length) (hp:p s[i]=true):runE p s i=runE p s (i + 1):=by
  unfold runE
  rw[List.drop_eq_getElem_cons h,List.takeWhile_cons_of_pos hp,List.length_cons]
  omega
theorem runE_no {p:UInt8→Bool} {s:Str} {i:Nat} (h:i < s.length) (hp:p s[i]=false):runE p s i=i:=by
  unfold runE
  rw[List.drop_eq_getElem_cons h,List.takeWhile_cons_of_neg (by simp[hp])]
  simp
end Go.Vm
/- Plain laws of chapter 26: what follows by units. -/
namespace Go.Vm
open Go
theorem w64_n (i:Nat) (h:i≤9223372036854775806):w64 ((i:Int) + 1)=((i + 1:Nat):Int):=by rw[w64_id (by omega) (by omega)]; rfl
def goodB (x:Int):Bool:=decide (x≠0) && decide (-4096≤x) && decide (x≤4096)
theorem goodB_iff {x:Int}:goodB x=true↔x≠0 ∧ -4096≤x∧x≤4096:=by
  unfold goodB
  simp only[Bool.and_eq_true,decide_eq_true_eq,and_assoc]
theorem goodB_neg {x:Int} (h:goodB x=true):goodB (-x)=true:=by
  rw[goodB_iff] at h ⊢
  omega
def tV (V:List Int) (x:Int):Int:=if x < 0 then - V.getD x.natAbs 0 else V.getD x.natAbs 0
theorem tV_neg (V:List Int) {x:Int} (h:x≠0):tV V (-x) = - tV V x:=by
  unfold tV
  rw[Int.natAbs_neg]
  by_cases hx:x < 0
  · rw[if_pos hx,if_neg (by omega)]; omega
  · rw[if_neg hx,if_pos (by omega)]
end Go.Vm
/- Plain laws of chapter 26: PropRuns. -/
namespace Go.Vm
open Go
theorem row_len {s:List (List Int)} (ms:((s.map fun y=>((y.map fun y=>1).sum + 1)).sum + 1)≤1048576):s.length≤1048576∧∀ c∈s,c.length≤1048576:=by
  have key:∀ s:List (List Int),s.length≤(s.map fun y=>((y.map fun y=>1).sum + 1)).sum∧∀ c∈s,c.length≤(s.map fun y=>((y.map fun y=>1).sum + 1)).sum:=by
    intro s
    induction s with
    | nil=>exact⟨Nat.le_refl _,fun c hc=>by cases hc⟩
    | cons x s ih=>
      have hx:(x.map fun _=>1).sum=x.length:=by simp[List.map_const',List.sum_replicate_nat]
      simp only[List.map_cons,List.sum_cons,List.length_cons,hx]
      refine⟨by have:=ih.1; omega,fun c hc=>?_⟩
      rcases List.mem_cons.1 hc with rfl | hc
      · omega
      · have:=ih.2 c hc
        omega
  obtain⟨h1,h2⟩:=key s
  exact⟨by omega,fun c hc=>by have:=h2 c hc; omega⟩
end Go.Vm
/- Plain laws of chapter 29: what units tell, over a map of which literals are true. -/
set_option linter.unusedSectionVars false
namespace Go.Vm
open Go
theorem mget_mem {s:List (Int × Int)} {k:Int}:mget s k=0∨(k,mget s k)∈s:=by
  induction s with
  | nil=>exact .inl rfl
  | cons e s ih=>
    simp only[mget]
    split
    · rename_i h
      subst h
      exact .inr (List.mem_cons_self ..)
    · rcases ih with h | h
      · exact .inl h
      · exact .inr (List.mem_cons_of_mem e h)
theorem mem_mput {s:List (Int × Int)} {k v:Int} {e:Int × Int} (h:e∈mput s k v):e=(k,v)∨e∈s:=by
  induction s with
  | nil=>exact .inl (List.mem_singleton.1 h)
  | cons f s ih=>
    simp only[mput] at h
    split at h
    · rcases List.mem_cons.1 h with h | h
      · exact .inl h
      · exact .inr (List.mem_cons_of_mem f h)
    · rcases List.mem_cons.1 h with h | h
      · exact .inr (h ▸ List.mem_cons_self ..)
      · rcases ih h with h | h
        · exact .inl h
        · exact .inr (List.mem_cons_of_mem f h)
def Truths (C:Prop) (M:Int→Bool) (B:Int) (s:List (Int × Int)):Prop:=∀ e∈s,goodB e.1=true∧(C→M e.1=true)∧0 < e.2∧e.2≤B
section
variable {C:Prop} {M:Int→Bool} {B:Int} {s:List (Int × Int)}
theorem Truths.le (h:Truths C M B s) (k:Int) (hB:0≤B):0≤mget s k∧mget s k≤B:=by
  rcases mget_mem (s:=s) (k:=k) with e | e
  · omega
  · have:=h _ e
    simp only at this
    omega
theorem Truths.pos (h:Truths C M B s) {k:Int} (hk:0 < mget s k):goodB k=true∧(C→M k=true):=by
  rcases mget_mem (s:=s) (k:=k) with e | e
  · omega
  · exact⟨(h _ e).1,(h _ e).2.1⟩
theorem Truths.put (h:Truths C M B s) {k v B':Int} (hk:goodB k=true) (hM:C→M k=true) (hv:0 < v) (hB:v≤B') (hB2:B≤B'):Truths C M B' (mput s k v):=fun e he=>by
  rcases mem_mput he with rfl | he
  · exact⟨hk,hM,hv,hB⟩
  · obtain⟨h1,h2,h3,h4⟩:=h e he
    exact⟨h1,h2,h3,Int.le_trans h4 hB2⟩
end
end Go.Vm
/- Plain laws of chapter 26: what a run tells is true wherever the clauses and what is assumed are. -/
namespace Go.Vm
open Go
def smallB (x:Int):Prop:=x≠0 ∧ -30≤x∧x≤30
theorem small_good {x:Int} (h:smallB x):goodB x=true:=goodB_iff.2 ⟨h.1,by have:=h.2; omega,by have:=h.2; omega⟩
section
variable {is:Int→Bool} (hneg:∀ x,smallB x→is (-x) = !is x)
include hneg
def TrueBy (is:Int→Bool) (V:List Int):Prop:=∀ y,goodB y=true→tV V y=1→smallB y∧is y=true
theorem not_false {V:List Int} (hI:TrueBy is V) {y:Int} (hy:smallB y) (h1:is y=true):tV V y ≠ -1:=fun e=>by
  have h2:tV V (-y)=1:=by rw[tV_neg V hy.1,e]; rfl
  have:=(hI (-y) (goodB_neg (small_good hy)) h2).2
  rw[hneg y hy,h1] at this
  cases this
end
end Go.Vm
/- Plain laws of chapter 26: PropSound. -/
namespace Go.Vm
open Go
theorem walkT {α τ:Type} {ws:List α} {f:Int→Option (Step Int (Bool ⊕ τ))} {u:τ} {P:α→Prop} (hn:ws.length≤1048576)
    (hs:∀ (i:Nat) (h:i < ws.length),f (i:Int)=some (.done (Sum.inl true))∨(f (i:Int)=some (.next ((i + 1:Nat):Int))∧P ws[i])) (he:f (ws.length:Int)=some (.done (Sum.inr u))) :
    loopC f 0=some (Sum.inl true)∨(loopC f 0=some (Sum.inr u)∧∀ x∈ws,P x):=by
  obtain⟨t,h1,h2⟩:=loopC_inv (f:=f) (fun x=>∃ i:Nat,x=(i:Int)∧i≤ws.length∧∀ y∈ws.take i,P y) (fun x=>ws.length - x.toNat) (fun t=>t=Sum.inl true∨(t=Sum.inr u∧∀ x∈ws,P x)) (fun x hx=>by
    obtain⟨i,rfl,hi,hall⟩:=hx
    rcases Nat.lt_or_ge i ws.length with h | h
    · rcases hs i h with e | ⟨e1,e2⟩
      · exact .inl ⟨_,e,.inl rfl⟩
      · refine .inr ⟨_,e1,⟨i + 1,rfl,h,fun y hy=>?_⟩,by omega⟩
        rw[List.take_succ_eq_append_getElem h] at hy
        rcases List.mem_append.1 hy with hy | hy
        · exact hall y hy
        · rw[List.mem_singleton.1 hy]; exact e2
    · have:i=ws.length:=by omega
      subst this
      rw[List.take_length] at hall
      exact .inl ⟨_,he,.inr ⟨rfl,hall⟩⟩) (x:=0) ⟨0,rfl,Nat.zero_le _,by simp⟩
  rcases h2 with rfl | ⟨rfl,h2⟩
  · exact .inl h1
  · exact .inr ⟨h1,h2⟩
end Go.Vm
/- Plain laws of chapter 29: RupSound. -/
namespace Go.Vm
open Go
theorem awake29_t:law29_awake=some true:=rfl
end Go.Vm
/- Plain laws of chapter 1: digits. -/
namespace Go.Vm
open Go
def nought (c:UInt8):Bool:=c == 48
def trimM (s:Str):Str:=if s.dropWhile nought=[] then [48] else s.dropWhile nought
theorem trimLeftByte_eq (s:Str) (hs:s.length≤4611686018427387904):strings_trimLeftByte s 48=some (s.dropWhile nought):=by
  unfold strings_trimLeftByte
  rw[loopC_fun (fun x=>x.length≤4611686018427387904) (fun x=>x.length) (fun x=>x.dropWhile nought) (fun x hx=>?_) hs]
  · rfl
  · cases x with
    | nil=>left; simp[strings_trimLeftByte_l1]
    | cons c x=>
      have h0:idx (c :: x) 0=some (c.toNat:Int):=idx_nat (s:=c :: x) (i:=0) (by simp)
      have h1:subl (c :: x) 1 ((c :: x).length:Int)=some x:=by
        have:=subl_drop (l:=c :: x) (i:=1) (by simp)
        simpa using this
      have h2:((c.toNat:Int) == 48)=nought c:=u8c_beq c 48
      cases hc:nought c with
      | true=>
        right
        refine⟨x,?_,by simp only[List.length_cons] at hx; omega,by simp,by rw[List.dropWhile_cons_of_pos hc]⟩
        unfold strings_trimLeftByte_l1
        rw[h0,h1]
        simp only[List.length_cons,Option.bind_some,h2,hc]
        rw[if_pos (by simp; try omega)]
        rfl
      | false=>
        left
        unfold strings_trimLeftByte_l1
        rw[h0]
        simp only[List.length_cons,Option.bind_some,h2,hc,List.dropWhile_cons]
        rw[if_pos (by simp; try omega)]
        rfl
theorem scan_Trim_eq (s:Str) (hs:s.length≤4611686018427387904):scan_Trim s=some (trimM s):=by
  unfold scan_Trim strings_TrimLeft_s05d1
  have h1:(if ((s == []) && true)=true then some s else Option.bind (strings_trimLeftByte s 48) (fun x1=>some x1))=some (s.dropWhile nought):=by
    cases s with
    | nil=>simp
    | cons c s=>
      rw[if_neg (by simp),trimLeftByte_eq _ hs]
      rfl
  rw[h1]
  simp only[Option.bind_some,trimM,beq_iff_eq]
  split <;> rfl
def cmpI (a b:Int):Int:=if a < b then -1 else if b < a then 1 else 0
theorem cmp_Compare_int_eq (a b:Int):cmp_Compare_int a b=some (cmpI a b):=by
  have h:∀ x:Int,cmp_isNaN_int x=some false:=fun x=>by simp[cmp_isNaN_int]
  unfold cmp_Compare_int cmpI
  rw[h,h]
  simp only[Option.bind_some,Bool.false_eq_true,if_false,decide_eq_true_eq,gt_iff_lt]
  split
  · rfl
  · split <;> rfl
theorem cmp_Or_int_eq (l:List Int) (hl:l.length≤4611686018427387904):cmp_Or_int l=some ((l.find? (· != 0)).getD 0):=by
  unfold cmp_Or_int
  have:=loopC_fun (f:=cmp_Or_int_l1 l) (fun x=>∃ i:Nat,x=i∧i≤l.length) (fun x=>l.length - x.toNat) (fun x=>match (l.drop x.toNat).find? (· != 0) with | some y=>Sum.inl y | none=>Sum.inr ()) (fun x hx=>by
    obtain⟨i,rfl,hi⟩:=hx
    simp only[Int.toNat_natCast]
    rcases Nat.lt_or_ge i l.length with h | h
    · unfold cmp_Or_int_l1
      rw[if_pos (by simp; omega),ixl_nat h,List.drop_eq_getElem_cons h]
      simp only[Option.bind_some,List.find?_cons]
      cases hc:l[i] != 0 with
      | true=>left; rfl
      | false=>
        right
        refine⟨((i + 1:Nat):Int),by rw[if_neg (by simp),w64_id (by omega) (by omega)]; rfl,⟨i + 1,rfl,h⟩,by rw[Int.toNat_natCast]; omega,by rw[Int.toNat_natCast]⟩
    · have:i=l.length:=by omega
      subst this
      left
      unfold cmp_Or_int_l1
      rw[if_neg (by simp)]
      simp) (x:=0) ⟨0,rfl,Nat.zero_le _⟩
  rw[this]
  simp only[Option.bind_some,Int.toNat_zero,List.drop_zero]
  cases l.find? (· != 0) <;> rfl
theorem strings_Compare_eq (a b:Str):strings_Compare a b=some (Lib.compareBytes a b):=rfl
def cmpM (a b:Str):Int:=if cmpI (trimM a).length (trimM b).length≠0 then cmpI (trimM a).length (trimM b).length else Lib.compareBytes (trimM a) (trimM b)
theorem find2 (x y:Int):(([x,y].find? (· != 0)).getD 0)=if x≠0 then x else y:=by
  by_cases h:x=0
  · subst h
    by_cases h2:y=0
    · subst h2; rfl
    · simp[h2]
  · simp[h]
theorem scan_Cmp_eq (a b:Str) (ha:a.length≤4611686018427387904) (hb:b.length≤4611686018427387904):scan_Cmp a b=some (cmpM a b):=by
  unfold scan_Cmp
  rw[scan_Trim_eq a ha,scan_Trim_eq b hb]
  simp only[Option.bind_some,cmp_Compare_int_eq,strings_Compare_eq]
  rw[cmp_Or_int_eq _ (by simp),find2]
  rfl
def isB (c k:Int):Bool:=
  if k=1 then decide (48≤c) && decide (c≤57)
  else if k=2 then decide (97≤c) && decide (c≤122)
  else if k=3 then decide (65≤c) && decide (c≤90)
  else if k=4 then decide (97≤c) && decide (c≤122) || decide (65≤c) && decide (c≤90)
  else if k=5 then decide (48≤c) && decide (c≤57) || decide (97≤c) && decide (c≤122) || decide (65≤c) && decide (c≤90)
  else if k=6 then c == 32 || c == 9
  else if k=7 then c == 32 || c == 9 || c == 10 || c == 13
  else false
theorem scan_Is_eq (c k:Int):scan_Is c k=some (isB c k):=by
  unfold scan_Is isB
  simp only[beq_iff_eq,ge_iff_le]
  repeat (split; first | rfl | skip)
  rfl
def isP (k:Int) (c:UInt8):Bool:=isB c.toNat k
def runM (s:Str) (at' k:Int):Int:=if at' < 0∨s.length < at' then at' else (runE (isP k) s at'.toNat:Int)
theorem scan_Run_eq (s:Str) (at' k:Int) (hs:s.length≤4611686018427387904):scan_Run s at' k=some (runM s at' k):=by
  unfold scan_Run runM
  simp only[Bool.or_eq_true,decide_eq_true_eq,gt_iff_lt]
  split
  · rfl
  · rename_i h
    obtain⟨i,rfl⟩:∃ i:Nat,at' = i:=⟨at'.toNat,by omega⟩
    have:=loopC_fun (f:=scan_Run_l1 s i k) (fun x=>∃ j:Nat,x=j∧i + j≤s.length) (fun x=>s.length - x.toNat) (fun x=>if runE (isP k) s (i + x.toNat)=s.length then Sum.inr () else Sum.inl (runE (isP k) s (i + x.toNat):Int)) (fun x hx=>by
      obtain⟨j,rfl,hj⟩:=hx
      simp only[Int.toNat_natCast]
      rcases Nat.lt_or_ge (i + j) s.length with h | h
      · have hi:=idx_nat h
        have e:w64 ((i:Int) + (j:Int))=((i + j:Nat):Int):=by rw[w64_id (by omega) (by omega)]; omega
        unfold scan_Run_l1
        rw[if_pos (by rw[w64_id (by omega) (by omega)]; simp; omega),e,hi]
        simp only[Option.bind_some,scan_Is_eq]
        cases hc:isB s[i + j].toNat k with
        | true=>
          right
          have e2:w64 ((j:Int) + 1)=((j + 1:Nat):Int):=by rw[w64_id (by omega) (by omega)]; omega
          refine⟨((j + 1:Nat):Int),by rw[e2]; rfl,⟨j + 1,rfl,by omega⟩,by rw[Int.toNat_natCast]; omega,?_⟩
          rw[Int.toNat_natCast,← Nat.add_assoc,← runE_yes h hc]
        | false=>
          left
          rw[runE_no h hc,if_neg (show ¬ (i + j=s.length) by omega)]
          rfl
      · have:i + j=s.length:=by omega
        left
        unfold scan_Run_l1
        rw[if_neg (by rw[w64_id (by omega) (by omega)]; simp; omega),this,runE_end]
        simp) (x:=0) ⟨0,rfl,by omega⟩
    rw[this]
    simp only[Option.bind_some,Int.toNat_zero,Nat.add_zero,Int.toNat_natCast]
    by_cases he:runE (isP k) s i=s.length
    · rw[if_pos he,he]
    · rw[if_neg he]
end Go.Vm
/- Plain laws of chapter 1: the order of digits. -/
namespace Go.Vm
open Go
def isDig (s:Str):Prop:=∀ c∈s,48≤c.toNat∧c.toNat≤57
def val:Str→Nat
  | []=>0
  | c :: s=>(c.toNat - 48) * 10 ^ s.length + val s
theorem val_lt:∀ {s:Str},isDig s→val s < 10 ^ s.length
  | [],_=>by simp[val]
  | c :: s,h=>by
    have ih:=val_lt (s:=s) fun x hx=>h x (List.mem_cons_of_mem _ hx)
    have hc:=h c List.mem_cons_self
    simp only[val,List.length_cons,Nat.pow_succ]
    have:(c.toNat - 48) * 10 ^ s.length≤9 * 10 ^ s.length:=Nat.mul_le_mul_right _ (by omega)
    omega
theorem val_drop:∀ s:Str,val (s.dropWhile nought)=val s
  | []=>rfl
  | c :: s=>by
    cases hc:nought c with
    | true=>
      rw[List.dropWhile_cons_of_pos hc,val_drop s]
      have:c=48:=by simpa[nought] using hc
      subst this
      simp[val]
    | false=>rw[List.dropWhile_cons_of_neg (by simp[hc])]
theorem val_trim (s:Str):val (trimM s)=val s:=by
  unfold trimM
  split
  · rename_i h
    have:=val_drop s
    rw[h] at this
    rw[← this]; rfl
  · exact val_drop s
theorem dig_trim {s:Str} (h:isDig s):isDig (trimM s):=by
  unfold trimM
  split
  · intro c hc
    simp only[List.mem_singleton] at hc
    subst hc
    decide
  · intro c hc
    exact h c ((List.dropWhile_suffix _).subset hc)
theorem trim_canon (s:Str):trimM s=[48]∨∃ c t,trimM s=c :: t∧c≠48:=by
  unfold trimM
  split
  · left; rfl
  · rename_i h
    right
    obtain⟨c,t,e⟩:=List.exists_cons_of_ne_nil h
    refine⟨c,t,e,fun hc=>?_⟩
    have:nought c=false:=by
      have:=List.head_dropWhile_not nought h
      simpa[e] using this
    subst hc
    exact absurd this (by decide)
theorem cmpB_val:∀ (a b:Str),isDig a→isDig b→a.length=b.length→Lib.compareBytes a b=cmpI (val a) (val b)
  | [],[],_,_,_=>by simp[Lib.compareBytes,cmpI,val]
  | [],_ :: _,_,_,h=>by simp at h
  | _ :: _,[],_,_,h=>by simp at h
  | x :: a,y :: b,ha,hb,h=>by
    have ha':isDig a:=fun z hz=>ha z (List.mem_cons_of_mem _ hz)
    have hb':isDig b:=fun z hz=>hb z (List.mem_cons_of_mem _ hz)
    have hl:a.length=b.length:=by simpa using h
    have ih:=cmpB_val a b ha' hb' hl
    have hx:=ha x List.mem_cons_self
    have hy:=hb y List.mem_cons_self
    have va:=val_lt ha'
    have vb:=val_lt hb'
    rw[hl] at va
    simp only[Lib.compareBytes,ih,val,hl,UInt8.lt_iff_toNat_lt]
    generalize 10 ^ b.length=p at va vb
    rcases Nat.lt_trichotomy x.toNat y.toNat with h1 | h1 | h1
    · rw[if_pos h1]
      have:(x.toNat - 48 + 1) * p≤(y.toNat - 48) * p:=Nat.mul_le_mul_right _ (by omega)
      rw[Nat.add_mul] at this
      unfold cmpI
      rw[if_pos (by omega)]
    · rw[if_neg (by omega),if_neg (by omega),h1]
      unfold cmpI
      congr 1
      · simp
      · congr 1; simp
    · rw[if_neg (by omega),if_pos h1]
      have:(y.toNat - 48 + 1) * p≤(x.toNat - 48) * p:=Nat.mul_le_mul_right _ (by omega)
      rw[Nat.add_mul] at this
      unfold cmpI
      rw[if_neg (by omega),if_pos (by omega)]
theorem len_lt_val {a b:Str} (ha:isDig a) (hb:isDig b) (h:(trimM a).length < (trimM b).length):val a < val b:=by
  rw[← val_trim a,← val_trim b]
  have h1:=val_lt (dig_trim ha)
  have h2:=dig_trim hb
  have hz:1≤(trimM a).length:=by rcases trim_canon a with e | ⟨_,_,e,_⟩ <;> simp[e]
  rcases trim_canon b with e | ⟨c,t,e,hc⟩
  · rw[e] at h; simp only[List.length_singleton] at h; omega
  · rw[e] at h h2 ⊢
    have h3:=h2 c List.mem_cons_self
    have hc':c.toNat≠48:=fun q=>hc (by apply UInt8.toNat_inj.1; exact q)
    have h4:1 * 10 ^ t.length≤(c.toNat - 48) * 10 ^ t.length:=Nat.mul_le_mul_right _ (by omega)
    have h5:10 ^ (trimM a).length≤10 ^ t.length:=Nat.pow_le_pow_right (by omega) (by simp at h; omega)
    simp only[val]
    omega
theorem cmpM_val {a b:Str} (ha:isDig a) (hb:isDig b):cmpM a b=cmpI (val a) (val b):=by
  unfold cmpM
  rcases Nat.lt_trichotomy (trimM a).length (trimM b).length with h | h | h
  · have:=len_lt_val ha hb h
    have e:cmpI ((trimM a).length:Int) ((trimM b).length:Int) = -1:=by unfold cmpI; rw[if_pos (by omega)]
    rw[e,if_pos (by decide)]
    unfold cmpI; rw[if_pos (by omega)]
  · have e:cmpI ((trimM a).length:Int) ((trimM b).length:Int)=0:=by unfold cmpI; rw[if_neg (by omega),if_neg (by omega)]
    rw[e,if_neg (by decide),cmpB_val _ _ (dig_trim ha) (dig_trim hb) h,val_trim,val_trim]
  · have:=len_lt_val hb ha h
    have e:cmpI ((trimM a).length:Int) ((trimM b).length:Int)=1:=by unfold cmpI; rw[if_neg (by omega),if_pos (by omega)]
    rw[e,if_pos (by decide)]
    unfold cmpI; rw[if_neg (by omega),if_pos (by omega)]
def ints (s:Str):List Int:=s.map fun c=>(c.toNat:Int)
theorem ofb_ints (s:Str):ofb (ints s)=s:=by
  simp only[ofb,ints,List.map_map]
  conv=>rhs; rw[← List.map_id s]
  refine List.map_congr_left fun c _=>?_
  simp
end Go.Vm
/- Plain laws of chapter 5: versions are read. -/
namespace Go.Vm
open Go
def partI (c:Int):Bool:=((((isB c 5 || (c == 46)) || (c == 95)) || (c == 43)) || (c == 126)) || (c == 94)
def partP (c:UInt8):Bool:=partI c.toNat
end Go.Vm
/- Plain laws of chapter 5: segments of versions. -/
namespace Go.Vm
open Go
theorem drop_tw {p:UInt8→Bool}:∀ l:Str,l.drop (l.takeWhile p).length=l.dropWhile p
  | []=>rfl
  | c :: l=>by
    cases h:p c with
    | true=>rw[List.takeWhile_cons_of_pos h,List.dropWhile_cons_of_pos h,List.length_cons,List.drop_succ_cons,drop_tw l]
    | false=>rw[List.takeWhile_cons_of_neg (by simp[h]),List.dropWhile_cons_of_neg (by simp[h])]; rfl
theorem take_tw {p:UInt8→Bool}:∀ l:Str,l.take (l.takeWhile p).length=l.takeWhile p
  | []=>rfl
  | c :: l=>by
    cases h:p c with
    | true=>rw[List.takeWhile_cons_of_pos h,List.length_cons,List.take_succ_cons,take_tw l]
    | false=>rw[List.takeWhile_cons_of_neg (by simp[h])]; rfl
end Go.Vm
/- Plain laws: orders. -/
namespace Go.Vm
open Go
structure Ord3 {α:Type} (c:α→α→Int):Prop where
  lo:∀ x y, -1≤c x y
  hi:∀ x y,c x y≤1
  refl:∀ x,c x x=0
  anti:∀ x y,c y x = -c x y
  trans:∀ x y z,c x y≤0→c y z≤0→c x z≤0
theorem Ord3.map {α β:Type} {c:β→β→Int} (h:Ord3 c) (f:α→β):Ord3 (fun x y=>c (f x) (f y)):=
  ⟨fun _ _=>h.lo _ _,fun _ _=>h.hi _ _,fun _=>h.refl _,fun _ _=>h.anti _ _,fun _ _ _=>h.trans _ _ _⟩
end Go.Vm
/- Plain laws of chapter 5: what is read, written and fits. -/
namespace Go.Vm
open Go
def segsP (s:Str):Prop:=s≠[]∧∀ c∈s,partP c=true
instance (s:Str):Decidable (segsP s):=inferInstanceAs (Decidable (_∧_))
end Go.Vm
/- Plain laws of chapter 5: the document's segments. -/
namespace Go.Vm
open Go
theorem drop_runE' (p:UInt8→Bool) (s:Str) (i:Nat):s.drop (runE p s i)=(s.drop i).dropWhile p:=by
  unfold runE
  rw[← List.drop_drop,drop_tw]
end Go.Vm
/- Plain laws of chapter 3: what a reader does. -/
namespace Go.Vm
open Go
def Suf (a:Str) (i:Nat) (r:Str):Prop:=i≤a.length∧a.drop i=r
theorem Suf.pos {a:Str} {i:Nat} {r:Str} (h:Suf a i r):i=a.length - r.length∧r.length≤a.length:=by
  have:=congrArg List.length h.2
  simp only[List.length_drop] at this
  have:=h.1
  omega
theorem Suf.cons {a:Str} {i:Nat} {c:UInt8} {q:Str} (h:Suf a i (c :: q)):i < a.length∧idx a i=some (c.toNat:Int)∧Suf a (i + 1) q:=by
  have hl:i < a.length:=by
    rcases Nat.lt_or_ge i a.length with h' | h'
    · exact h'
    · have:=h.2; rw[List.drop_eq_nil_of_le h'] at this; cases this
  have:=h.2
  rw[List.drop_eq_getElem_cons hl] at this
  have h2:=List.cons.inj this
  refine⟨hl,?_,hl,h2.2⟩
  rw[idx_nat hl,h2.1]
theorem Suf.nil {a:Str} {i:Nat} (h:Suf a i []):i=a.length:=by
  have:=h.pos
  simp only[List.length_nil] at this
  omega
theorem Suf.run {a:Str} {i:Nat} {r:Str} (h:Suf a i r) (p:UInt8→Bool):Suf a (runE p a i) (r.dropWhile p)∧subl a i (runE p a i:Int)=some (r.takeWhile p)∧i≤runE p a i:=by
  have hle:runE p a i≤a.length:=runE_le h.1
  have hge:=runE_ge p a i
  refine⟨⟨hle,by rw[drop_runE',h.2]⟩,?_,hge⟩
  rw[subl_nat hge hle]
  unfold runE
  rw[Nat.add_sub_cancel_left,h.2,take_tw]
theorem Suf.drop {a:Str} {i k:Nat} {r:Str} (h:Suf a i r) (hk:k≤r.length):Suf a (i + k) (r.drop k):=by
  have:=h.pos
  refine⟨?_,by rw[← List.drop_drop,h.2]⟩
  have:=h.1
  omega
def hdP (p:UInt8→Bool):Str→Bool
  | []=>false
  | c :: _=>p c
theorem tw_nil {p:UInt8→Bool} {r:Str}:r.takeWhile p=[]↔hdP p r=false:=by
  cases r with
  | nil=>simp[hdP]
  | cons c q=>cases h:p c <;> simp[hdP,h]
section
variable {a:Str} (ha:a.length≤64)
include ha
end
end Go.Vm
/- Plain laws of chapter 29: numbers and their texts. -/
namespace Go.Vm
open Go
def i64B (x:Int):Prop:= -9223372036854775808≤x∧x≤9223372036854775807
theorem wrap64_nn {x:Int} (h0:0≤x) (h1:x < 18446744073709551616):IntKind.wrap .u64 x=x:=by
  unfold IntKind.wrap
  simp[IntKind.bits,IntKind.signed]
  omega
theorem wrap64_neg {x:Int} (h0:x < 0) (h1 : -9223372036854775808≤x):IntKind.wrap .u64 (0 - IntKind.wrap .u64 x) = -x:=by
  unfold IntKind.wrap
  simp[IntKind.bits,IntKind.signed]
  omega
theorem bytesI_len (l:List UInt8):(bytesI l).length=l.length:=by simp[bytesI]
theorem bytesI_app (a b:List UInt8):bytesI (a ++ b)=bytesI a ++ bytesI b:=by simp[bytesI]
theorem nDig_le:∀ (k u:Nat),u < 10 ^ (k + 1)→Lib.nDigits u≤k + 1
  | 0,u,h=>by rw[Lib.nDigits_small (by simpa using h)]; omega
  | k + 1,u,h=>by
    by_cases h1:u < 10
    · rw[Lib.nDigits_small h1]; omega
    · rw[Lib.nDigits_big h1]
      have:=nDig_le k (u / 10) (by rw[Nat.pow_succ] at h; omega)
      omega
theorem decD_len {u:Nat} (h:u < 18446744073709551616):(Lib.decDigits u).length≤20:=by
  rw[Lib.decDigits_length]
  exact nDig_le 19 u (Nat.lt_of_lt_of_le h (by decide))
theorem itoa_len {x:Int} (h:i64B x):(Lib.itoa x).length≤21:=by
  unfold Lib.itoa
  split
  · have:=decD_len (u:=x.natAbs) (by unfold i64B at h; omega)
    simp only[List.length_cons]
    omega
  · have:=decD_len (u:=x.toNat) (by unfold i64B at h; omega)
    omega
theorem appU_eq (l:List Int) (u:Nat) (hu:u < 18446744073709551616) (hl:l.length≤1099511627776):strconv_AppendUint l (u:Int) 10=some (l ++ bytesI (Lib.decDigits u)):=by
  have:=decD_len hu
  unfold strconv_AppendUint
  rw[if_pos ⟨rfl,by omega,by omega⟩,Int.toNat_natCast]
  exact app_ok (by rw[bytesI_len]; omega) (by rw[bytesI_len]; omega)
theorem appI_eq (l:List Int) (x:Int) (hx:i64B x) (hl:l.length≤549755813888):strconv_AppendInt_m3f57 l x 10=some (l ++ bytesI (Lib.itoa x)):=by
  unfold strconv_AppendInt_m3f57 istrconv_AppendInt_m3f57
  have hx':=hx
  unfold i64B at hx'
  by_cases h:x < 0
  · rw[if_pos (decide_eq_true h),app_ok (by simp only[List.length_singleton]; omega) (by simp only[List.length_singleton]; omega)]
    simp only[Option.bind_some]
    rw[wrap64_neg h (by omega),show -x=((x.natAbs:Nat):Int) by omega,appU_eq _ _ (by omega) (by simp only[List.length_append,List.length_singleton]; omega)]
    simp only[Option.bind_some]
    rw[Lib.itoa,if_pos h,List.append_assoc]
    rfl
  · rw[if_neg (by simpa using h)]
    simp only[Option.bind_some]
    obtain⟨k,rfl⟩:∃ k:Nat,x=(k:Int):=⟨x.toNat,by omega⟩
    rw[wrap64_nn (by omega) (by omega),appU_eq _ _ (by omega) (by omega)]
    simp only[Option.bind_some]
    rw[Lib.itoa,if_neg (by omega),Int.toNat_natCast]
def litsT (c:List Int):Str:=c.flatMap fun x=>Lib.itoa x ++ [32]
def textT (p:List (List Int)):Str:=p.flatMap fun c=>litsT c ++ [48,10]
theorem litsT_len {c:List Int} (h:∀ x∈c,i64B x):(litsT c).length≤22 * c.length:=by
  induction c with
  | nil=>exact Nat.le_refl _
  | cons x c ih=>
    have h1:=itoa_len (h x (List.mem_cons_self ..))
    have h2:=ih fun y hy=>h y (List.mem_cons_of_mem x hy)
    simp only[litsT,List.flatMap_cons,List.length_append,List.length_cons,List.length_nil] at h2 ⊢
    omega
theorem fold_app {α:Type} {F:List Int × Int→Option (Step (List Int × Int) (List Int))} {ws:List α} {g:α→Str} {B:Nat} (hB:(ws.map fun y=>(g y).length).sum≤B)
    (h1:∀ (b:List Int) (i:Nat) (h:i < ws.length),b.length≤549755813888→F (b,(i:Int))=some (.next (b ++ bytesI (g ws[i]),((i + 1:Nat):Int)))) (h2:∀ b,F (b,(ws.length:Int))=some (.done b)) {b0:List Int} (h0:b0.length + B≤549755813888) :
    loopC F (b0,0)=some (b0 ++ bytesI (ws.flatMap g)):=by
  have:=loopC_fun (f:=F) (fun x=>∃ i:Nat,x.2=(i:Int)∧i≤ws.length∧x.1.length + ((ws.drop i).map fun y=>(g y).length).sum≤549755813888) (fun x=>ws.length - x.2.toNat) (fun x=>x.1 ++ bytesI ((ws.drop x.2.toNat).flatMap g)) (fun x hx=>by
    obtain⟨b,z⟩:=x
    obtain⟨i,e,hi,hb⟩:=hx
    simp only at e hb
    subst e
    simp only[Int.toNat_natCast]
    rcases Nat.lt_or_ge i ws.length with h | h
    · right
      refine⟨_,h1 b i h (by omega),⟨i + 1,rfl,h,?_⟩,by simp only[Int.toNat_natCast]; omega,?_⟩
      · rw[List.drop_eq_getElem_cons h] at hb
        simp only[List.map_cons,List.sum_cons,List.length_append,bytesI_len] at hb ⊢
        omega
      · simp only[Int.toNat_natCast]
        rw[List.drop_eq_getElem_cons h,List.flatMap_cons,bytesI_app,List.append_assoc]
    · left
      have:i=ws.length:=by omega
      subst this
      rw[h2,List.drop_of_length_le (Nat.le_refl _)]
      simp[bytesI]) (x:=(b0,(0:Int))) ⟨0,rfl,Nat.zero_le _,by simp only[List.drop_zero]; omega⟩
  rw[this]
  simp
theorem rtext1 (c:List Int) (hc:∀ x∈c,i64B x) (hl:c.length≤1048576) (b:List Int) (hb:b.length≤274877906944):loopC (rup_Text_l1 c) (b,0)=some (b ++ bytesI (litsT c)):=by
  have hlen:=litsT_len hc
  refine fold_app (ws:=c) (g:=fun x=>Lib.itoa x ++ [32]) (B:=(litsT c).length) (by simp[litsT,List.length_flatMap]) (fun b i h hb=>?_) (fun b=>?_) (by omega)
  · unfold rup_Text_l1
    simp only[]
    rw[if_pos (by simpa using h),ixl_nat h]
    simp only[Option.bind_some]
    have h1:=itoa_len (hc _ (List.getElem_mem h))
    rw[appI_eq _ _ (hc _ (List.getElem_mem h)) hb]
    simp only[Option.bind_some]
    rw[app_ok (by simp only[List.length_append,bytesI_len,List.length_singleton]; omega) (by simp only[List.length_append,bytesI_len,List.length_singleton]; omega),w64_n i (by omega),bytesI_app,List.append_assoc]
    rfl
  · unfold rup_Text_l1
    simp only[]
    rw[if_neg (by simp)]
theorem textT_len {p:List (List Int)} (h:∀ c∈p,∀ x∈c,i64B x):(textT p).length≤22 * (p.map fun c=>c.length + 1).sum:=by
  induction p with
  | nil=>exact Nat.le_refl _
  | cons c p ih=>
    have h1:=litsT_len (h c (List.mem_cons_self ..))
    have h2:=ih fun y hy=>h y (List.mem_cons_of_mem c hy)
    simp only[textT,List.flatMap_cons,List.length_append,List.length_cons,List.length_nil,List.map_cons,List.sum_cons] at h2 ⊢
    omega
section
variable (p:List (List Int)) (hp:∀ c∈p,∀ x∈c,i64B x) (hl:(p.map fun c=>c.length + 1).sum≤1048576)
include hl in
theorem row_le:p.length≤1048576∧∀ c∈p,c.length≤1048576:=by
  have key:∀ p:List (List Int),p.length≤(p.map fun c=>c.length + 1).sum∧∀ c∈p,c.length≤(p.map fun c=>c.length + 1).sum:=by
    intro p
    induction p with
    | nil=>exact⟨Nat.le_refl _,fun c hc=>by cases hc⟩
    | cons x p ih=>
      simp only[List.map_cons,List.sum_cons,List.length_cons]
      refine⟨by have:=ih.1; omega,fun c hc=>?_⟩
      rcases List.mem_cons.1 hc with rfl | hc
      · omega
      · have:=ih.2 c hc
        omega
  obtain⟨h1,h2⟩:=key p
  exact⟨by omega,fun c hc=>by have:=h2 c hc; omega⟩
include hp hl
theorem text_loop {F:List Int × Int→Option (Step (List Int × Int) (List Int))} (h1:∀ (b:List Int) (i:Nat) (h:i < p.length),b.length≤274877906944→F (b,(i:Int))=Option.bind (some (b ++ bytesI (litsT p[i]))) (fun x43=>Option.bind (app 1 x43 [48,10]) (fun x47=>some (Step.next (x47,(w64 ((i:Int) + 1))))))) (h2:∀ b,F (b,(p.length:Int))=some (.done b)) :
    loopC F ([],0)=some (bytesI (textT p)):=by
  have hlen:=textT_len hp
  obtain⟨r1,r2⟩:=row_le p hl
  have:=loopC_fun (f:=F) (fun x=>∃ i:Nat,x.2=(i:Int)∧i≤p.length∧x.1.length + (textT (p.drop i)).length≤23068672) (fun x=>p.length - x.2.toNat) (fun x=>x.1 ++ bytesI (textT (p.drop x.2.toNat))) (fun x hx=>by
    obtain⟨b,z⟩:=x
    obtain⟨i,e,hi,hb⟩:=hx
    simp only at e hb
    subst e
    simp only[Int.toNat_natCast]
    rcases Nat.lt_or_ge i p.length with h | h
    · right
      rw[List.drop_eq_getElem_cons h] at hb ⊢
      simp only[textT,List.flatMap_cons,List.length_append,List.length_cons,List.length_nil] at hb
      rw[h1 b i h (by omega)]
      simp only[Option.bind_some]
      rw[app_ok (by simp only[List.length_append,bytesI_len,List.length_cons,List.length_nil]; omega) (by simp only[List.length_append,bytesI_len,List.length_cons,List.length_nil]; omega),w64_n i (by omega)]
      refine⟨_,rfl,⟨i + 1,rfl,h,?_⟩,by simp only[Int.toNat_natCast]; omega,?_⟩
      · simp only[List.length_append,bytesI_len,List.length_cons,List.length_nil,textT]
        omega
      · simp only[Int.toNat_natCast,textT,List.flatMap_cons,bytesI_app,List.append_assoc]
        rfl
    · left
      have:i=p.length:=by omega
      subst this
      rw[h2,List.drop_of_length_le (Nat.le_refl _)]
      simp[textT,bytesI]) (x:=(([]:List Int),(0:Int))) ⟨0,rfl,Nat.zero_le _,by simp only[List.drop_zero,List.length_nil]; omega⟩
  rw[this]
  simp
theorem rup_Text_eq:rup_Text p=some (textT p):=by
  obtain⟨r1,r2⟩:=row_le p hl
  unfold rup_Text
  rw[text_loop p hp hl (fun b i h hb=>?_) (fun b=>?_)]
  · simp only[Option.bind_some]
    exact congrArg some (ofb_ints _)
  · unfold rup_Text_l2
    simp only[]
    rw[if_pos (by simpa using h),ixl_nat h]
    simp only[Option.bind_some]
    rw[rtext1 _ (hp _ (List.getElem_mem h)) (r2 _ (List.getElem_mem h)) b hb]
    rfl
  · unfold rup_Text_l2
    simp only[]
    rw[if_neg (by simp)]
end
end Go.Vm
/- Plain laws of chapter 29: readers. -/
namespace Go.Vm
open Go
def c4096:Str:=[52,48,57,54]
def numB (s:Str) (i:Nat):Nat:=if s[i]? = some 45 then i + 1 else i
def numE (s:Str) (i:Nat):Nat:=runE (isP 1) s (numB s i)
def numF (s:Str) (i:Nat):Int × Int:=
  if numE s i=numB s i then (if numB s i=s.length then (11,(s.length:Int)) else (10,(numB s i:Int)))
  else if s[numB s i]? = some 48∧i < numB s i then (10,(numB s i:Int))
  else if s[numB s i]? = some 48∧numB s i + 1 < numE s i then (10,((numB s i + 1:Nat):Int))
  else if numE s i < s.length∧isP 7 (s[numE s i]?.getD 0)=false then (10,(numE s i:Int))
  else if cmpM ((s.drop (numB s i)).take (numE s i - numB s i)) c4096 > 0 then (30,(i:Int))
  else (0,0)
def numV (s:Str) (i:Nat):Int:=atoiV ((s.drop i).take (numE s i - i))
theorem itoa4096:strconv_Itoa 4096=some c4096:=by
  unfold strconv_Itoa
  have:Lib.itoa 4096=c4096:=by
    unfold Lib.itoa
    rw[if_neg (by decide),show (4096:Int).toNat=4096 from rfl]
    rw[Lib.decDigits,dif_neg (by decide),Lib.decDigits,dif_neg (by decide),Lib.decDigits,dif_neg (by decide),Lib.decDigits,dif_pos (by decide)]
    decide
  simp[this]
theorem u8_dec (c d:UInt8):((c.toNat:Int) == (d.toNat:Int))=decide (c=d):=by
  rw[u8_beq]
  cases h:decide (c=d) with
  | true=>simp only[decide_eq_true_eq] at h; simp[h]
  | false=>simp only[decide_eq_false_iff_not] at h; simpa using h
section
variable (s:Str) (hs:s.length≤65536)
include hs
theorem run_nat {b:Nat} (hb:b≤s.length) (k:Int):scan_Run s b k=some (runE (isP k) s b:Int):=by
  rw[scan_Run_eq _ _ _ (by omega)]
  unfold runM
  rw[if_neg (by omega),Int.toNat_natCast]
theorem numB_eq {i:Nat} (hi:i < s.length):Option.bind (idx s i) (fun x=>(if (x == 45)=true then some (w64 ((i:Int) + 1)) else some (i:Int)))=some (numB s i:Int):=by
  rw[idx_nat hi]
  simp only[Option.bind_some]
  unfold numB
  rw[List.getElem?_eq_getElem hi,show ((s[i].toNat:Int) == 45)=decide (s[i]=45) from u8_dec _ 45]
  by_cases h:s[i]=45
  · rw[if_pos (by simp[h]),if_pos (by rw[h]),w64_n i (by omega)]
  · rw[if_neg (by simp[h]),if_neg (by simp[h])]
omit hs in
theorem numB_le {i:Nat} (hi:i < s.length):i≤numB s i∧numB s i≤i + 1∧numB s i≤s.length:=by
  unfold numB
  split <;> omega
omit hs in
theorem numE_le {i:Nat} (hi:i < s.length):numB s i≤numE s i∧numE s i≤s.length:=
  ⟨runE_ge _ _ _,runE_le (numB_le s hi).2.2⟩
theorem rup_num {i:Nat} (hi:i < s.length):rup_reader_number s i 0 0=some (numV s i,(numE s i:Int),(numF s i).1,(numF s i).2):=by
  obtain⟨b1,b2,b3⟩:=numB_le s hi
  obtain⟨e1,e2⟩:=numE_le s hi
  unfold rup_reader_number
  rw[numB_eq s hs hi]
  simp only[Option.bind_some]
  rw[run_nat s hs b3 1]
  simp only[Option.bind_some]
  rw[show runE (isP 1) s (numB s i)=numE s i from rfl,subl_nat e1 e2]
  simp only[Option.bind_some]
  have hat:(∀ q:Int × Int × Int,q.2=numF s i→(Option.bind (subl s i (numE s i:Int)) (fun x72=>Option.bind (strconv_Atoi x72) (fun x73=>some (x73,(numE s i:Int),q.2.1,q.2.2))))=some (numV s i,(numE s i:Int),(numF s i).1,(numF s i).2)):=fun q hq=>by
    rw[subl_nat (by omega) e2]
    simp only[Option.bind_some]
    unfold strconv_Atoi
    rw[if_pos (by simp only[List.length_take,List.length_drop]; omega),hq]
    rfl
  have fin:∀ o:Option (Int × Int × Int),(∃ z,o=some (z,numF s i))→(Option.bind o (fun (x49,x50,x51)=>Option.bind (subl s i (numE s i:Int)) (fun x72=>Option.bind (strconv_Atoi x72) (fun x73=>some (x73,(numE s i:Int),x50,x51)))))=some (numV s i,(numE s i:Int),(numF s i).1,(numF s i).2):=fun o ho=>by
    obtain⟨z,rfl⟩:=ho
    exact hat (z,numF s i) rfl
  refine fin _ ?_
  have hd:(List.take (numE s i - numB s i) (List.drop (numB s i) s)).length=numE s i - numB s i:=by
    rw[List.length_take,List.length_drop]; omega
  generalize hD:List.take (numE s i - numB s i) (List.drop (numB s i) s)=d at hd
  have hF:numF s i=if numE s i=numB s i then (if numB s i=s.length then (11,(s.length:Int)) else (10,(numB s i:Int)))
      else if s[numB s i]? = some 48∧i < numB s i then (10,(numB s i:Int))
      else if s[numB s i]? = some 48∧numB s i + 1 < numE s i then (10,((numB s i + 1:Nat):Int))
      else if numE s i < s.length∧isP 7 (s[numE s i]?.getD 0)=false then (10,(numE s i:Int))
      else if cmpM d c4096 > 0 then (30,(i:Int)) else (0,0):=by
    unfold numF; rw[hD]
  rw[hF]
  have hst:∀ (k:Nat) (p q:Int),rup_reader_stuck s k p q=some (if k=s.length then (11,(s.length:Int)) else if s.length < k then (11,(s.length:Int)) else (10,(k:Int))):=fun k p q=>by
    unfold rup_reader_stuck
    by_cases h:s.length≤k
    · rw[if_pos (by simpa using h)]
      split
      · rfl
      · rw[if_pos (by omega)]
    · rw[if_neg (by simpa using h),if_neg (by omega),if_neg (by omega)]
  have h0:∀ h1:¬ numE s i=numB s i,idx d 0=some ((s[numB s i]'(by omega)).toNat:Int):=fun h1=>by
    have hbl:numB s i < s.length:=by omega
    have:=idx_nat (s:=d) (i:=0) (by omega)
    rw[Int.natCast_zero] at this
    rw[this]
    have:d[0]'(by omega)=s[numB s i]:=by
      subst hD
      simp
    rw[this]
  have hX:(if (d == [])=true then some true else Option.bind (if (decide ((numB s i:Int) > (i:Int)))=true then Option.bind (idx d 0) (fun x57=>some (x57 == 48)) else some false:Option (Bool)) (fun x56=>some (false || x56)):Option (Bool))=some (decide (numE s i=numB s i∨(s[numB s i]? = some 48∧i < numB s i))):=by
    by_cases h1:numE s i=numB s i
    · have hn:d=[]:=List.length_eq_zero_iff.1 (by omega)
      rw[if_pos (by simp[hn]),decide_eq_true (.inl h1)]
    · have hbl:numB s i < s.length:=by omega
      rw[if_neg (by
        intro q
        have:d=[]:=by simpa using q
        rw[this] at hd
        simp only[List.length_nil] at hd
        omega),h0 h1,List.getElem?_eq_getElem hbl]
      simp only[Option.bind_some]
      rw[show ((s[numB s i].toNat:Int) == 48)=decide (s[numB s i]=48) from u8_dec _ 48]
      by_cases h3:i < numB s i
      · rw[if_pos (by simpa using h3)]
        by_cases h4:s[numB s i]=48 <;> simp[h4,h1,h3]
      · rw[if_neg (by simpa using h3)]
        simp[h1,h3]
  have hY:(if (decide ((numE s i:Int) < (List.length s:Int)))=true then Option.bind (idx s (numE s i)) (fun x66=>Option.bind (scan_Is x66 7) (fun x67=>some (!x67))) else some false:Option (Bool))=some (decide (numE s i < s.length∧isP 7 (s[numE s i]?.getD 0)=false)):=by
    by_cases h:numE s i < s.length
    · rw[if_pos (by simpa using h),idx_nat h,List.getElem?_eq_getElem h]
      simp only[Option.bind_some,scan_Is_eq,Option.getD_some]
      show some (!isP 7 s[numE s i])=_
      rcases Bool.eq_false_or_eq_true (isP 7 s[numE s i]) with hq | hq <;> simp[h,hq]
    · rw[if_neg (by simpa using h)]
      simp[h]
  have hY':=hY
  simp only[decide_eq_true_eq] at hY'
  rw[hX]
  simp only[Option.bind_some,decide_eq_true_eq]
  by_cases h1:numE s i=numB s i
  · rw[if_pos (.inl h1),hst]
    simp only[Option.bind_some]
    rw[if_pos h1]
    by_cases h2:numB s i=s.length
    · rw[if_pos h2,if_pos h2]; exact⟨_,rfl⟩
    · rw[if_neg h2,if_neg h2,if_neg (by omega)]; exact⟨_,rfl⟩
  · have hbl:numB s i < s.length:=by omega
    by_cases h2:s[numB s i]? = some 48∧i < numB s i
    · rw[if_pos (.inr h2),hst]
      simp only[Option.bind_some]
      rw[if_neg h1,if_pos h2,if_neg (by omega),if_neg (by omega)]
      exact⟨_,rfl⟩
    · rw[if_neg (fun q=>q.elim h1 h2),h0 h1]
      simp only[Option.bind_some]
      rw[if_neg h1,if_neg h2,List.getElem?_eq_getElem hbl,show ((s[numB s i].toNat:Int) == 48)=decide (s[numB s i]=48) from u8_dec _ 48]
      simp only[Option.some.injEq]
      by_cases h3:s[numB s i]=48∧numB s i + 1 < numE s i
      · rw[if_pos h3,if_pos (by simp only[Bool.and_eq_true,decide_eq_true_eq]; exact⟨h3.1,by omega⟩),w64_n _ (by omega),hst]
        simp only[Option.bind_some]
        rw[if_neg (by omega),if_neg (by omega)]
        exact⟨_,rfl⟩
      · rw[if_neg h3,if_neg (by
          simp only[Bool.and_eq_true,decide_eq_true_eq]
          exact fun q=>h3 ⟨q.1,by omega⟩),hY']
        simp only[Option.bind_some,decide_eq_true_eq]
        by_cases h4:numE s i < s.length∧isP 7 (s[numE s i]?.getD 0)=false
        · rw[if_pos h4,if_pos h4,hst]
          simp only[Option.bind_some]
          rw[if_neg (by omega),if_neg (by omega)]
          exact⟨_,rfl⟩
        · rw[if_neg h4,if_neg h4,itoa4096]
          simp only[Option.bind_some]
          rw[scan_Cmp_eq _ _ (by omega) (by decide)]
          simp only[Option.bind_some,decide_eq_true_eq]
          by_cases h5:cmpM d c4096 > 0
          · rw[if_pos h5,if_pos h5]; exact⟨_,rfl⟩
          · rw[if_neg h5,if_neg h5]; exact⟨_,rfl⟩
omit hs in
theorem numF_ok {i:Nat} (h:(numF s i).1=0):(numF s i).2=0∧numB s i≠numE s i:=by
  unfold numF at h ⊢
  by_cases h1:numE s i=numB s i
  · rw[if_pos h1] at h
    split at h <;> cases h
  · rw[if_neg h1] at h ⊢
    refine⟨?_,fun q=>h1 q.symm⟩
    repeat' (split at h; · cases h)
    simp only[*,if_false]
def put1 (v:Int) (out:List (List Int)) (c:List Int):List (List Int) × List Int:=if v=0 then (out ++ [c],[]) else (out,c ++ [v])
theorem parse_next {x:Nat} (hx:x < s.length) (hf:(numF s x).1=0) (out:List (List Int)) (c:List Int) (ho:out.length≤65536) (hc:c.length≤65536) :
    rup_Parse_l1 s (x,0,0,out,c)=some (.next ((runE (isP 7) s (numE s x):Int),0,0,put1 (numV s x) out c)):=by
  obtain⟨e1,e2⟩:=numE_le s hx
  unfold rup_Parse_l1
  simp only[]
  rw[if_pos (by simpa using hx),rup_num s hs hx,hf,(numF_ok s hf).1]
  simp only[Option.bind_some]
  rw[if_neg (by decide)]
  unfold put1
  by_cases hv:numV s x=0
  · rw[if_pos (by simp[hv]),app_ok (by simp only[List.length_singleton]; omega) (by simp only[List.length_singleton]; omega),if_pos hv]
    simp only[Option.bind_some]
    rw[run_nat s hs e2 7]
    rfl
  · rw[if_neg (by simp[hv]),app_ok (by simp only[List.length_singleton]; omega) (by simp only[List.length_singleton]; omega),if_neg hv]
    simp only[Option.bind_some]
    rw[run_nat s hs e2 7]
    rfl
theorem parse_end (out:List (List Int)) (c:List Int):rup_Parse_l1 s ((s.length:Int),0,0,out,c)=some (.done (Sum.inr (out,c))):=by
  unfold rup_Parse_l1
  simp only[]
  rw[if_neg (by simp)]
end
end Go.Vm
/- Plain laws of chapter 29: the laws of texts. -/
namespace Go.Vm
open Go
theorem ints29_l1 (a:List Int) (h:a.length≤1048576):loopC (law29_ints_l1 a a) 0=some (Sum.inr ()):=by
  have:=loopC_fun (f:=law29_ints_l1 a a) (fun x=>∃ i:Nat,x=(i:Int)∧i≤a.length) (fun x=>a.length - x.toNat) (fun _=>Sum.inr ()) (fun x hx=>by
    obtain⟨i,rfl,hi⟩:=hx
    unfold law29_ints_l1
    rcases Nat.lt_or_ge i a.length with h | h
    · right
      rw[if_pos (by simpa using h),ixl_nat h]
      simp only[Option.bind_some]
      rw[if_neg (by simp),w64_n i (by omega)]
      exact⟨_,rfl,⟨i + 1,rfl,h⟩,by omega,by trivial⟩
    · left
      rw[if_neg (by simp; omega)]) (x:=(0:Int)) ⟨0,rfl,Nat.zero_le _⟩
  exact this
theorem ints29 (a:List Int) (h:a.length≤1048576):law29_ints a a=some true:=by
  unfold law29_ints
  rw[if_neg (by simp),ints29_l1 a h]
  rfl
theorem rows_walk {F:Int→Option (Step Int (Unit ⊕ Unit))} {n:Nat} (hn:n≤1048576) (h1:∀ i:Nat,i < n→F (i:Int)=some (.next ((i + 1:Nat):Int))) (h2:F (n:Int)=some (.done (Sum.inr ()))):loopC F 0=some (Sum.inr ()):=by
  have:=loopC_fun (f:=F) (fun x=>∃ i:Nat,x=(i:Int)∧i≤n) (fun x=>n - x.toNat) (fun _=>Sum.inr ()) (fun x hx=>by
    obtain⟨i,rfl,hi⟩:=hx
    rcases Nat.lt_or_ge i n with h | h
    · exact .inr ⟨_,h1 i h,⟨i + 1,rfl,h⟩,by omega,rfl⟩
    · have:i=n:=by omega
      subst this
      exact .inl h2) (x:=(0:Int)) ⟨0,rfl,Nat.zero_le _⟩
  exact this
theorem wf_i64 {y:Int} (h:(Lit.int .i64 y).wf=true):i64B y:=by
  have e1:IntKind.i64.min = -9223372036854775808:=by decide
  have e2:IntKind.i64.max=9223372036854775807:=by decide
  simp[Lit.wf] at h
  unfold i64B
  omega
theorem row_sum {p:List (List Int)} (m0:((p.map fun y=>((y.map fun y=>1).sum + 1)).sum + 1)≤1048576):(p.map fun c=>c.length + 1).sum≤1048576:=by
  have:(p.map fun y=>((y.map fun y=>1).sum + 1))=p.map fun c=>c.length + 1:=by
    refine List.map_congr_left fun c _=>?_
    simp[List.map_const',List.sum_replicate_nat]
  rw[this] at m0
  omega
theorem val_app1:∀ (s:Str) (c:UInt8),val (s ++ [c])=val s * 10 + (c.toNat - 48)
  | [],c=>by simp[val]
  | d :: s,c=>by
    have ih:=val_app1 s c
    simp only[List.cons_append,val,ih,List.length_append,List.length_singleton,Nat.pow_succ]
    rw[Nat.add_mul,Nat.mul_assoc]
    omega
theorem digOf {k:Nat} (h:k < 10):(UInt8.ofNat (48 + k)).toNat=48 + k:=by
  rw[UInt8.toNat_ofNat']
  omega
theorem decD_dig (u:Nat):isDig (Lib.decDigits u)∧val (Lib.decDigits u)=u:=by
  induction u using Nat.strongRecOn with
  | _ u ih=>
    rw[Lib.decDigits]
    by_cases h:u < 10
    · rw[dif_pos h]
      refine⟨fun c hc=>?_,?_⟩
      · rw[List.mem_singleton.1 hc,digOf h]; omega
      · simp only[val,digOf h,List.length_nil,Nat.pow_zero]; omega
    · rw[dif_neg h]
      obtain⟨h1,h2⟩:=ih (u / 10) (by omega)
      refine⟨fun c hc=>?_,?_⟩
      · rcases List.mem_append.1 hc with hc | hc
        · exact h1 c hc
        · rw[List.mem_singleton.1 hc,digOf (by omega)]; omega
      · rw[val_app1,h2,digOf (by omega)]
        omega
theorem decD_head (u:Nat) (h0:0 < u):∃ c t,Lib.decDigits u=c :: t∧c≠48:=by
  induction u using Nat.strongRecOn with
  | _ u ih=>
    rw[Lib.decDigits]
    by_cases h:u < 10
    · rw[dif_pos h]
      refine⟨_,_,rfl,fun q=>?_⟩
      have:=congrArg UInt8.toNat q
      rw[digOf h] at this
      have e:(48:UInt8).toNat=48:=rfl
      omega
    · rw[dif_neg h]
      obtain⟨c,t,e,hc⟩:=ih (u / 10) (by omega) (by omega)
      rw[e]
      exact⟨c,_,rfl,hc⟩
theorem parse10:∀ (l:Str) (acc:Nat),isDig l→(acc + 1) * 10 ^ l.length≤100000000000000000→Lib.parseUint10 acc l = .ok (acc * 10 ^ l.length + val l)
  | [],acc,_,_=>by simp[Lib.parseUint10,val]
  | c :: l,acc,hd,hb=>by
    have hc:=hd c (List.mem_cons_self ..)
    have hl:isDig l:=fun x hx=>hd x (List.mem_cons_of_mem c hx)
    have hp:1≤10 ^ l.length:=Nat.one_le_pow _ _ (by decide)
    simp only[List.length_cons,Nat.pow_succ] at hb
    have hb2:(acc * 10 + (c.toNat - 48) + 1) * 10 ^ l.length≤100000000000000000:=by
      refine Nat.le_trans (Nat.mul_le_mul_right _ (show acc * 10 + (c.toNat - 48) + 1≤(acc + 1) * 10 by omega)) ?_
      rw[Nat.mul_assoc,Nat.mul_comm 10]
      exact hb
    have hsmall:acc * 10 + (c.toNat - 48) + 1≤100000000000000000:=Nat.le_trans (Nat.le_mul_of_pos_right _ hp) hb2
    simp only[Lib.parseUint10]
    rw[if_pos hc,if_neg (by omega),if_neg (by omega),parse10 l _ hl hb2]
    simp only[val,List.length_cons,Nat.pow_succ]
    congr 1
    rw[Nat.add_mul,Nat.mul_assoc,Nat.mul_comm 10]
    omega
theorem decD_val (u:Nat) (h:u≤4096):Lib.parseMag (Lib.decDigits u) = .ok u:=by
  obtain⟨h1,h2⟩:=decD_dig u
  unfold Lib.parseMag
  rw[if_neg (decDigits_ne u),parse10 _ 0 h1 (by
    rw[Lib.decDigits_length]
    have:=nDig_le 3 u (by omega)
    calc (0 + 1) * 10 ^ Lib.nDigits u≤1 * 10 ^ 4:=Nat.mul_le_mul_left _ (Nat.pow_le_pow_right (by decide) this)
      _≤_:=by decide),h2]
  simp
theorem atoi_itoa {x:Int} (h : -4096≤x∧x≤4096):atoiV (Lib.itoa x)=x:=by
  unfold atoiV Lib.itoa
  by_cases h0:x < 0
  · rw[if_pos h0]
    simp only[Lib.atoiAll]
    rw[if_pos (by decide),decD_val _ (by omega)]
    simp only[show (45:UInt8).toNat=45 from rfl,not_true,false_and,if_false,true_and,if_true]
    rw[if_neg (by omega)]
    simp only
    omega
  · rw[if_neg h0]
    obtain⟨h1,_⟩:=decD_dig x.toNat
    have hm:=decD_val x.toNat (by omega)
    have hne:=decDigits_ne x.toNat
    generalize Lib.decDigits x.toNat=l at h1 hm hne
    cases l with
    | nil=>exact absurd rfl hne
    | cons c t=>
      have hc:=h1 c (List.mem_cons_self ..)
      simp only[Lib.atoiAll]
      rw[if_neg (by omega),hm]
      simp only
      rw[if_neg (by omega),if_neg (by omega),if_neg (by omega)]
      simp only
      omega
theorem dP1_iff {c:UInt8}:isP 1 c=true↔48≤c.toNat∧c.toNat≤57:=by
  unfold isP isB
  rw[if_pos rfl]
  simp only[Bool.and_eq_true,decide_eq_true_eq]
  omega
theorem tw_dig {d:Str} (hd:isDig d) {c:UInt8} {r:Str} (hc:isP 1 c=false):(d ++ c :: r).takeWhile (isP 1)=d:=by
  rw[List.takeWhile_append_of_pos (fun x hx=>dP1_iff.2 (hd x hx)),List.takeWhile_cons_of_neg (by simp[hc]),List.append_nil]
theorem drop_get {s:Str} {i:Nat} {c:UInt8} {r:Str} (h:s.drop i=c :: r):i < s.length∧s[i]? = some c∧s.drop (i + 1)=r:=by
  have hl:i < s.length:=by
    rcases Nat.lt_or_ge i s.length with h' | h'
    · exact h'
    · rw[List.drop_eq_nil_of_le h'] at h; cases h
  rw[List.drop_eq_getElem_cons hl] at h
  have h2:=List.cons.inj h
  exact⟨hl,by rw[List.getElem?_eq_getElem hl,h2.1],h2.2⟩
theorem drop_app {s:Str} {i:Nat} {a r:Str} (h:s.drop i=a ++ r):s.drop (i + a.length)=r:=by
  rw[← List.drop_drop,h,List.drop_left]
theorem num_at {s:Str} {i:Nat} {x:Int} {c:UInt8} {r:Str} (hx : -4096≤x∧x≤4096) (hc:isP 7 c=true) (hc1:isP 1 c=false) (h:s.drop i=Lib.itoa x ++ c :: r) :
    i < s.length∧numE s i=i + (Lib.itoa x).length∧(numF s i).1=0∧numV s i=x:=by
  -- the digits
  obtain⟨d1,d2⟩:=decD_dig x.natAbs
  have hdne:=decDigits_ne x.natAbs
  have hB:s.drop (numB s i)=Lib.decDigits x.natAbs ++ c :: r∧numB s i + (Lib.decDigits x.natAbs).length=i + (Lib.itoa x).length∧(i < numB s i→x < 0)∧i≤numB s i∧i < s.length:=by
    unfold numB
    by_cases h0:x < 0
    · have hi:Lib.itoa x=45 :: Lib.decDigits x.natAbs:=by unfold Lib.itoa; rw[if_pos h0]
      rw[hi] at h ⊢
      obtain⟨g1,g2,g3⟩:=drop_get h
      rw[if_pos g2]
      exact⟨g3,by simp only[List.length_cons]; omega,fun _=>h0,by omega,g1⟩
    · have hi:Lib.itoa x=Lib.decDigits x.natAbs:=by unfold Lib.itoa; rw[if_neg h0]; congr 1; omega
      rw[hi] at h ⊢
      obtain⟨e,t,he⟩:=List.exists_cons_of_ne_nil hdne
      have h':=h
      rw[he] at h'
      obtain⟨g1,g2,g3⟩:=drop_get h'
      have:=d1 e (by rw[he]; exact List.mem_cons_self ..)
      rw[if_neg (by
        rw[g2]
        intro q
        have:=congrArg UInt8.toNat (Option.some.inj q)
        have e45:(45:UInt8).toNat=45:=rfl
        omega)]
      exact⟨h,by omega,fun q=>by omega,by omega,g1⟩
  obtain⟨b1,b2,b3,b4,b5⟩:=hB
  have hE:numE s i=i + (Lib.itoa x).length:=by
    unfold numE runE
    rw[b1,tw_dig d1 hc1,b2]
  have hlen:0 < (Lib.decDigits x.natAbs).length:=List.length_pos_iff.2 hdne
  have hEB:numE s i - numB s i=(Lib.decDigits x.natAbs).length:=by omega
  refine⟨b5,hE,?_,?_⟩
  · have hcmp:¬ cmpM ((s.drop (numB s i)).take (numE s i - numB s i)) c4096 > 0:=by
      rw[hEB,b1,List.take_left,cmpM_val d1 (fun c hc=>by have:=List.all_eq_true.1 (show (c4096.all fun c=>decide (48≤c.toNat∧c.toNat≤57))=true by decide) c hc; simpa using this),d2]
      rw[show val c4096=4096 by decide]
      unfold cmpI
      split
      · decide
      · rw[if_neg (by omega)]; decide
    have hsp:¬ (numE s i < s.length∧isP 7 (s[numE s i]?.getD 0)=false):=by
      have:=drop_app b1
      rw[show numB s i + (Lib.decDigits x.natAbs).length=numE s i by omega] at this
      rw[(drop_get this).2.1,Option.getD_some,hc]
      simp
    have h48:s[numB s i]? = some 48→x=0:=fun q=>by
      obtain⟨e,t,he⟩:=List.exists_cons_of_ne_nil hdne
      have b1':=b1
      rw[he] at b1'
      rw[(drop_get b1').2.1] at q
      have q':=Option.some.inj q
      subst q'
      by_cases hz:0 < x.natAbs
      · obtain⟨e',t',he',hne'⟩:=decD_head x.natAbs hz
        rw[he] at he'
        exact absurd (List.cons.inj he').1.symm hne'
      · omega
    unfold numF
    rw[if_neg (by omega),if_neg (fun q=>by have:=h48 q.1; have:=b3 q.2; omega),if_neg (fun q=>by
      have hx0:=h48 q.1
      subst hx0
      have:(Lib.decDigits (0:Int).natAbs).length=1:=by rw[Lib.decDigits_length]; exact Lib.nDigits_small (by decide)
      omega),if_neg hsp,if_neg hcmp]
  · unfold numV
    rw[hE,h,Nat.add_sub_cancel_left,List.take_left,atoi_itoa hx]
theorem isP7_32:isP 7 32=true∧isP 1 32=false:=by decide
theorem isP7_10:isP 7 10=true∧isP 1 10=false:=by decide
theorem itoa_head (x:Int):∃ c t,Lib.itoa x=c :: t∧isP 7 c=false:=by
  have hdig:∀ c:UInt8,45≤c.toNat→isP 7 c=false:=fun c h=>by
    unfold isP isB
    simp only[show ¬ (7:Int)=1 by decide,show ¬ (7:Int)=2 by decide,show ¬ (7:Int)=3 by decide,show ¬ (7:Int)=4 by decide,show ¬ (7:Int)=5 by decide,show ¬ (7:Int)=6 by decide,if_false,if_true,Bool.or_eq_false_iff,beq_eq_false_iff_ne,ne_eq]
    omega
  unfold Lib.itoa
  split
  · exact⟨_,_,rfl,by decide⟩
  · obtain⟨d1,_⟩:=decD_dig x.toNat
    obtain⟨e,t,he⟩:=List.exists_cons_of_ne_nil (decDigits_ne x.toNat)
    have:=d1 e (by rw[he]; exact List.mem_cons_self ..)
    exact⟨e,t,he,hdig e (by omega)⟩
theorem skip1 {s:Str} {i:Nat} {b:UInt8} {r:Str} (h:s.drop i=b :: r) (hb:isP 7 b=true) (hr:hdP (isP 7) r=false):runE (isP 7) s i=i + 1:=by
  unfold runE
  rw[h,List.takeWhile_cons_of_pos hb,tw_nil.2 hr]
  rfl
theorem textT_hd (p:List (List Int)):hdP (isP 7) (textT p)=false:=by
  cases p with
  | nil=>rfl
  | cons c p=>
    cases c with
    | nil=>exact (by decide:isP 7 48=false)
    | cons x c=>
      obtain⟨d,t,e,h⟩:=itoa_head x
      simp only[textT,List.flatMap_cons,litsT,e,List.cons_append]
      exact h
theorem litsT_hd (c:List Int) (r:Str):hdP (isP 7) (litsT c ++ 48 :: r)=false:=by
  cases c with
  | nil=>exact (by decide:isP 7 48=false)
  | cons x c=>
    obtain⟨d,t,e,h⟩:=itoa_head x
    simp only[List.flatMap_cons,litsT,e,List.cons_append]
    exact h
section
variable (s:Str) (hs:s.length≤65536)
include hs
theorem back_c (p:List (List Int)):∀ (c2 c1:List Int) (i:Nat) (out:List (List Int)),(∀ x∈c2,goodB x=true)→out.length≤65536→c1.length + c2.length≤65536→s.drop i=litsT c2 ++ 48 :: 10 :: textT p →
    ∃ j:Nat,s.drop j=textT p∧j≤s.length∧loopC (rup_Parse_l1 s) ((i:Int),0,0,out,c1)=loopC (rup_Parse_l1 s) ((j:Int),0,0,out ++ [c1 ++ c2],[]):=by
  intro c2
  induction c2 with
  | nil=>
    intro c1 i out _ ho hc h
    simp only[litsT,List.flatMap_nil,List.nil_append] at h
    have hz:Lib.itoa 0=[48]:=by
      unfold Lib.itoa
      rw[if_neg (by decide),show (0:Int).toNat=0 from rfl,Lib.decDigits,dif_pos (by decide)]
      decide
    obtain⟨h1,h2,h3,h4⟩:=num_at (s:=s) (i:=i) (x:=0) (c:=10) (r:=textT p) (by decide) isP7_10.1 isP7_10.2 (by rw[hz]; exact h)
    rw[hz] at h2
    have g:=(drop_get h).2.2
    have hk:runE (isP 7) s (numE s i)=i + 1 + 1:=by
      rw[h2]
      exact skip1 g isP7_10.1 (textT_hd p)
    refine⟨i + 1 + 1,(drop_get g).2.2,by have:=(drop_get g).1; omega,?_⟩
    rw[loopC_next (parse_next s hs h1 h3 out c1 ho (by omega)),hk,h4]
    unfold put1
    rw[if_pos rfl,List.append_nil]
  | cons x c2 ih=>
    intro c1 i out hg ho hc h
    have hx:=goodB_iff.1 (hg x (List.mem_cons_self ..))
    have h':s.drop i=Lib.itoa x ++ 32 :: (litsT c2 ++ 48 :: 10 :: textT p):=by
      rw[h]
      simp[litsT,List.flatMap_cons]
    obtain⟨h1,h2,h3,h4⟩:=num_at (s:=s) (i:=i) (x:=x) (by omega) isP7_32.1 isP7_32.2 h'
    have g:=drop_app h'
    have hk:runE (isP 7) s (numE s i)=i + (Lib.itoa x).length + 1:=by
      rw[h2]
      exact skip1 g isP7_32.1 (litsT_hd c2 _)
    simp only[List.length_cons] at hc
    obtain⟨j,j1,j2,j3⟩:=ih (c1 ++ [x]) (i + (Lib.itoa x).length + 1) out (fun y hy=>hg y (List.mem_cons_of_mem x hy)) ho (by simp only[List.length_append,List.length_singleton]; omega) (drop_get g).2.2
    refine⟨j,j1,j2,?_⟩
    rw[loopC_next (parse_next s hs h1 h3 out c1 ho (by omega)),hk,h4]
    unfold put1
    rw[if_neg hx.1,j3,List.append_assoc]
    rfl
theorem back_p:∀ (p:List (List Int)) (i:Nat) (out:List (List Int)),(∀ c∈p,∀ x∈c,goodB x=true)→out.length + p.length≤65536→(∀ c∈p,c.length≤65536)→i≤s.length→s.drop i=textT p →
    loopC (rup_Parse_l1 s) ((i:Int),0,0,out,[])=some (Sum.inr (out ++ p,[])):=by
  intro p
  induction p with
  | nil=>
    intro i out _ _ _ hi h
    have:i=s.length:=by
      have:=congrArg List.length h
      simp only[List.length_drop,textT,List.flatMap_nil,List.length_nil] at this
      omega
    subst this
    rw[List.append_nil]
    exact loopC_done (parse_end s hs out [])
  | cons c p ih=>
    intro i out hg ho hc hi h
    have h':s.drop i=litsT c ++ 48 :: 10 :: textT p:=by
      rw[h]
      simp only[textT,List.flatMap_cons,List.append_assoc,List.cons_append,List.nil_append]
    simp only[List.length_cons] at ho
    obtain⟨j,j1,j2,j3⟩:=back_c s hs p c [] i out (hg c (List.mem_cons_self ..)) (by omega) (by have:=hc c (List.mem_cons_self ..); simp only[List.length_nil]; omega) h'
    rw[j3,ih j _ (fun d hd=>hg d (List.mem_cons_of_mem c hd)) (by simp only[List.length_append,List.length_singleton]; omega) (fun d hd=>hc d (List.mem_cons_of_mem c hd)) j2 j1,List.nil_append,List.append_assoc]
    rfl
end
theorem rLits_eq (c:List Int) (h:c.length≤1048576):∃ b,ref29_Lits c=some b∧(b=true→∀ x∈c,goodB x=true):=by
  unfold ref29_Lits
  obtain⟨t,h1,h2⟩:=loopC_inv (f:=ref29_Lits_l1 c) (fun x=>∃ i:Nat,x=(i:Int)∧i≤c.length∧∀ y∈c.take i,goodB y=true) (fun x=>c.length - x.toNat) (fun t=>t=Sum.inl ()∨(t=Sum.inr ()∧∀ x∈c,goodB x=true)) (fun x hx=>by
    obtain⟨i,rfl,hi,hall⟩:=hx
    unfold ref29_Lits_l1
    rcases Nat.lt_or_ge i c.length with h | h
    · rw[if_pos (by simpa using h),ixl_nat h]
      simp only[Option.bind_some,ref29_Lit]
      have hg:(((c[i] != 0) && (decide (c[i]≥(-4096)))) && (decide (c[i]≤4096)))=goodB c[i]:=by
        rw[Bool.eq_iff_iff]
        simp[goodB]
      rw[hg]
      cases e:goodB c[i] with
      | false=>exact .inl ⟨_,rfl,.inl rfl⟩
      | true=>
        right
        rw[if_neg (by decide),w64_n i (by omega)]
        refine⟨_,rfl,⟨i + 1,rfl,h,fun y hy=>?_⟩,by omega⟩
        rw[List.take_succ_eq_append_getElem h] at hy
        rcases List.mem_append.1 hy with hy | hy
        · exact hall y hy
        · rw[List.mem_singleton.1 hy]; exact e
    · left
      have:i=c.length:=by omega
      subst this
      rw[if_neg (by simp)]
      rw[List.take_length] at hall
      exact⟨_,rfl,.inr ⟨rfl,hall⟩⟩) (x:=0) ⟨0,rfl,Nat.zero_le _,by simp⟩
  rw[h1]
  rcases h2 with rfl | ⟨rfl,h2⟩
  · exact⟨false,rfl,fun q=>by cases q⟩
  · exact⟨true,rfl,fun _=>h2⟩
theorem litsT_ge (c:List Int):c.length≤(litsT c).length:=by
  induction c with
  | nil=>exact Nat.le_refl _
  | cons x c ih=>
    simp only[litsT,List.flatMap_cons,List.length_append,List.length_cons,List.length_nil] at ih ⊢
    omega
theorem textT_ge (p:List (List Int)):p.length≤(textT p).length∧∀ c∈p,c.length≤(textT p).length:=by
  induction p with
  | nil=>exact⟨Nat.le_refl _,fun c hc=>by cases hc⟩
  | cons c p ih=>
    simp only[textT,List.flatMap_cons,List.length_append,List.length_cons,List.length_nil] at ih ⊢
    refine⟨by omega,fun d hd=>?_⟩
    rcases List.mem_cons.1 hd with rfl | hd
    · have:=litsT_ge d
      omega
    · have:=ih.2 d hd
      omega
theorem RupBack_true (a0:List (List Int)) (k0:∀ c∈a0,∀ y∈c,(Lit.int .i64 y).wf=true)
    (m0:((a0.map fun y=>((y.map fun y=>1).sum + 1)).sum + 1)≤1048576):law29_RupBack a0=some true:=by
  have hp:=fun c hc x hx=>wf_i64 (k0 c hc x hx)
  obtain⟨l0,c0⟩:=row_len m0
  unfold law29_RupBack
  rcases walkT (ws:=a0) (f:=law29_RupBack_l1 a0) (u:=()) (P:=fun c=>∀ x∈c,goodB x=true) l0 (fun i h=>by
    unfold law29_RupBack_l1
    rw[if_pos (by simpa using h),ixl_nat h]
    simp only[Option.bind_some,awake29_t]
    obtain⟨b,b1,b2⟩:=rLits_eq a0[i] (c0 _ (List.getElem_mem h))
    rw[b1]
    simp only[Option.bind_some]
    cases b with
    | false=>exact .inl rfl
    | true=>rw[if_neg (by decide),w64_n i (by omega)]; exact .inr ⟨rfl,b2 rfl⟩) (by
    unfold law29_RupBack_l1
    rw[if_neg (by simp)]) with e | ⟨e,hg⟩
  · rw[e]; rfl
  rw[e]
  simp only[Option.bind_some]
  rw[rup_Text_eq a0 hp (row_sum m0)]
  simp only[Option.bind_some,awake29_t]
  by_cases hl:(textT a0).length≤65536
  · rw[if_neg (by simp; omega)]
    obtain⟨t1,t2⟩:=textT_ge a0
    have hP:rup_Parse (textT a0)=some (a0,⟨0,0⟩):=by
      unfold rup_Parse
      have r1:=run_nat (textT a0) hl (Nat.zero_le _) 7
      rw[Int.natCast_zero] at r1
      rw[if_neg (by simp; omega),r1]
      simp only[Option.bind_some]
      have hz:runE (isP 7) (textT a0) 0=0:=by
        unfold runE
        rw[List.drop_zero,tw_nil.2 (textT_hd a0)]
        rfl
      rw[hz,back_p (textT a0) hl a0 0 [] hg (by simp only[List.length_nil]; omega) (fun c hc=>by have:=t2 c hc; omega) (Nat.zero_le _) rfl]
      simp
    rw[hP]
    simp only[Option.bind_some]
    rw[if_neg (by simp),rows_walk (n:=a0.length) l0 (fun i h=>by
      unfold law29_RupBack_l2
      simp only
      rw[if_pos (by simpa using h),ixl_nat h]
      simp only[Option.bind_some]
      rw[ints29 _ (c0 _ (List.getElem_mem h))]
      simp only[Option.bind_some]
      rw[if_neg (by decide),w64_n i (by omega)]) (by
      unfold law29_RupBack_l2
      rw[if_neg (by simp)])]
    rfl
  · rw[if_pos (by simp; omega)]
end Go.Vm

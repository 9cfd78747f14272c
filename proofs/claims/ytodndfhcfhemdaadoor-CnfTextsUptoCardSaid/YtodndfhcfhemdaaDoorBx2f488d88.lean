/- An abstract evaluator of a loaded program's code: that it is sound (second part). -/
import Derived.Test.YtodndfhcfhemdaaDoorAx9c681359
import Derived.Scope
import Derived.IntWalk
import Derived.Lib.Strings
import Derived.Laws.Strings
set_option linter.unusedVariables false
set_option linter.unusedSimpArgs false
/- The abstract evaluator: operations in a row, in whatever order they are listed. -/
set_option linter.unusedVariables false
set_option linter.unusedSimpArgs false
namespace Go.Vm
open Go
theorem put_rel {K:Cx} {t:List AV} {a:Act} (ht:VRels K t a.tmps.toList) (dst:Option Tmp) {v:AV} {x:Value} (hv:VRel K v x):VRels K (putT t dst v) (a.put dst x).tmps.toList:=by
  cases dst with
  | none=>exact ht
  | some d=>
    simp only[putT,Act.put,Array.toList_setIfInBounds]
    exact ht.set d hv
theorem put_defers (a:Act) (dst:Option Tmp) (x:Value):(a.put dst x).defers=a.defers:=by cases dst <;> rfl
theorem wantedA_rel {K:Cx} {t:List AV} {a:Act} (ht:VRels K t a.tmps.toList) {ops:Array Oper} {o:Oper} {b:Bool} (h:wantedA ops t o=some b):Region.wanted o (yielded ops a.tmps)=b:=by
  unfold wantedA at h
  unfold Region.wanted
  split at h
  · rename_i hg
    cases h
    rw[hg]
  · rename_i j want hg
    rw[hg]
    simp only
    split at h
    · rename_i hd
      cases h
      simp[yielded,hd]
    · rename_i d hd
      split at h
      · rename_i c hc
        cases h
        obtain⟨u,h1,h2⟩:=ht.get hc
        simp only[VRel] at h2
        subst h2
        have h3:a.tmps[d]? = some (.bool c):=by simpa using h1
        simp[yielded,hd,h3]
      · rename_i c hc
        cases h
        obtain⟨u,h1,h2⟩:=ht.get hc
        simp only[VRel] at h2
        subst h2
        have h3:a.tmps[d]? = some (.tuple c):=by simpa using h1
        simp[yielded,hd,h3]
      · cases h
section
variable {E:Env} {r:Rec} {K:Cx} {base:Nat} {a:Act}
theorem wp_good {o:Oper} {h':AHeap} {c':Nat} {v:AV} (hg:Good K base h' c' v ((execOp a.eval o).run E.P K.w)) (hc:∀ c,o.op ≠ .defer c) (rd:Option Nat) (N:Nat) {next:Act→World→Prop} {Q:Exit→Act→World→Prop}
    (hnext:∀ (K':Cx) (x:Value),K.Step K'→HRel K' base h'→K'.c=c'→VRel K' v x→next (a.put o.dst x) K'.w):o.wpIn (FF rd) N E.P a K.w next Q:=by
  refine⟨fun f _=>FF_fn rd f,?_⟩
  rw[Oper.semAt_plain (FF rd) _ o hc]
  obtain⟨K',x,hres,S,H,hc',hv⟩:=hg
  rcases hres with hres | ⟨hres,rfl⟩
  · rw[hres,Oper.uponIn_value]
    exact hnext K' x S H hc' hv
  · rw[hres,Oper.uponIn_skip]
    exact hnext K' undef S H hc' hv
theorem stepOp_sound (hE:EnvOk E) (hr:RecOk E r) {dr:Bool} {ops:Array Oper} {o:Oper} {s s':St} (H:HRel K base s.h) (hn:K.c=s.n) (ht:VRels K s.t a.tmps.toList) (hs:stepOp E r dr ops o s=some s') (rd:Option Nat) (N:Nat) {next:Act→World→Prop} {Q:Exit→Act→World→Prop}
    (hnext:∀ (K':Cx) (a':Act),K.Step K'→HRel K' base s'.h→K'.c=s'.n→VRels K' s'.t a'.tmps.toList→a'.defers=a.defers→next a' K'.w) :
    if Region.wanted o (yielded ops a.tmps)=true then o.wpIn (FF rd) N E.P a K.w next Q else next (a.put o.dst undef) K.w:=by
  unfold stepOp at hs
  split at hs
  · cases hs
  · rename_i hw
    cases hs
    rw[wantedA_rel ht hw]
    simp only[Bool.false_eq_true,if_false]
    exact hnext K _ (Cx.Step.refl K) H hn (put_rel ht o.dst (by simp[VRel])) (put_defers ..)
  · rename_i hw
    rw[wantedA_rel ht hw]
    simp only[if_true]
    have viaGood:∀ {h':AHeap} {n':Nat} {v:AV},s' = ⟨putT s.t o.dst v,h',n'⟩→Good K base h' n' v ((execOp a.eval o).run E.P K.w)→(∀ c,o.op ≠ .defer c)→o.wpIn (FF rd) N E.P a K.w next Q:=by
      intro h' n' v e hg hc
      subst e
      exact wp_good hg hc rd N fun K' x S H' hc' hv=>hnext K' _ S H' hc' (put_rel (ht.mono S.le) o.dst hv) (put_defers ..)
    split at hs
    · -- a call of a function value
      rename_i f args ats hop
      split at hs
      case h_2=>cases hs
      rename_i v h' n' hcall
      cases hs
      refine⟨fun f _=>FF_fn rd f,?_⟩
      rw[Oper.semAt_plain (FF rd) _ o (by rw[hop]; intro c hc; cases hc)]
      unfold callOf at hcall
      split at hcall
      · rename_i g caps vs h1 h2
        have hf:=opnd_rel ht h1
        simp only[VRel] at hf
        obtain⟨cv,hf,hcv⟩:=hf
        have hv:VRels K (vs ++ caps) (args.map a.eval ++ cv).toList:=by
          rw[Array.toList_append,Array.toList_map]
          exact (opnds_rel ht h2).append hcv
        rw[← hn] at hcall
        obtain⟨hC,fn,hg,hb⟩:=callFn_sound hE hr H hv hcall (N - 1)
        rw[exec_func hop hf hg hb (hE.name g fn hg),Oper.uponIn_enter]
        refine⟨fun e=>(by rw[FF_depth] at e; cases e),FF_calls (hC.mono ?_)⟩
        rintro e w' ⟨K',cv',rfl,rfl,S,H',hc',hv'⟩
        exact hnext K' _ S H' hc' (put_rel (ht.mono S.le) o.dst hv') (put_defers ..)
      · rename_i l vs h1 h2
        have hf:=opnd_rel ht h1
        simp only[VRel] at hf
        obtain⟨hlt,hf⟩:=hf
        have hv:VRels K vs (args.map a.eval).toList:=by
          rw[Array.toList_map]
          exact opnds_rel ht h2
        rw[← hn] at hcall
        obtain⟨Rc,g1,g2,g3⟩:=round_sound hr H hv hcall
        rw[exec_yield hop hf,run_yield g1 g2,Oper.uponIn_round]
        refine⟨fun e=>(by rw[FF_depth] at e; cases e),g3 rd (N - 1) _ ?_⟩
        intro K' cv' S H' hc' hv'
        exact hnext K' _ S H' hc' (put_rel (ht.mono S.le) o.dst hv') (put_defers ..)
      · cases hcall
    · -- a slice literal
      rename_i ty len ps hop
      split at hs
      · split at hs
        case h_2=>cases hs
        rename_i v hv
        cases hs
        exact viaGood rfl (by rw[← hn]; exact good_lit H ht hop hv) (by rw[hop]; intro c hc; cases hc)
      · split at hs
        case h_2=>cases hs
        rename_i v us hv
        cases hs
        rw[← hn] at hv
        have:=aop_sound H ht hv
        simp only[hop,usesN,if_true] at this
        exact viaGood rfl (by rw[← hn]; exact this) (by rw[hop]; intro c hc; cases hc)
    · -- a variable of one's own
      rename_i e x hop
      split at hs
      · split at hs
        case h_2=>cases hs
        rename_i v hv
        cases hs
        exact viaGood rfl (by rw[← hn]; exact good_fbox H ht hop hv) (by rw[hop]; intro c hc; cases hc)
      · split at hs
        case h_2=>cases hs
        rename_i v us hv
        cases hs
        rw[← hn] at hv
        have:=aop_sound H ht hv
        simp only[hop,usesN,if_true] at this
        exact viaGood rfl (by rw[← hn]; exact this) (by rw[hop]; intro c hc; cases hc)
    · rename_i hop1 hop2 hop3
      split at hs
      case h_2=>cases hs
      rename_i v us hv
      cases hs
      rw[← hn] at hv
      have:=aop_sound H ht hv
      refine viaGood rfl (by rw[← hn]; exact this) (fun c hc=>?_)
      unfold aop at hv
      rw[hc] at hv
      simp[mapOp,hc] at hv
theorem evalOps_sound (hE:EnvOk E) (hr:RecOk E r) {dr:Bool} {ops:Array Oper} (rd:Option Nat) (N:Nat) {Q:Exit→Act→World→Prop}:∀ (l:List Nat) {s s':St} {K:Cx} {a:Act},HRel K base s.h→K.c=s.n→VRels K s.t a.tmps.toList→evalOps E r dr ops l s=some s' →
    (∀ (K':Cx) (a':Act),K.Step K'→HRel K' base s'.h→K'.c=s'.n→VRels K' s'.t a'.tmps.toList→a'.defers=a.defers→Q .normal a' K'.w)→wpOpsIn (FF rd) N E.P ops Q l a K.w
  | [],s,s',K,a,H,hn,ht,hs,hQ=>by
    simp only[evalOps,Option.some.injEq] at hs
    subst hs
    exact hQ K a (Cx.Step.refl K) H hn ht rfl
  | i :: l,s,s',K,a,H,hn,ht,hs,hQ=>by
    simp only[evalOps] at hs
    simp only[wpOpsIn]
    cases ho:ops[i]? with
    | none=>
      rw[ho] at hs
      exact evalOps_sound hE hr rd N l H hn ht hs hQ
    | some o=>
      rw[ho] at hs
      simp only at hs ⊢
      split at hs
      · rename_i s1 h1
        have:=stepOp_sound hE hr (Q:=Q) (next:=wpOpsIn (FF rd) N E.P ops Q l) H hn ht h1 rd N (fun K' a' S H' hn' ht' hd=>evalOps_sound hE hr rd N l H' hn' ht' hs fun K'' a'' S' H'' hn'' ht'' hd'=>hQ K'' a'' (S.trans S') H'' hn'' ht'' (hd'.trans hd))
        split
        · rename_i hw
          rw[hw] at this
          simpa using this
        · rename_i hw
          have hw':Region.wanted o (yielded ops a.tmps)=false:=by simpa using hw
          rw[hw'] at this
          exact⟨fun f _=>FF_fn rd f,by simpa using this⟩
      · cases hs
end
end Go.Vm
/- The abstract evaluator: code. -/
namespace Go.Vm
open Go
section
variable {P:Program} {b:Frame} {a:Act} {k:List Item} {cs:List Frame} {w:World}
theorem stepR_scope {c:Code}:step P (lone (b.atR a (.code (.scope c) :: k)) cs w) = .next (lone (b.atR a (.code c :: .inScope c :: k)) cs w):=
  step_lone_go (by simp[stepG,stepG.exec,Frame.atR])
theorem stepR_inScope {c:Code}:step P (lone (b.atR a (.inScope c :: k)) cs w) = .next (lone (b.atR a k) cs w):=
  step_lone_go (by simp[stepG,stepG.exec,Frame.atR])
end
theorem wpIn_scope {F:Fence} {n:Nat} {P:Program} {Q:Exit→Act→World→Prop} {a:Act} {w:World} {c:Code} (h:c.wpIn F n P (Exit.noGoto Q) a w):(Code.scope c).wpIn F n P Q a w:=by
  intro b k cs hro hb hr
  have h0:(lone (b.atR a (.code (.scope c) :: k)) cs w).fenced P F:=fenced_calm hb hr rfl
  obtain⟨e,a₁,w₁,hq,harr⟩:=h b (.inScope c :: k) cs hro hb hr
  have hx:∀ id,exitTo id (.inScope c :: k)=exitTo id k:=fun id=>by simp[exitTo]
  cases e with
  | normal=>exact⟨.normal,a₁,w₁,hq,.head h0 stepR_scope (StepsIn.trans harr (.one (fenced_calm hb hr rfl) stepR_inScope))⟩
  | exit id=>
    exact⟨.exit id,a₁,w₁,hq,fun k' hk=>.head h0 stepR_scope (harr.1 k' (by rw[hx]; exact hk)),
      fun hr' hk=>let ⟨k₁,h1,h2⟩:=harr.2 hr' (by rw[hx]; exact hk); ⟨k₁,h1,.head h0 stepR_scope h2⟩⟩
  | goto l=>exact hq.elim
  | ret=>exact⟨_,a₁,w₁,hq,.of_steps (.one h0 stepR_scope) harr⟩
  | panic ch=>exact⟨_,a₁,w₁,hq,.of_steps (.one h0 stepR_scope) harr⟩
  | outgrown=>exact⟨_,a₁,w₁,hq,.of_steps (.one h0 stepR_scope) harr⟩
def DrawOk (E:Env) (r:Rec):Prop:=∀ (ops:Array Oper) (s s':St) (m:Bool) (t:Nat),regOk ops=true→evalDraw E r ops s=some s'→evalOps E r true ops (Region.schedule m ops t) s=some s'
theorem CodePost.trans {A B:Cx} {base:Nat} {a b c:Act} {s1 s2:St} {C:Cx} {m1 m2:List Nat} (h1:CodePost A base a s1 B b m1) (h2:CodePost B base b s2 C c m2):CodePost A base a s2 C c (m2 ++ m1):=
  ⟨h1.step.trans h2.step,h2.heap,h2.n,h2.t,Marks.trans h1.step h2.step h1.marks h2.marks⟩
def CodeOk' (E:Env) (c:Code) (f:St→Option (AX × St)):Prop:=
  ∀ (s:St) (x:AX) (s':St),f s=some (x,s')→∀ (K:Cx) (base:Nat) (rd:Option Nat) (N:Nat) (a:Act) (Q:Exit→Act→World→Prop),HRel K base s.h→K.c=s.n→VRels K s.t a.tmps.toList→(∀ l,rd=some l→isLoop K.w l) →
    (∀ K' a' ms,CodePost K base a s' K' a' ms→Q x.toExit a' K'.w)→c.wpIn (FF rd) N E.P Q a K.w
theorem exists_least (p:Nat→Prop):∀ n,p n→∃ m,p m∧∀ j,p j→m≤j:=by
  intro n
  induction n using Nat.strongRecOn with
  | _ n ih=>
    intro hn
    by_cases h:∃ j,j < n∧p j
    · obtain⟨j,hj,hp⟩:=h
      exact ih j hj hp
    · exact⟨n,hn,fun j hj=>Nat.le_of_not_lt fun hlt=>h ⟨j,hlt,hj⟩⟩
theorem ex_least {p:Nat→Prop} (h:∃ n,p n):∃ m,p m∧∀ j,p j→m≤j:=let ⟨n,hn⟩:=h; exists_least p n hn
open Classical in
noncomputable def least (p:Nat→Prop):Nat:=if h:∃ n,p n then Classical.choose (ex_least h) else 0
theorem least_spec {p:Nat→Prop} (h:∃ n,p n):p (least p):=by
  unfold least; rw[dif_pos h]; exact (Classical.choose_spec (ex_least h)).1
theorem least_le {p:Nat→Prop} {n:Nat} (h:p n):least p≤n:=by
  unfold least; rw[dif_pos ⟨n,h⟩]; exact (Classical.choose_spec (ex_least ⟨n,h⟩)).2 n h
section
variable {E:Env} {r:Rec}
theorem iter_sound {c:Code} {f:St→Option (AX × St)} (hc:CodeOk' E c f) (k:Nat):CodeOk' E (.loop c) (iter k f):=by
  intro s x s' hs K base rd N a Q H hn ht hl hQ
  let P:Nat→Act→World→Prop:=fun j a1 w1=>∃ (s1:St) (K1:Cx) (ms:List Nat),iter j f s1=some (x,s')∧CodePost K base a s1 K1 a1 ms∧K1.w=w1
  let I:Act→World→Prop:=fun a1 w1=>∃ j,P j a1 w1
  have h0:I a K.w:=⟨k,s,K,[],hs,⟨Cx.Step.refl K,H,hn,ht,Marks.nil K K rfl⟩,rfl⟩
  refine wpIn_loop (F:=FF rd) I (fun a1 w1=>least fun j=>P j a1 w1) h0 ?_
  intro a1 w1 hI
  have hI':∃ j,P j a1 w1:=hI
  obtain⟨s1,K1,ms1,hs1,hp1,rfl⟩:=least_spec hI'
  show c.wpIn (FF rd) N E.P (Exit.then (fun a' w'=>I a' w'∧(least fun j=>P j a' w') < (least fun j=>P j a1 K1.w)) Q) a1 K1.w
  generalize hj:(least fun j=>P j a1 K1.w)=j at hs1
  cases j with
  | zero=>simp[iter] at hs1
  | succ j=>
    simp only[iter] at hs1
    split at hs1
    · rename_i s2 h2
      refine hc s1 .normal s2 h2 K1 base rd N a1 _ hp1.heap hp1.n hp1.t (fun l e=>hp1.step.loops l (hl l e)) ?_
      intro K2 a2 ms2 hp2
      have hP:P j a2 K2.w:=⟨s2,K2,_,hs1,hp1.trans hp2,rfl⟩
      exact⟨⟨j,hP⟩,Nat.lt_succ_of_le (least_le hP)⟩
    · rename_i y hne
      refine hc s1 x s' hs1 K1 base rd N a1 _ hp1.heap hp1.n hp1.t (fun l e=>hp1.step.loops l (hl l e)) ?_
      intro K2 a2 ms2 hp2
      have hq:=hQ K2 a2 _ (hp1.trans hp2)
      cases x with
      | normal=>exact (hne s' hs1).elim
      | exit id=>exact hq
      | goto l=>exact hq
      | ret=>exact hq
theorem range_sound (hr:RecOk E r) (hE:EnvOk E) (k:Nat) {f:Operand} {ps:Array Tmp} {asg body:Code} (hca:codeOk asg=true) (hcb:codeOk body=true):CodeOk' E (.rangeFunc f ps asg body) (evalC E r k (.rangeFunc f ps asg body)):=by
  intro s x s' hs K base rd N a Q H hn ht hl hQ
  simp only[evalC] at hs
  split at hs
  case h_2=>cases hs
  rename_i g caps hf
  split at hs
  case h_2=>cases hs
  rename_i v0 h2 n2 hcall
  split at hs
  case h_2=>cases hs
  rename_i R hR
  split at hs
  · cases hs
  rename_i hbusy
  have hfv:=opnd_rel ht hf
  simp only[VRel] at hfv
  obtain⟨cv,hfv,hcv⟩:=hfv
  -- the record is laid
  have lay:∀ fn,∃ (K0:Cx) (l:Nat) (mark:List Deferred) (ms:List Nat) (R0:Loop),(Instr.enterLoop fn a.tmps ps asg body (FF rd).round).run E.P K.w = .ok (l,mark) (K0.w.alloc (.loop R0))∧K.Step K0∧HRel K0 base s.h∧K0.c=K.c∧l=K0.w.heap.size∧mark=ms.map mkMark ∧
      R0.state = .ready∧R0.pending=none∧R0.tmps=a.tmps∧R0.params=ps∧R0.assign=asg∧R0.body=body∧ms.Nodup∧∀ m∈ms,K.w.heap.size≤m∧m < K0.w.heap.size∧¬ K0.L m∧K0.w.heap[m]? = some (.deferred (some [])):=by
    intro fn
    rw[FF_round]
    cases rd with
    | none=>
      refine⟨K.allocFree (.deferred (some [])),K.w.heap.size + 1,[mkMark K.w.heap.size],[K.w.heap.size],_,run_enterLoop_outer fn a.tmps ps asg body,step_allocFree H _,hrel_allocFree H _,rfl,by simp[Cx.allocFree],rfl,rfl,rfl,rfl,rfl,rfl,rfl,by simp,?_⟩
      intro m hm
      simp only[List.mem_singleton] at hm
      subst hm
      refine⟨Nat.le_refl _,by simp[Cx.allocFree],fun e=>?_,World.alloc_heap_new _ _⟩
      have:=(H.bs _ e).2
      omega
    | some l0=>
      obtain⟨r0,hr0⟩:=hl l0 rfl
      exact⟨K,K.w.heap.size,[],[],_,run_enterLoop_inner hr0 fn a.tmps ps asg body,Cx.Step.refl K,H,rfl,rfl,rfl,rfl,rfl,rfl,rfl,rfl,rfl,List.nodup_nil,fun m hm=>by simp at hm⟩
  refine wpIn_rangeFunc fun fn hfn=>?_
  obtain⟨K0,l,mark,ms,R0,hrun,S0,H0,hc0,hl0,hmark,r1,r2,r3,r4,r5,r6,hnd,hms⟩:=lay fn
  subst hl0
  have hO:ORel (K0.allocOwn (.loop R0) 0) (K0.w.heap.size,0,0) (.loop { state:=.ready,pending:=none,tmps:=s.t,params:=ps.toList,assign:=asg,body:=body }):=
    ⟨R0,World.alloc_heap_new _ _,r1,r2,by rw[r4],r5,r6,by rw[r3]; exact (ht.mono S0.le).mono (step_allocOwn K0 _ _).le,hca,hcb⟩
  have S1:=step_allocOwn K0 (.loop R0) 0
  have H1:=hrel_allocOwn H0 (.loop R0) 0 _ hO
  rw[hc0,hn] at H1
  have hid:(K0.allocOwn (.loop R0) 0).ι s.n=(K0.w.heap.size,0,0):=by rw[← hn,← hc0]; exact allocOwn_ι K0 _ _
  have hargs:VRels (K0.allocOwn (.loop R0) 0) (.yld s.n :: caps) (#[Value.func (.yield K0.w.heap.size) #[] #[]] ++ cv).toList:=by
    simp only[Array.toList_append,List.cons_append,List.nil_append,VRels,VRel]
    refine⟨⟨by rw[← hn,← hc0]; exact Nat.lt_succ_self _,by rw[hid]⟩,(hcv.mono S0.le).mono S1.le⟩
  obtain⟨fn',hfg,hbg⟩:=hr.body _ _ _ _ _ _ _ hcall
  have hbn:fn'.body.isNone=false:=by cases hx:fn'.body <;> simp_all
  refine⟨K0.w.heap.size,mark,K0.w.alloc (.loop R0),{ target:=.fn (.func g) cv,args:=#[Value.func (.yield K0.w.heap.size) #[] #[]] },K0.w.alloc (.loop R0),g,#[Value.func (.yield K0.w.heap.size) #[] #[]] ++ cv,K0.w.alloc (.loop R0),hrun,?_,fun f' _=>FF_fn rd f',?_,fun e=>(by rw[FF_depth] at e; cases e),FF_calls ?_⟩
  · unfold resolve
    simp only[hfv,Deferred.ofValue,Sem.run_pure]
    simp[Act.eval]
  · simp only[invoke,callFunc,Sem.run_bind,run_program,Result.andThen_ok,hfg,hE.name g fn' hfg,hbn,Bool.false_eq_true,if_false,Sem.run_pure]
  · refine (hr.call _ _ _ _ _ _ _ hcall (K0.allocOwn (.loop R0) 0) base _ H1 (by rw[← hn,← hc0]; rfl) hargs (N - 1)).mono ?_
    rintro e w' ⟨K2,cv2,rfl,rfl,S2,H2,hn2,hv2⟩
    obtain⟨Rc,q1,q2,q3,q4,q5,q6,q7,q8⟩:=H2.obj s.n _ hR
    have hι2:K2.ι s.n=(K0.w.heap.size,0,0):=(S2.ι s.n (by rw[← hn,← hc0]; exact Nat.lt_succ_self _)).trans hid
    obtain⟨S3,H3⟩:=loop_turn H2 hR q1 .exhausted Rc.pending
    rw[hι2] at q1 S3 H3
    have H4:=H3.drop s.n
    have hpp:(h2.put s.n (some (.loop { R with state:=.exhausted,pending:=Rc.pending }))).put s.n none=h2.put s.n none:=by
      funext j
      by_cases e:j=s.n
      · subst e; simp[AHeap.put]
      · simp[AHeap.put,e]
    rw[hpp] at H4
    simp only[rangePost]
    refine⟨Rc.pending,_,run_endLoop q1 (by rw[q2]; exact hbusy),?_⟩
    have hS:K.Step (K2.setB K0.w.heap.size (.loop { Rc with state:=.exhausted,pending:=Rc.pending })):=((S0.trans S1).trans S2).trans S3
    have post:∀ (s'':St),s'' = ⟨s.t,h2.put s.n none,n2⟩→CodePost K base a s'' (K2.setB K0.w.heap.size (.loop { Rc with state:=.exhausted,pending:=Rc.pending })) { a with defers:=mark ++ a.defers } ms:=by
      rintro s'' rfl
      refine⟨hS,H4,hn2,ht.mono hS.le,by rw[hmark],hnd,fun m hm=>?_⟩
      obtain⟨g1,g2,g3,g4⟩:=hms m hm
      have T:=(S1.trans S2).trans S3
      obtain⟨k1,k2⟩:=T.keep m g2 g3
      exact⟨g1,Nat.lt_of_lt_of_le g2 T.size,k2,k1.trans g4⟩
    have hfin:∀ {y:AX},some (y,(⟨s.t,h2.put s.n none,n2⟩:St))=some (x,s')→Q y.toExit { a with defers:=mark ++ a.defers } (K2.w.putObj K0.w.heap.size (.loop { Rc with state:=.exhausted })):=by
      intro y e
      simp only[Option.some.injEq,Prod.mk.injEq] at e
      obtain⟨rfl,rfl⟩:=e
      exact hQ _ _ ms (post _ rfl)
    rw[← q3] at hs
    generalize (K2.w.putObj K0.w.heap.size (.loop { Rc with state:=.exhausted }))=W at hfin ⊢
    split at hs
    · rename_i hp
      rw[hp]
      exact hfin hs
    · rename_i hp
      rw[hp]
      exact wpIn_ret (hfin hs)
    · rename_i id hp
      rw[hp]
      exact wpIn_exit (hfin hs)
    · rename_i l' hp
      rw[hp]
      exact wpIn_goto (hfin hs)
    · cases hs
theorem evalC_sound (hE:EnvOk E) (hr:RecOk E r) (hD:DrawOk E r) (k:Nat):∀ (c:Code),codeOk c=true→CodeOk' E c (evalC E r k c)
  | .skip,_=>by
    intro s x s' hs K base rd N a Q H hn ht hl hQ
    simp only[evalC,Option.some.injEq,Prod.mk.injEq] at hs
    obtain⟨rfl,rfl⟩:=hs
    exact wpIn_skip (hQ K a [] ⟨Cx.Step.refl K,H,hn,ht,Marks.nil K K rfl⟩)
  | .region id ops draw,hok=>by
    intro s x s' hs K base rd N a Q H hn ht hl hQ
    simp only[evalC] at hs
    cases draw with
    | false=>
      simp only[Bool.false_eq_true,if_false] at hs
      split at hs
      · rename_i s1 h1
        simp only[Option.some.injEq,Prod.mk.injEq] at hs
        obtain⟨rfl,rfl⟩:=hs
        exact wpIn_region (evalOps_sound hE hr rd N _ H hn ht h1 fun K' a' S H' hn' ht' hd=>hQ K' a' [] ⟨S,H',hn',ht',Marks.nil K K' hd⟩)
      · cases hs
    | true=>
      simp only[if_true] at hs
      split at hs
      · rename_i s1 h1
        simp only[Option.some.injEq,Prod.mk.injEq] at hs
        obtain⟨rfl,rfl⟩:=hs
        refine wpIn_region_draw fun t=>?_
        have hreg:regOk ops=true:=by simpa[codeOk] using hok
        let K1:Cx:={ K with w:=K.w.drew,c:=K.c }
        have S1:K.Step K1:=step_same K K.w.drew K.c (Nat.le_refl _) rfl rfl rfl rfl
        have H1:HRel K1 base s.h:=hrel_same H K.w.drew K.c (Nat.le_refl _) rfl rfl rfl rfl
        exact evalOps_sound (K:=K1) hE hr rd N _ H1 hn (ht.mono S1.le) (hD ops s s1 _ t hreg h1) fun K' a' S H' hn' ht' hd=>hQ K' a' [] ⟨S1.trans S,H',hn',ht',Marks.nil K K' hd⟩
      · cases hs
  | .seq c d,hok=>by
    intro s x s' hs K base rd N a Q H hn ht hl hQ
    simp only[codeOk,Bool.and_eq_true] at hok
    simp only[evalC] at hs
    refine wpIn_seq ?_
    split at hs
    · rename_i s1 h1
      refine evalC_sound hE hr hD k c hok.1 s .normal s1 h1 K base rd N a _ H hn ht hl ?_
      intro K1 a1 ms1 hp1
      exact evalC_sound hE hr hD k d hok.2 s1 x s' hs K1 base rd N a1 Q hp1.heap hp1.n hp1.t (fun l e=>hp1.step.loops l (hl l e)) fun K2 a2 ms2 hp2=>hQ K2 a2 _ (hp1.trans hp2)
    · rename_i y hne
      refine evalC_sound hE hr hD k c hok.1 s x s' hs K base rd N a _ H hn ht hl ?_
      intro K1 a1 ms1 hp1
      have hq:=hQ K1 a1 ms1 hp1
      cases x with
      | normal=>exact (hne s' hs).elim
      | exit id=>exact hq
      | goto l=>exact hq
      | ret=>exact hq
  | .cond c d e,hok=>by
    intro s x s' hs K base rd N a Q H hn ht hl hQ
    simp only[codeOk,Bool.and_eq_true] at hok
    simp only[evalC] at hs
    split at hs
    · rename_i hc
      obtain⟨u,h1,h2⟩:=Option.bind_eq_some_iff.1 hc
      exact wpIn_cond_true (asBool_rel h2 (opnd_rel ht h1)) (evalC_sound hE hr hD k d hok.1 s x s' hs K base rd N a Q H hn ht hl hQ)
    · rename_i hc
      obtain⟨u,h1,h2⟩:=Option.bind_eq_some_iff.1 hc
      exact wpIn_cond (t:=false) (asBool_rel h2 (opnd_rel ht h1)) (by simpa using evalC_sound hE hr hD k e hok.2 s x s' hs K base rd N a Q H hn ht hl hQ)
    · cases hs
  | .block id c,hok=>by
    intro s x s' hs K base rd N a Q H hn ht hl hQ
    simp only[codeOk] at hok
    simp only[evalC] at hs
    refine wpIn_block ?_
    split at hs
    · rename_i i s1 h1
      refine evalC_sound hE hr hD k c hok s (.exit i) s1 h1 K base rd N a _ H hn ht hl ?_
      intro K1 a1 ms1 hp1
      simp only[AX.toExit,Exit.inBlock]
      split at hs
      · rename_i e
        simp only[Option.some.injEq,Prod.mk.injEq] at hs
        obtain⟨rfl,rfl⟩:=hs
        rw[if_pos e]
        exact hQ K1 a1 ms1 hp1
      · rename_i e
        simp only[Option.some.injEq,Prod.mk.injEq] at hs
        obtain⟨rfl,rfl⟩:=hs
        rw[if_neg e]
        exact hQ K1 a1 ms1 hp1
    · rename_i y hne
      refine evalC_sound hE hr hD k c hok s x s' hs K base rd N a _ H hn ht hl ?_
      intro K1 a1 ms1 hp1
      have hq:=hQ K1 a1 ms1 hp1
      cases x with
      | normal=>exact hq
      | exit id=>exact (hne id s' hs).elim
      | goto l=>exact hq
      | ret=>exact hq
  | .loop c,hok=>by
    simp only[codeOk] at hok
    have:=iter_sound (evalC_sound hE hr hD k c hok) k
    intro s x s' hs
    exact this s x s' hs
  | .rangeFunc f ps asg body,hok=>by
    simp only[codeOk,Bool.and_eq_true] at hok
    exact range_sound hr hE k hok.1 hok.2
  | .exit id,_=>by
    intro s x s' hs K base rd N a Q H hn ht hl hQ
    simp only[evalC,Option.some.injEq,Prod.mk.injEq] at hs
    obtain⟨rfl,rfl⟩:=hs
    exact wpIn_exit (hQ K a [] ⟨Cx.Step.refl K,H,hn,ht,Marks.nil K K rfl⟩)
  | .ret,_=>by
    intro s x s' hs K base rd N a Q H hn ht hl hQ
    simp only[evalC,Option.some.injEq,Prod.mk.injEq] at hs
    obtain⟨rfl,rfl⟩:=hs
    exact wpIn_ret (hQ K a [] ⟨Cx.Step.refl K,H,hn,ht,Marks.nil K K rfl⟩)
  | .label l,_=>by
    intro s x s' hs K base rd N a Q H hn ht hl hQ
    simp only[evalC,Option.some.injEq,Prod.mk.injEq] at hs
    obtain⟨rfl,rfl⟩:=hs
    exact wpIn_label (hQ K a [] ⟨Cx.Step.refl K,H,hn,ht,Marks.nil K K rfl⟩)
  | .goto l,_=>by
    intro s x s' hs K base rd N a Q H hn ht hl hQ
    simp only[evalC,Option.some.injEq,Prod.mk.injEq] at hs
    obtain⟨rfl,rfl⟩:=hs
    exact wpIn_goto (hQ K a [] ⟨Cx.Step.refl K,H,hn,ht,Marks.nil K K rfl⟩)
  | .scope c,hok=>by
    intro s x s' hs K base rd N a Q H hn ht hl hQ
    simp only[codeOk] at hok
    simp only[evalC] at hs
    refine wpIn_scope ?_
    split at hs
    · cases hs
    · rename_i y hne
      refine evalC_sound hE hr hD k c hok s x s' hs K base rd N a _ H hn ht hl ?_
      intro K1 a1 ms1 hp1
      have hq:=hQ K1 a1 ms1 hp1
      cases x with
      | normal=>exact hq
      | exit id=>exact hq
      | goto l=>exact (hne l s' hs).elim
      | ret=>exact hq
  | .refuse why,_=>by
    intro s x s' hs
    simp[evalC] at hs
end
end Go.Vm
/- The abstract evaluator: functions; all levels. -/
namespace Go.Vm
open Go
def resF (tm:Array Value):ResultVar→Sem Value
  | .tmp t=>pure (tm.getD t undef)
  | .cell a t=>do loadVar t (← asAddr (tm.getD a undef))
theorem results_eq (fn:Func) (tm:Array Value):results fn tm=(do let vs ← fn.results.mapM (resF tm); pure (if h:vs.size=1 then vs[0] else .tuple vs)):=by
  unfold results
  congr 1
section
variable {E:Env} {r:Rec}
theorem resultOf_rel {P:Program} {K:Cx} {base:Nat} {h:AHeap} (H:HRel K base h) {t:List AV} {tm:Array Value} (ht:VRels K t tm.toList) {x:ResultVar} {v:AV} (hv:resultOf P t h x=some v) :
    ∃ y,(resF tm x).run P K.w = .ok y K.w∧VRel K v y:=by
  cases x with
  | tmp i=>
    simp only[resultOf] at hv
    obtain⟨u,h1,h2⟩:=ht.get hv
    have h3:tm[i]? = some u:=by simpa using h1
    exact⟨u,by simp only[resF]; rw[Array.getD_eq_getD_getElem?,h3]; rfl,h2⟩
  | cell i ty=>
    simp only[resultOf] at hv
    split at hv
    case h_2=>cases hv
    rename_i p hp
    obtain⟨u,h1,h2⟩:=ht.get hp
    have h3:tm[i]? = some u:=by simpa using h1
    have hg:tm.getD i undef=u:=by rw[Array.getD_eq_getD_getElem?,h3]; rfl
    obtain⟨y,k1,k2⟩:=loadOf_rel H hv h2
    refine⟨y,?_,k2⟩
    simp only[resF,hg]
    -- a pointer that leads somewhere
    have hptr:∃ ad,u = .pointer (some ad):=by
      unfold loadOf at hv
      split at hv
      · simp only[VRel] at h2; exact⟨_,h2.2⟩
      · simp only[VRel] at h2; obtain⟨b,o,e,_⟩:=h2; exact⟨_,e⟩
      · cases hv
    obtain⟨ad,rfl⟩:=hptr
    simpa[Instr.loadAt,Instr.sureAddr,asAddr] using k1
theorem resultList_rel {P:Program} {K:Cx} {base:Nat} {h:AHeap} (H:HRel K base h) {t:List AV} {tm:Array Value} (ht:VRels K t tm.toList):∀ {rs:List ResultVar} {vs:List AV},resultList P t h rs=some vs →
    ∃ ys,(rs.mapM (resF tm)).run P K.w = .ok ys K.w∧VRels K vs ys
  | [],vs,hv=>by
    simp only[resultList,Option.some.injEq] at hv
    subst hv
    exact⟨[],rfl,by simp[VRels]⟩
  | x :: rs,vs,hv=>by
    simp only[resultList] at hv
    split at hv
    · rename_i v us h1 h2
      cases hv
      obtain⟨y,k1,k2⟩:=resultOf_rel H ht h1
      obtain⟨ys,g1,g2⟩:=resultList_rel H ht h2
      refine⟨y :: ys,?_,by simp only[VRels]; exact⟨k2,g2⟩⟩
      rw[List.mapM_cons,Sem.run_bind,k1,Result.andThen_ok,Sem.run_bind,g1]
      rfl
    · cases hv
theorem results_rel {P:Program} {K:Cx} {base:Nat} {h:AHeap} (H:HRel K base h) {t:List AV} {tm:Array Value} (ht:VRels K t tm.toList) {fn:Func} {v:AV} (hv:resultsOf P fn.results.toList t h=some v) :
    ∃ y,(results fn tm).run P K.w = .ok y K.w∧VRel K v y:=by
  unfold resultsOf at hv
  rw[results_eq]
  have key:∀ {vs:List AV},resultList P t h fn.results.toList=some vs→∃ ys:List Value,(fn.results.mapM (resF tm)).run P K.w = .ok ys.toArray K.w∧VRels K vs ys:=by
    intro vs hvs
    obtain⟨ys,g1,g2⟩:=resultList_rel H ht hvs
    refine⟨ys,?_,g2⟩
    rw[Array.mapM_eq_mapM_toList,Sem.run_map,g1]
    rfl
  split at hv
  · rename_i u hu
    cases hv
    obtain⟨ys,g1,g2⟩:=key hu
    cases ys with
    | nil=>simp[VRels] at g2
    | cons y ys=>
      cases ys with
      | cons y' ys=>simp[VRels] at g2
      | nil=>
        simp only[VRels,and_true] at g2
        exact⟨y,by rw[Sem.run_bind,g1]; rfl,g2⟩
  · rename_i us hne hu
    cases hv
    obtain⟨ys,g1,g2⟩:=key hu
    have hl:=g2.length
    refine⟨.tuple ys.toArray,?_,by simp only[VRel]; exact⟨_,rfl,g2⟩⟩
    rw[Sem.run_bind,g1,Result.andThen_ok]
    have h1:¬ (ys.toArray.size=1):=by
      intro e
      have:us.length=1:=by rw[hl]; simpa using e
      match us,this with
      | [u],_=>exact hne u rfl
    rw[dif_neg h1]
    rfl
  · cases hv
theorem marks_leave {F:Fence} {N:Nat} {P:Program} {fn:Func} {tm:Array Value} {R:Ending→World→Prop}:∀ (ms:List Nat) (w:World),ms.Nodup→(∀ m∈ms,w.heap[m]? = some (.deferred (some []))) →
    (∀ w':World,w'.heap.size=w.heap.size→(∀ b,b∉ms→w'.heap[b]? = w.heap[b]?)→(∀ m∈ms,w'.heap[m]? = some (.deferred none))→w'.os=w.os→w'.tape=w.tape→w'.output=w.output→∃ v,(results fn tm).run P w' = .ok v w'∧R (.returned v) w') →
    LeavesInM F N P fn tm R (ms.map mkMark) .returning w
  | [],w,_,_,h=>by
    simp only[List.map_nil,LeavesInM,LeavesIn]
    exact h w rfl (fun _ _=>rfl) (fun m hm=>by simp at hm) rfl rfl rfl
  | m :: ms,w,hnd,hm,h=>by
    simp only[List.map_cons,LeavesInM]
    have h0:=hm m (by simp)
    rw[List.nodup_cons] at hnd
    have hne:∀ x,x∈ms→x≠m:=fun x hx e=>hnd.1 (e ▸ hx)
    refine⟨by simp,.inl ⟨m,_,rfl,run_takeDeferred h0,?_⟩⟩
    refine marks_leave ms _ hnd.2 (fun x hx=>?_) (fun w' e1 e2 e3 e4 e5 e6=>?_)
    · rw[World.putObj_heap_other (hne x hx)]
      exact hm x (by simp[hx])
    · refine h w' (by rw[e1]; simp) (fun b hb=>?_) (fun x hx=>?_) e4 e5 e6
      · simp only[List.mem_cons,not_or] at hb
        rw[e2 b hb.2,World.putObj_heap_other hb.1]
      · rcases List.mem_cons.1 hx with rfl | hx
        · rw[e2 x hnd.1]
          exact World.putObj_heap_same (heap_lt_of h0)
        · exact e3 x hx
theorem callAt_sound {code:Code→St→Option (AX × St)} (hE:EnvOk E) (hcode:∀ c,codeOk c=true→CodeOk' E c (code c)) {f:FuncId} {args:List AV} {h:AHeap} {K:Cx} {v:AV} {h':AHeap} {n':Nat} (hs:callAt E code f args h K.c=some (v,h',n'))
    {base:Nat} {cargs:Array Value} (H:HRel K base h) (hv:VRels K args cargs.toList) (N:Nat):CallsIn Fence.wide N E.P f cargs K.w (CallPost K base h' n' v):=by
  unfold callAt at hs
  split at hs
  · rename_i p hp
    exact (hE.primM f p hp).2 _ _ _ _ _ _ hs K base cargs H rfl hv N
  split at hs
  case h_2=>cases hs
  rename_i fn hf
  split at hs
  case h_2=>cases hs
  rename_i c hb
  refine callsIn_of_wp_marks hf hb trivial ?_
  have ht:VRels K (args ++ List.replicate (fn.ntmps - args.length) (.s undef)) (cargs ++ Array.replicate (fn.ntmps - cargs.size) undef).toList:=by
    rw[Array.toList_append,Array.toList_replicate]
    have hl:args.length=cargs.size:=by have:=hv.length; simpa using this
    rw[hl]
    refine hv.append ?_
    have:=VRels.map_s (K:=K) (List.replicate (fn.ntmps - cargs.size) undef)
    simpa using this
  have fin:∀ (s:St),(match resultsOf E.P fn.results.toList s.t s.h with | some v=>some (v,s.h,s.n) | none=>none)=some (v,h',n')→∀ (K':Cx) (a':Act) (ms:List Nat),CodePost K base { tmps:=cargs ++ Array.replicate (fn.ntmps - cargs.size) undef,defers:=[] } s K' a' ms →
      LeavesInM Fence.wide N E.P fn a'.tmps (CallPost K base h' n' v) a'.defers .returning K'.w:=by
    intro s hres K' a' ms hp
    split at hres
    case h_2=>cases hres
    rename_i u hu
    simp only[Option.some.injEq,Prod.mk.injEq] at hres
    obtain⟨rfl,rfl,rfl⟩:=hres
    obtain⟨hd,hnd,hms⟩:=hp.marks
    rw[hd,List.append_nil]
    refine marks_leave ms K'.w hnd (fun m hm=>(hms m hm).2.2.2) (fun w' e1 e2 e3 e4 e5 e6=>?_)
    let K2:Cx:={ K' with w:=w' }
    have hLm:∀ b,K'.L b→b∉ms:=fun b hb hm=>(hms b hm).2.2.1 hb
    have hle:K'.Le K2:=⟨Nat.le_refl _,fun _ _=>rfl,fun b v o hfr hc=>by
      have hbm:b∉ms:=fun hm=>by
        have:=(hms b hm).2.2.2
        simp[World.cell?,this] at hc
      exact⟨⟨by show b < w'.heap.size; rw[e1]; exact hfr.1,hfr.2⟩,cell_block hc (e2 b hbm)⟩,fun b mm c hfr hc=>by
      have hbm:b∉ms:=fun hm=>by
        have:=(hms b hm).2.2.2
        rw[hc] at this
        cases this
      exact⟨⟨by show b < w'.heap.size; rw[e1]; exact hfr.1,hfr.2⟩,(e2 b hbm).trans hc⟩⟩
    have H2:HRel K2 base s.h:=by
      have H':=hp.heap
      exact⟨H'.lt,H'.L,fun b hb=>⟨(H'.bs b hb).1,by show b < w'.heap.size; rw[e1]; exact (H'.bs b hb).2⟩,H'.XL,by show base≤w'.heap.size; rw[e1]; exact H'.le,H'.inj,fun id o ho=>(H'.obj id o ho).mono hle (e2 _ (hLm _ (H'.L id o ho))) (fun g hg=>e2 _ (hLm _ (H'.hd id o g ho hg).1)),fun q hq=>by
        obtain⟨g1,cs,T,fz,g2,g3⟩:=H'.gl q hq
        exact⟨g1,cs,T,fz,(e2 _ (fun hm=>by have:=(hms _ hm).2.2.2; rw[g2] at this; cases this)).trans g2,g3⟩,fun i o g hi hg=>by
        obtain⟨k1,k2⟩:=H'.hd i o g hi (hg.turn (e2 _ (hLm _ (H'.L i o hi))))
        exact⟨k1,fun j p hj=>⟨(k2 j p hj).1,fun hne hh=>(k2 j p hj).2 hne (hh.turn (e2 _ (hLm _ (H'.L j p hj))))⟩⟩⟩
    obtain⟨y,k1,k2⟩:=results_rel H2 (hp.t.mono hle) hu
    refine⟨y,k1,K2,y,rfl,rfl,?_,H2,hp.n,k2⟩
    have S:=hp.step
    refine⟨S.c,S.ι,e4.trans S.os,e5.trans S.tape,e6.trans S.output,by show _≤w'.heap.size; rw[e1]; exact S.size,fun b hb hl=>?_,S.X,fun l hl=>?_⟩
    · obtain⟨g1,g2⟩:=S.keep b hb hl
      have hbm:b∉ms:=fun hm=>by have:=(hms b hm).1; omega
      exact⟨(e2 b hbm).trans g1,g2⟩
    · obtain⟨R,hR⟩:=S.loops l hl
      have hlm:l∉ms:=fun hm=>by
        have:=(hms l hm).2.2.2
        rw[hR] at this
        cases this
      exact⟨R,(e2 l hlm).trans hR⟩
  split at hs
  · rename_i s h1
    refine hcode c (hE.code f fn c hf hb) _ .normal s h1 K base none N _ _ H rfl ht (fun l e=>by cases e) ?_
    intro K' a' ms hp
    exact fin s hs K' a' ms hp
  · rename_i s h1
    refine hcode c (hE.code f fn c hf hb) _ .ret s h1 K base none N _ _ H rfl ht (fun l e=>by cases e) ?_
    intro K' a' ms hp
    exact fin s hs K' a' ms hp
  · cases hs
theorem callAt_body (hE:EnvOk E) {code:Code→St→Option (AX × St)} {f:FuncId} {args:List AV} {h:AHeap} {n:Nat} {q:AV × AHeap × Nat} (hs:callAt E code f args h n=some q):∃ fn,E.P.funcs[f]? = some fn∧fn.body.isSome=true:=by
  unfold callAt at hs
  split at hs
  · rename_i p hp
    exact (hE.primM f p hp).1
  split at hs
  case h_2=>cases hs
  rename_i fn hf
  split at hs
  case h_2=>cases hs
  rename_i c hb
  exact⟨fn,hf,by rw[hb]; rfl⟩
theorem mk_ok (hE:EnvOk E) (hD:∀ r,DrawOk E r):∀ k,RecOk E (mk E k)
  | 0=>⟨fun _ _ _ _ _ _ _ hs=>(by cases hs),fun _ _ _ _ _ _ _ hs=>(by cases hs),fun _ _ _ _ _ hs=>(by cases hs)⟩
  | k + 1=>by
    have ih:=mk_ok hE hD k
    have hc:∀ c,codeOk c=true→CodeOk' E c (evalC E (mk E k) k c):=fun c hok=>evalC_sound hE ih (hD _) k c hok
    refine⟨fun f args h n v h' n' hs K base cargs H hn hv N=>?_,fun f args h n v h' n' hs=>callAt_body hE hs,fun c s x s' hok hs=>hc c hok s x s' hs⟩
    subst hn
    exact callAt_sound hE hc hs H hv N
theorem pcall_sound (hE:EnvOk E) (hD:∀ r,DrawOk E r) {k:Nat} {f:FuncId} {args:List AV} {v:AV} (hs:pcall E k f args=some v) (w:World) (hG:∀ q,q∈glb→q.1 < w.heap.size∧∃ cs T fz,w.heap[q.1]? = some (.cells cs T fz)∧q.2 cs) {cargs:Array Value}
    (hv:VRels { w:=w,ι:=fun _=>(0,0,0),L:=fun _=>False,X:=fun _=>False,c:=0 } args cargs.toList) :
    Calls E.P f cargs w fun e w'=>∃ cv,e = .returned cv∧w'.os=w.os∧w'.tape=w.tape∧w'.output=w.output∧w.heap.size≤w'.heap.size∧(∀ b,b < w.heap.size→w'.heap[b]? = w.heap[b]?) ∧
      VRel { w:=w',ι:=fun _=>(0,0,0),L:=fun _=>False,X:=fun _=>False,c:=0 } v cv:=by
  unfold pcall at hs
  split at hs
  case h_2=>cases hs
  rename_i u h n hcall
  split at hs
  case h_2=>cases hs
  rename_i v' q hsnap
  cases hs
  let K:Cx:={ w:=w,ι:=fun _=>(0,0,0),L:=fun _=>False,X:=fun _=>False,c:=0 }
  have H:HRel K w.heap.size AHeap.nil:={ lt:=fun _ _ e=>(by cases e),L:=fun _ _ e=>(by cases e),bs:=fun _ e=>False.elim e,XL:=fun _ e=>False.elim e,le:=Nat.le_refl _,inj:=fun _ _ _ _ e=>(by cases e),obj:=fun _ _ e=>(by cases e),gl:=hG,hd:=fun _ _ _ e=>(by cases e) }
  have hc:=(mk_ok hE hD k).call f args AHeap.nil 0 u h n hcall K w.heap.size cargs H rfl hv 0
  refine (callsIn_wide.1 hc).mono ?_
  rintro e w' ⟨K',cv,rfl,rfl,S,H',hn,hu⟩
  refine⟨cv,rfl,S.os,S.tape,S.output,S.size,fun b hb=>(S.keep b hb (fun e=>e)).1,?_⟩
  have hO:Opens K' { w:=K'.w,ι:=fun _=>(0,0,0),L:=fun _=>False,X:=fun _=>False,c:=0 } true:=⟨rfl,fun b hb=>⟨hb.1,fun e=>e,fun e=>e⟩,fun _ b hb=>⟨(H'.bs b hb).2,fun e=>e,fun e=>e⟩⟩
  exact snap_rel H' depth hO hsnap (fun _=>rfl) hu
end
end Go.Vm
/- The abstract evaluator: the orders in which a drawn region may be gone through. -/
namespace Go.Vm
open Go
def Lin (m:Region.Mode) (ops:Array Oper):(Nat→Bool)→List Nat→Prop
  | _,[]=>True
  | done,i :: l=>done i=false∧(∃ o,ops[i]? = some o∧∀ e∈o.after,Region.binds m e=true→done e.on=true)∧Lin m ops (fun j=>if j=i then true else done j) l
def addAll (d:Nat→Bool):List Nat→Nat→Bool
  | []=>d
  | i :: l=>addAll (fun j=>if j=i then true else d j) l
theorem addAll_mem:∀ {l:List Nat} {d:Nat→Bool} {j:Nat},addAll d l j=true↔d j=true∨j∈l
  | [],d,j=>by simp[addAll]
  | i :: l,d,j=>by
    rw[addAll,addAll_mem]
    simp only[List.mem_cons]
    by_cases e:j=i
    · subst e; simp
    · simp[e]
theorem go_lin {m:Region.Mode} {ops:Array Oper}:∀ (fuel t:Nat) (listed:Array Bool) (acc:List Nat),listed.size=ops.size→∃ l,Region.linearise.go m ops fuel t listed acc=acc.reverse ++ l∧Lin m ops (fun j=>listed.getD j false) l∧(∀ i∈l,i < ops.size) ∧
    (l.length=fuel∨∀ i,i < ops.size→addAll (fun j=>listed.getD j false) l i=false→∃ o,ops[i]? = some o∧∃ e∈o.after,Region.binds m e=true∧addAll (fun j=>listed.getD j false) l e.on=false)
  | 0,t,listed,acc,hs=>⟨[],by simp[Region.linearise.go],trivial,by simp,.inl rfl⟩
  | fuel + 1,t,listed,acc,hs=>by
    unfold Region.linearise.go
    simp only
    generalize hrs:((List.range ops.size).filter fun i=>!listed.getD i true && ((ops[i]?).map (·.after.all fun e=>!Region.binds m e || listed.getD e.on false)).getD false)=rs
    cases hr:rs[t % rs.length]? with
    | none=>
      refine⟨[],by simp,trivial,by simp,.inr fun i hi hd=>?_⟩
      have hnil:rs=[]:=by
        cases hrs':rs with
        | nil=>rfl
        | cons x xs=>
          have hp:0 < rs.length:=by rw[hrs']; simp
          have:=Nat.mod_lt t hp
          rw[List.getElem?_eq_getElem this] at hr
          cases hr
      simp only[addAll] at hd ⊢
      obtain⟨o,ho⟩:∃ o,ops[i]? = some o:=⟨_,Array.getElem?_eq_getElem hi⟩
      refine⟨o,ho,?_⟩
      have hni:i∉rs:=by rw[hnil]; simp
      rw[← hrs,List.mem_filter] at hni
      have hgt:listed.getD i true=false:=by
        have h1:i < listed.size:=by omega
        simp only[Array.getD_eq_getD_getElem?,Array.getElem?_eq_getElem h1,Option.getD_some] at hd ⊢
        exact hd
      simp only[List.mem_range,hi,true_and,hgt,Bool.not_false,Bool.true_and,ho,Option.map_some,Option.getD_some,Bool.not_eq_true] at hni
      rw[← Bool.not_eq_true,Array.all_eq_true'] at hni
      simp only[Classical.not_forall] at hni
      obtain⟨e,he,hb⟩:=hni
      simp only[Bool.not_eq_true,Bool.or_eq_false_iff,Bool.not_eq_false'] at hb
      exact⟨e,he,hb.1,hb.2⟩
    | some i=>
      simp only
      have hmem:i∈rs:=List.mem_of_getElem? hr
      rw[← hrs,List.mem_filter] at hmem
      obtain⟨h1,h2⟩:=hmem
      rw[List.mem_range] at h1
      simp only[Bool.and_eq_true,Bool.not_eq_true'] at h2
      obtain⟨h2,h3⟩:=h2
      have hls:i < listed.size:=by omega
      obtain⟨l,e1,e2,e3,e4⟩:=go_lin (m:=m) (ops:=ops) fuel (t / rs.length) (listed.setIfInBounds i true) (i :: acc) (by simpa using hs)
      have hd:∀ j,(listed.setIfInBounds i true).getD j false=if j=i then true else listed.getD j false:=fun j=>by
        by_cases e:j=i
        · subst e
          simp[Array.getD_eq_getD_getElem?,hls]
        · rw[if_neg e]
          simp only[Array.getD_eq_getD_getElem?,Array.getElem?_setIfInBounds_ne (Ne.symm e)]
      have hdf:(fun j=>(listed.setIfInBounds i true).getD j false)=(fun j=>if j=i then true else listed.getD j false):=funext hd
      obtain⟨o,ho⟩:∃ o,ops[i]? = some o:=⟨_,Array.getElem?_eq_getElem h1⟩
      rw[hdf] at e2 e4
      refine⟨i :: l,by rw[e1]; simp,⟨?_,⟨o,ho,?_⟩,e2⟩,?_,?_⟩
      · simp only[Array.getD_eq_getD_getElem?,Array.getElem?_eq_getElem hls,Option.getD_some] at h2 ⊢
        exact h2
      · intro e he hb
        rw[ho] at h3
        simp only[Option.map_some,Option.getD_some] at h3
        have:=(Array.all_eq_true'.1 h3) e he
        simpa[hb] using this
      · intro j hj
        rcases List.mem_cons.1 hj with rfl | hj
        · exact h1
        · exact e3 j hj
      · rcases e4 with e4 | e4
        · exact .inl (by simp[e4])
        · exact .inr e4
theorem lin_nodup {m:Region.Mode} {ops:Array Oper}:∀ {l:List Nat} {d:Nat→Bool},Lin m ops d l→l.Nodup∧∀ j∈l,d j=false
  | [],d,_=>⟨List.nodup_nil,fun j hj=>by simp at hj⟩
  | i :: l,d,h=>by
    obtain⟨h1,h2,h3⟩:=h
    obtain⟨k1,k2⟩:=lin_nodup h3
    refine⟨List.nodup_cons.2 ⟨fun hi=>?_,k1⟩,fun j hj=>?_⟩
    · have:=k2 i hi
      simp at this
    · rcases List.mem_cons.1 hj with rfl | hj
      · exact h1
      · have:=k2 j hj
        by_cases e:j=i
        · subst e; exact h1
        · simpa[e] using this
theorem passOps_sub {m:Region.Mode} {D:Nat→Prop}:∀ {os:List (Nat × Oper)} {done:Nat},(∀ i o,(i,o)∈os→(∀ e∈o.after,Region.binds m e=true→D e.on)→D i)→(∀ i,done.testBit i=true→D i)→∀ i,(passOps m done os).testBit i=true→D i
  | [],done,_,hd,i,hi=>hd i (by simpa[passOps] using hi)
  | (k,o) :: os,done,hc,hd,i,hi=>by
    simp only[passOps] at hi
    refine passOps_sub (fun i o hm=>hc i o (List.mem_cons_of_mem _ hm)) (fun j hj=>?_) i hi
    split at hj
    · rename_i hall
      rw[Nat.testBit_or] at hj
      simp only[Bool.or_eq_true] at hj
      rcases hj with hj | hj
      · exact hd j hj
      · rw[Nat.testBit_two_pow] at hj
        have hkj:k=j:=by simpa using hj
        subst hkj
        refine hc k o (by simp) fun e he hb=>?_
        have:=(List.all_eq_true.1 hall) e (by simpa using he)
        simp only[hb,Bool.not_true,Bool.false_or] at this
        exact hd _ this
    · exact hd j hj
theorem passes_sub {m:Region.Mode} {D:Nat→Prop} {os:List (Nat × Oper)} (hc:∀ i o,(i,o)∈os→(∀ e∈o.after,Region.binds m e=true→D e.on)→D i):∀ (k:Nat) {done:Nat},(∀ i,done.testBit i=true→D i)→∀ i,(passes m os k done).testBit i=true→D i
  | 0,done,hd,i,hi=>hd i (by simpa[passes] using hi)
  | k + 1,done,hd,i,hi=>by
    simp only[passes] at hi
    split at hi
    · exact hd i hi
    · exact passes_sub hc k (passOps_sub hc hd) i hi
theorem indexed_mem:∀ {os:List Oper} {k i:Nat} {o:Oper},(i,o)∈indexed k os→∃ j,i=k + j∧os[j]? = some o
  | [],k,i,o,h=>by simp[indexed] at h
  | p :: os,k,i,o,h=>by
    simp only[indexed,List.mem_cons,Prod.mk.injEq] at h
    rcases h with ⟨rfl,rfl⟩ | h
    · exact⟨0,rfl,rfl⟩
    · obtain⟨j,e1,e2⟩:=indexed_mem h
      exact⟨j + 1,by omega,by simpa using e2⟩
theorem nodup_bound:∀ (n:Nat) (l:List Nat),l.Nodup→(∀ x∈l,x < n)→l.length≤n
  | 0,l,_,h=>by
    cases l with
    | nil=>simp
    | cons x l=>have:=h x (by simp); omega
  | n + 1,l,hnd,h=>by
    have h1:(l.erase n).Nodup:=hnd.erase n
    have h2:∀ x∈l.erase n,x < n:=fun x hx=>by
      have:=h x (List.mem_of_mem_erase hx)
      have hne:x≠n:=fun e=>by
        subst e
        exact (hnd.not_mem_erase) hx
      omega
    have h3:=nodup_bound n (l.erase n) h1 h2
    have h4:l.length≤(l.erase n).length + 1:=by
      rw[List.length_erase]
      split <;> omega
    omega
theorem lin_all {m:Region.Mode} {ops:Array Oper} (hm:modeOk ops m=true) (t:Nat):∃ l,Region.linearise m ops t=l∧Lin m ops (fun _=>false) l∧(∀ i∈l,i < ops.size)∧∀ i,i < ops.size→i∈l:=by
  obtain⟨l,e1,e2,e3,e4⟩:=go_lin (m:=m) (ops:=ops) ops.size t (Array.replicate ops.size false) [] (by simp)
  have hd:(fun j=>(Array.replicate ops.size false).getD j false)=(fun _:Nat=>false):=by
    funext j
    simp only[Array.getD_eq_getD_getElem?,Array.getElem?_replicate]
    split <;> rfl
  rw[hd] at e2 e4
  refine⟨l,?_,e2,e3,?_⟩
  · unfold Region.linearise
    rw[e1]
    simp
  · rcases e4 with e4 | e4
    · -- as many as there are, each once
      intro i hi
      have hnd:=(lin_nodup e2).1
      apply Classical.byContradiction
      intro hni
      have:=nodup_bound ops.size (i :: l) (List.nodup_cons.2 ⟨hni,hnd⟩) (fun x hx=>by
        rcases List.mem_cons.1 hx with rfl | hx
        · exact hi
        · exact e3 x hx)
      simp at this
      omega
    · intro i hi
      have hc:∀ i o,(i,o)∈indexed 0 ops.toList→(∀ e∈o.after,Region.binds m e=true→addAll (fun _=>false) l e.on=true)→addAll (fun _=>false) l i=true:=by
        intro i o hio hall
        obtain⟨j,rfl,hj⟩:=indexed_mem hio
        rw[Nat.zero_add]
        have hj':ops[j]? = some o:=by simpa using hj
        have hjl:j < ops.size:=(Array.getElem?_eq_some_iff.1 hj').1
        cases hx:addAll (fun _=>false) l j with
        | true=>rfl
        | false=>
          obtain⟨o',ho',e,he,hb,hf⟩:=e4 j hjl hx
          rw[hj'] at ho'
          cases ho'
          rw[hall e he hb] at hf
          cases hf
      have hfull:passes m (indexed 0 ops.toList) ops.size 0=2 ^ ops.size - 1:=by simpa[modeOk] using hm
      have:=passes_sub (D:=fun i=>addAll (fun _=>false) l i=true) hc ops.size (done:=0) (fun i hi=>by simp at hi) i (by rw[hfull,Nat.testBit_two_pow_sub_one]; simpa using hi)
      rcases addAll_mem.1 this with h | h
      · cases h
      · exact h
theorem ancBits_bit {acc:List Nat}:∀ {es:List Edge} {k:Nat},(ancBits acc es).testBit k=true→∃ e∈es,Region.binds .any e=true∧(e.on=k∨(acc.getD e.on 0).testBit k=true)
  | [],k,h=>by simp[ancBits] at h
  | e :: es,k,h=>by
    simp only[ancBits] at h
    split at h
    · rename_i hb
      rw[Nat.testBit_or,Nat.testBit_or] at h
      simp only[Bool.or_eq_true] at h
      rcases h with (h | h) | h
      · rw[Nat.testBit_two_pow] at h
        exact⟨e,by simp,hb,.inl (by simpa using h)⟩
      · exact⟨e,by simp,hb,.inr h⟩
      · obtain⟨e',h1,h2⟩:=ancBits_bit h
        exact⟨e',List.mem_cons_of_mem _ h1,h2⟩
    · obtain⟨e',h1,h2⟩:=ancBits_bit h
      exact⟨e',List.mem_cons_of_mem _ h1,h2⟩
theorem ancsFrom_old:∀ (os:List Oper) (acc:List Nat) (j:Nat),j < acc.length→(ancsFrom acc os).getD j 0=acc.getD j 0
  | [],acc,j,h=>rfl
  | o :: os,acc,j,h=>by
    rw[ancsFrom,ancsFrom_old os _ j (by simp; omega)]
    simp only[List.getD_eq_getElem?_getD]
    rw[List.getElem?_append_left h]
theorem ancsFrom_bit:∀ (os:List Oper) (acc:List Nat) (j k:Nat) (o:Oper),os[j]? = some o→((ancsFrom acc os).getD (acc.length + j) 0).testBit k=true→∃ e∈o.after,Region.binds .any e=true∧(e.on=k∨((ancsFrom acc os).getD e.on 0).testBit k=true)
  | [],acc,j,k,o,h,_=>by simp at h
  | p :: os,acc,0,k,o,h,hb=>by
    simp at h
    subst h
    rw[ancsFrom,ancsFrom_old os _ _ (by simp)] at hb
    simp only[List.getD_eq_getElem?_getD] at hb
    simp at hb
    obtain⟨e,h1,h2,h3⟩:=ancBits_bit hb
    refine⟨e,by simpa using h1,h2,h3.imp id fun h3=>?_⟩
    have hlt:e.on < acc.length:=by
      apply Classical.byContradiction
      intro hge
      rw[List.getD_eq_getElem?_getD,List.getElem?_eq_none (by omega)] at h3
      simp at h3
    rw[ancsFrom,ancsFrom_old os _ _ (by simp; omega)]
    simp only[List.getD_eq_getElem?_getD] at h3 ⊢
    rw[List.getElem?_append_left hlt]
    exact h3
  | p :: os,acc,j + 1,k,o,h,hb=>by
    simp at h
    have:=ancsFrom_bit os (acc ++ [ancBits acc p.after.toList]) j k o h (by
      rw[ancsFrom] at hb
      rw[List.length_append,List.length_singleton,show acc.length + 1 + j=acc.length + (j + 1) by omega]
      exact hb)
    rw[ancsFrom]
    exact this
theorem waits_edge {ops:Array Oper} {j k:Nat} {o:Oper} (ho:ops[j]? = some o) (h:waits (ancs ops) j k=true):∃ e∈o.after,Region.binds .any e=true∧(e.on=k∨waits (ancs ops) e.on k=true):=by
  have:=ancsFrom_bit ops.toList [] j k o (by simpa using ho) (by simpa[waits,ancs] using h)
  exact this
theorem binds_any {m:Region.Mode} {e:Edge} (h:Region.binds .any e=true):Region.binds m e=true:=by
  unfold Region.binds at h ⊢
  split <;> simp_all
theorem lin_waits {m:Region.Mode} {ops:Array Oper}:∀ {l:List Nat} {d:Nat→Bool},Lin m ops d l→(∀ j,d j=true→∀ k,waits (ancs ops) j k=true→d k=true)→l.Pairwise (fun x y=>waits (ancs ops) x y=false)
  | [],d,_,_=>List.Pairwise.nil
  | i :: l,d,h,hc=>by
    obtain⟨h1,⟨o,ho,h2⟩,h3⟩:=h
    have hi:∀ k,waits (ancs ops) i k=true→d k=true:=fun k hk=>by
      obtain⟨e,he,hb,h4⟩:=waits_edge ho hk
      have hd:=h2 e he (binds_any hb)
      rcases h4 with rfl | h4
      · exact hd
      · exact hc _ hd k h4
    refine List.Pairwise.cons (fun y hy=>?_) (lin_waits h3 (fun j hj k hk=>?_))
    · cases hw:waits (ancs ops) i y with
      | false=>rfl
      | true=>
        have hd:=hi y hw
        have:=(lin_nodup h3).2 y hy
        by_cases e:y=i
        · subst e; rw[h1] at hd; cases hd
        · simp[e,hd] at this
    · by_cases e:j=i
      · subst e
        have:=hi k hk
        split
        · rfl
        · exact this
      · rw[if_neg e] at hj
        split
        · rfl
        · exact hc j hj k hk
theorem schedule_ok {ops:Array Oper} (h:regOk ops=true) (mixed:Bool) (t:Nat):(Region.schedule mixed ops t).Nodup∧(∀ i,i∈Region.schedule mixed ops t↔i < ops.size)∧(Region.schedule mixed ops t).Pairwise (fun x y=>waits (ancs ops) x y=false):=by
  have key:∀ m t,modeOk ops m=true→(Region.linearise m ops t).Nodup∧(∀ i,i∈Region.linearise m ops t↔i < ops.size)∧(Region.linearise m ops t).Pairwise (fun x y=>waits (ancs ops) x y=false):=fun m t hm=>by
    obtain⟨l,rfl,h2,h3,h4⟩:=lin_all hm t
    exact⟨(lin_nodup h2).1,fun i=>⟨h3 i,h4 i⟩,lin_waits h2 (fun j hj=>by cases hj)⟩
  simp only[regOk,Bool.and_eq_true] at h
  unfold Region.schedule
  split
  · exact key .any t h.1.1.1
  · split
    · exact key .text _ h.1.1.2
    · exact key .gc _ h.1.2
end Go.Vm
/- The abstract evaluator: which operations may change places. -/
namespace Go.Vm
open Go
def Same (t t':List AV) (xs:List Operand):Prop:=∀ x∈xs,opnd t x=opnd t' x
theorem opnds_same {t t':List AV}:∀ {xs:List Operand},Same t t' xs→opnds t xs=opnds t' xs
  | [],_=>rfl
  | x :: xs,h=>by
    simp only[opnds,h x (by simp),opnds_same (xs:=xs) (fun y hy=>h y (List.mem_cons_of_mem _ hy))]
theorem parts_same {t t':List AV}:∀ {ps:List (Nat × Operand)},Same t t' (ps.map (·.2))→parts t ps=parts t' ps
  | [],_=>rfl
  | (i,x) :: ps,h=>by
    simp only[parts,h x (by simp),parts_same (ps:=ps) (fun y hy=>h y (List.mem_cons_of_mem _ hy))]
theorem optnd_same {t t':List AV} {x:Option Operand} (h:Same t t' x.toList):optnd t x=optnd t' x:=by
  cases x with
  | none=>rfl
  | some x=>simp only[optnd,h x (by simp)]
theorem plain_same {t t':List AV} {x:Operand} (h:opnd t x=opnd t' x):plainNd t x=plainNd t' x∧isPlain t x=isPlain t' x:=by
  simp only[plainNd,isPlain,h,and_self]
theorem allPlain_same {t t':List AV}:∀ {xs:List Operand},Same t t' xs→xs.all (isPlain t)=xs.all (isPlain t')∧xs.map (plainNd t)=xs.map (plainNd t')
  | [],_=>⟨rfl,rfl⟩
  | x :: xs,h=>by
    obtain⟨h1,h2⟩:=plain_same (h x (by simp))
    obtain⟨h3,h4⟩:=allPlain_same (xs:=xs) (fun y hy=>h y (List.mem_cons_of_mem _ hy))
    simp only[List.all_cons,List.map_cons,h1,h2,h3,h4,and_self]
theorem pureOp_same {P:Program} {ρ ρ':Operand→Value} {o:Oper} (h:execOp ρ o=execOp ρ' o):pureOp P ρ o=pureOp P ρ' o:=by
  unfold pureOp
  rw[h]
theorem mapOp_same {P:Program} {o:Oper} {t t':List AV} {h:AHeap} {n:Nat} (hs:Same t t' o.op.operands.toList):mapOp P o t h n=mapOp P o t' h n:=by
  unfold mapOp
  split <;> try (rename_i hop; rw[hop] at hs)
  · rename_i xt x k ok
    rw[hs x (by simp[Op.operands]),hs k (by simp[Op.operands])]
  · rename_i mt m k v
    rw[hs m (by simp[Op.operands]),hs k (by simp[Op.operands]),hs v (by simp[Op.operands])]
  · rename_i mt m k
    rw[hs m (by simp[Op.operands]),hs k (by simp[Op.operands])]
  · rename_i mt m k v
    rw[hs m (by simp[Op.operands]),hs k (by simp[Op.operands]),hs v (by simp[Op.operands])]
  · rename_i mt m k v
    rw[hs m (by simp[Op.operands]),hs k (by simp[Op.operands]),hs v (by simp[Op.operands])]
  · rfl
theorem aop_same {P:Program} {o:Oper} {t t':List AV} {h:AHeap} {n:Nat} (hs:Same t t' o.op.operands.toList):aop P o t h n=aop P o t' h n:=by
  unfold aop
  split <;> try (rename_i hop; rw[hop] at hs)
  · rw[hs _ (by simp[Op.operands])]
  · rw[hs _ (by simp[Op.operands])]
  · rename_i c a b
    rw[hs c (by simp[Op.operands]),hs a (by simp[Op.operands]),hs b (by simp[Op.operands])]
  · rw[hs _ (by simp[Op.operands])]
  · rw[parts_same (by simpa[Op.operands] using hs)]
  · rw[parts_same (by simpa[Op.operands] using hs)]
  · rw[hs _ (by simp[Op.operands])]
  · rename_i ty a x
    rw[hs a (by simp[Op.operands]),hs x (by simp[Op.operands])]
  · rw[hs _ (by simp[Op.operands])]
  · rename_i op xt x y yt
    obtain⟨h1,h2⟩:=plain_same (hs x (by simp[Op.operands]))
    obtain⟨h3,h4⟩:=plain_same (hs y (by simp[Op.operands]))
    rw[h1,h2,h3,h4,hs x (by simp[Op.operands]),pureOp_same (P:=P) (ρ:=plainNd t) (ρ':=plainNd t') (o:=o) (by simp only[execOp,hop,h1,h3])]
  · rename_i op xt x
    obtain⟨h1,h2⟩:=plain_same (hs x (by simp[Op.operands]))
    rw[h2,pureOp_same (P:=P) (ρ:=plainNd t) (ρ':=plainNd t') (o:=o) (by simp only[execOp,hop,h1])]
  · rename_i src dst x
    obtain⟨h1,h2⟩:=plain_same (hs x (by simp[Op.operands]))
    rw[h2,hs x (by simp[Op.operands]),pureOp_same (P:=P) (ρ:=plainNd t) (ρ':=plainNd t') (o:=o) (by simp only[execOp,hop,h1])]
  · rename_i f first caps
    rw[opnds_same (xs:=caps.toList) (fun y hy=>hs y (by simp only[Op.operands,Array.toList_append,List.mem_append]; exact .inr hy))]
  · rename_i ty l c
    rw[hs l (by simp[Op.operands]),hs c (by simp[Op.operands])]
  · rename_i xt x lo hi mx
    have h0:=hs x (by simp[Op.operands])
    have h1:=optnd_same (t:=t) (t':=t') (x:=lo) (fun y hy=>hs y (by cases lo <;> simp_all [Op.operands]))
    have h2:=optnd_same (t:=t) (t':=t') (x:=hi) (fun y hy=>hs y (by cases hi <;> simp_all [Op.operands]))
    have h3:=optnd_same (t:=t) (t':=t') (x:=mx) (fun y hy=>hs y (by cases mx <;> simp_all [Op.operands]))
    rw[h0,h1,h2,h3]
  · rw[hs _ (by simp[Op.operands])]
  · rw[hs _ (by simp[Op.operands])]
  · rename_i xt x i
    rw[hs x (by simp[Op.operands]),hs i (by simp[Op.operands])]
  · rename_i xt x i
    rw[hs x (by simp[Op.operands]),hs i (by simp[Op.operands])]
  · rw[hs _ (by simp[Op.operands])]
  · rename_i args ats
    have hs':Same t t' args.toList:=fun y hy=>hs y (by simpa[Op.operands,Call.operands] using hy)
    split
    · rename_i x hargs
      rw[hs' x (by rw[hargs]; simp)]
    · rfl
  · rename_i args ats
    have hs':Same t t' args.toList:=fun y hy=>hs y (by simpa[Op.operands,Call.operands] using hy)
    split
    · rename_i x y tx ty hargs hats
      rw[hs' x (by rw[hargs]; simp),hs' y (by rw[hargs]; simp)]
    · rfl
  · rename_i args ats
    have hs':Same t t' args.toList:=fun y hy=>hs y (by simpa[Op.operands,Call.operands] using hy)
    split
    · rename_i x tx hargs hats
      rw[hs' x (by rw[hargs]; simp)]
    · rfl
  · rename_i b args ats hb1 hb2 hb3
    have hs':Same t t' args.toList:=fun y hy=>hs y (by simpa[Op.operands,Call.operands] using hy)
    obtain⟨h1,h2⟩:=allPlain_same hs'
    have h1':args.all (isPlain t)=args.all (isPlain t'):=by rw[← Array.all_toList,← Array.all_toList]; exact h1
    have h2':args.map (plainNd t)=args.map (plainNd t'):=by apply Array.ext'; rw[Array.toList_map,Array.toList_map]; exact h2
    rw[h1',pureOp_same (P:=P) (ρ:=plainNd t) (ρ':=plainNd t') (o:=o) (by simp only[execOp,hop,resolve,h2'])]
  · exact mapOp_same hs
def stepC (E:Env) (r:Rec) (ops:Array Oper) (o:Oper) (t:List AV) (h:AHeap) (n:Nat):Option (AV × AHeap × Nat):=
  match wantedA ops t o with
  | none=>none
  | some false=>some (.s undef,h,n)
  | some true=>
    match o.op with
    | .call { callee:=.value f,args,.. }=>callOf E r t h n f args.toList
    | .buildSlice ty len ps=>if ownLit ty len ps.toList then (aop E.P o t h n).map fun (v,us)=>(v,h.upd us,n + 1) else (litOf E.P t ty len ps.toList).map fun v=>(v,h,n)
    | .box e x=>if E.fbox e x o.dst then (boxLit t x).map fun v=>(v,h,n) else (aop E.P o t h n).map fun (v,us)=>(v,h.upd us,n + 1)
    | _=>(aop E.P o t h n).map fun (v,us)=>(v,h.upd us,if usesN o.op then n + 1 else n)
theorem stepOp_eq (E:Env) (r:Rec) (ops:Array Oper) (o:Oper) (s:St):stepOp E r true ops o s=(stepC E r ops o s.t s.h s.n).map fun (v,h',n')=>⟨putT s.t o.dst v,h',n'⟩:=by
  unfold stepOp stepC
  cases hw:wantedA ops s.t o with
  | none=>rfl
  | some b=>
    cases b with
    | false=>rfl
    | true=>
      simp only
      cases hop:o.op with
      | buildSlice ty len ps=>
        simp only[Bool.true_and]
        cases hq:ownLit ty len ps.toList with
        | false=>
          simp only[Bool.not_false,if_true,Bool.false_eq_true,if_false]
          cases litOf E.P s.t ty len ps.toList with
          | none=>rfl
          | some v=>rfl
        | true=>
          simp only[Bool.not_true,Bool.false_eq_true,if_false,if_true]
          cases aop E.P o s.t s.h s.n with
          | none=>rfl
          | some q=>obtain⟨v,us⟩:=q; rfl
      | box e x=>
        simp only
        cases E.fbox e x o.dst with
        | true=>
          simp only[if_true]
          cases boxLit s.t x with
          | none=>rfl
          | some v=>rfl
        | false=>
          simp only[Bool.false_eq_true,if_false]
          cases aop E.P o s.t s.h s.n with
          | none=>rfl
          | some q=>obtain⟨v,us⟩:=q; rfl
      | call c=>
        obtain⟨callee,args,ats⟩:=c
        cases callee with
        | value f=>
          simp only
          cases callOf E r s.t s.h s.n f args.toList with
          | none=>rfl
          | some q=>obtain⟨v,h',n'⟩:=q; rfl
        | invoke rv m=>
          simp only
          cases aop E.P o s.t s.h s.n with
          | none=>rfl
          | some q=>obtain⟨v,us⟩:=q; rfl
        | builtin b=>
          simp only
          cases aop E.P o s.t s.h s.n with
          | none=>rfl
          | some q=>obtain⟨v,us⟩:=q; rfl
      | _=>
        simp only
        cases aop E.P o s.t s.h s.n with
        | none=>rfl
        | some q=>obtain⟨v,us⟩:=q; rfl
def Reads (ops:Array Oper) (o:Oper) (t t':List AV):Prop:=∀ d∈readsOf ops o,t[d]? = t'[d]?
theorem reads_same {ops:Array Oper} {o:Oper} {t t':List AV} (h:Reads ops o t t'):Same t t' o.op.operands.toList:=fun x hx=>by
  cases x with
  | tmp i=>
    simp only[opnd]
    refine h i ?_
    simp only[readsOf,tmpsOf,List.mem_append,List.mem_filterMap]
    exact .inl ⟨.tmp i,hx,rfl⟩
  | const _=>rfl
  | global _=>rfl
  | func _=>rfl
theorem reads_wanted {ops:Array Oper} {o:Oper} {t t':List AV} (h:Reads ops o t t'):wantedA ops t o=wantedA ops t' o:=by
  unfold wantedA
  cases hg:o.guard with
  | none=>rfl
  | some g=>
    obtain⟨j,want⟩:=g
    simp only
    cases hd:(ops[j]?).bind (·.dst) with
    | none=>rfl
    | some d=>
      simp only
      rw[h d (by simp[readsOf,hg,hd])]
theorem stepC_reads {E:Env} {r:Rec} {ops:Array Oper} {o:Oper} {t t':List AV} (h:Reads ops o t t') (hp:AHeap) (n:Nat):stepC E r ops o t hp n=stepC E r ops o t' hp n:=by
  have hs:=reads_same h
  unfold stepC
  rw[reads_wanted h]
  split
  · rfl
  · rfl
  · split
    · rename_i f args ats hop
      rw[hop] at hs
      unfold callOf
      rw[hs f (by simp[Op.operands,Call.operands]),opnds_same (xs:=args.toList) (fun y hy=>hs y (by simp[Op.operands,Call.operands]; right; simpa using hy))]
    · rename_i ty len ps hop
      have hs2:=hs
      rw[hop] at hs2
      unfold litOf
      rw[parts_same (by simpa[Op.operands] using hs2),aop_same hs]
    · rename_i e x hop
      have hx:=hs x (by rw[hop]; simp[Op.operands])
      unfold boxLit
      rw[hx,aop_same hs]
    · rw[aop_same hs]
noncomputable def fpAt (E:Env) (r:Rec) (ops:Array Oper) (o:Oper) (t:List AV) (h:AHeap) (n:Nat):Option Fp:=
  match wantedA ops t o with
  | some true=>fpH E r o.op t h n
  | _=>some fp0
theorem fpOf_same {E:Env} {o:Op} {t t':List AV} {n:Nat} (hs:Same t t' o.operands.toList):fpOf E o t n=fpOf E o t' n:=by
  unfold fpOf
  split <;> first
    | rfl
    | (rw[hs _ (by simp[Op.operands])]; done)
    | skip
  · rename_i g args ats
    rw[opnds_same (xs:=args.toList) (fun y hy=>hs y (by simp[Op.operands,Call.operands]; right; simpa using hy))]
  · rename_i b args ats
    have hs':Same t t' args.toList:=fun y hy=>hs y (by simpa[Op.operands,Call.operands] using hy)
    rw[opnds_same hs']
theorem fpM_same {E:Env} {r:Rec} {o:Op} {t t':List AV} {h:AHeap} {n:Nat} (hs:Same t t' o.operands.toList):fpM E r o t h n=fpM E r o t' h n:=by
  unfold fpM
  split
  · rename_i f args ats
    unfold callOf
    rw[hs f (by simp[Op.operands,Call.operands]),opnds_same (xs:=args.toList) (fun y hy=>hs y (by simp[Op.operands,Call.operands]; right; simpa using hy))]
  · rfl
theorem fpAt_reads {E:Env} {r:Rec} {ops:Array Oper} {o:Oper} {t t':List AV} (hr:Reads ops o t t') (h:AHeap) (n:Nat):fpAt E r ops o t h n=fpAt E r ops o t' h n:=by
  unfold fpAt
  rw[reads_wanted hr]
  split
  · unfold fpH
    rw[fpOf_same (reads_same hr),fpM_same (reads_same hr)]
  · rfl
theorem fpOf_n {E:Env} {o:Op} {t:List AV} (hd:usesD o=false) (n n':Nat):fpOf E o t n=fpOf E o t n':=by
  cases hop:o with
  | alloc _=>simp[hop,usesD,usesN] at hd
  | box _ _=>simp[hop,usesD,usesN] at hd
  | makeSlice _ _ _=>simp[hop,usesD,usesN] at hd
  | buildSlice ty len ps=>
    rw[hop] at hd
    have hd':ownLit ty len ps.toList=false:=hd
    simp only[fpOf,hd',Bool.false_eq_true,if_false]
  | call c=>
    obtain⟨callee,args,ats⟩:=c
    cases callee with
    | value f=>cases f <;> rfl
    | invoke rv m=>rfl
    | builtin b=>cases b <;> first | rfl | (simp[hop,usesD,usesN] at hd)
  | makeFunc fn _ _=>cases fn <;> rfl
  | _=>rfl
theorem fpM_out {E:Env} {r:Rec} {o:Op} {t:List AV} {h:AHeap} {n:Nat} {F:Fp} (hf:fpM E r o t h n=some F):F.all=true∧F.mem.isSome=true:=by
  unfold fpM at hf
  split at hf
  · split at hf
    · cases hf; exact⟨rfl,rfl⟩
    · cases hf
  · cases hf
theorem fpM_all {E:Env} {r:Rec} {o:Op} {t:List AV} {h:AHeap} {n:Nat} {F:Fp} (hf:fpM E r o t h n=some F):F.all=true:=(fpM_out hf).1
theorem fpOf_mem {E:Env} {o:Op} {t:List AV} {n:Nat} {F:Fp} (hf:fpOf E o t n=some F):F.mem=none:=by
  unfold fpOf at hf
  split at hf <;> first
    | (cases hf; rfl; done)
    | (cases hf; split <;> rfl; done)
    | (cases hf; done)
    | (obtain⟨v,_,e⟩:=Option.map_eq_some_iff.1 hf; cases e; rfl; done)
    | skip
  · split at hf
    · cases hf; rfl
    · split at hf
      · obtain⟨v,_,e⟩:=Option.map_eq_some_iff.1 hf
        cases e
        split <;> rfl
      · cases hf
  · split at hf
    · split at hf
      · cases hf
      · cases hf; rfl
    · cases hf; rfl
    · cases hf; rfl
    · cases hf; rfl
    · split at hf
      · cases hf
      · split at hf
        · cases hf; rfl
        · cases hf
    · cases hf
theorem fpAt_move {E:Env} {r:Rec} {ops:Array Oper} {o:Oper} {t:List AV} {h h':AHeap} {n n':Nat} {F:Fp} (hf:fpAt E r ops o t h n=some F) (hd:usesD o.op=true→n' = n) (ha:F.all=true→h' = h∧n' = n):fpAt E r ops o t h' n' = some F:=by
  unfold fpAt at hf ⊢
  split at hf
  · unfold fpH at hf ⊢
    have hn:fpOf E o.op t n' = fpOf E o.op t n:=by
      by_cases hu:usesD o.op=true
      · rw[hd hu]
      · exact fpOf_n (by simpa using hu) _ _
    rw[hn]
    split at hf
    · exact hf
    · obtain⟨rfl,rfl⟩:=ha (fpM_all hf)
      exact hf
  · exact hf
end Go.Vm
/- The abstract evaluator: an operation's answer hangs on what it reads alone. -/
namespace Go.Vm
open Go
structure Agree (F:Fp) (h h2:AHeap) (n n2:Nat):Prop where
  all:F.all=true→h2=h
  alln:F.all=true→n2=n
  at_:∀ id,id∈F.R∨id∈F.W→h2 id=h id
theorem calm_aop {P:Program} {o:Oper} (hl:loud o.op=false) (hb:∀ ty len ps,o.op ≠ .buildSlice ty len ps) {t:List AV} {h:AHeap} {n:Nat} {v:AV} {us:Ups} (ha:aop P o t h n=some (v,us)) (h2:AHeap) (n2:Nat) :
    us=[]∧aop P o t h2 n2=some (v,[])∧usesN o.op=false:=by
  have key:us=[]→aop P o t h2 n2=aop P o t h n→usesN o.op=false→us=[]∧aop P o t h2 n2=some (v,[])∧usesN o.op=false:=fun h1 h3 h4=>⟨h1,by rw[h3,ha,h1],h4⟩
  unfold aop at ha key
  unfold aop
  split at ha <;> rename_i hop <;> simp only[hop] at key hl ⊢
  · exact key (map_nil_some ha).2 (by first | trivial | rfl) (by first | trivial | rfl)
  · exact key (map_nil_some ha).2 (by first | trivial | rfl) (by first | trivial | rfl)
  · refine key ?_ (by first | trivial | rfl) (by first | trivial | rfl)
    split at ha
    · exact (map_nil_some ha).2
    · exact (map_nil_some ha).2
    · cases ha
  · cases hl
  · cases hl
  · refine key ?_ (by first | trivial | rfl) (by first | trivial | rfl)
    split at ha
    · obtain⟨cs,_,e⟩:=Option.map_eq_some_iff.1 ha; cases e; rfl
    · cases ha
  · exact absurd hop (hb _ _ _)
  · cases hl
  · cases hl
  · refine key ?_ (by first | trivial | rfl) (by first | trivial | rfl)
    split at ha
    · cases ha; rfl
    · cases ha; rfl
    · cases ha
  · refine key ?_ (by first | trivial | rfl) (by first | trivial | rfl)
    split at ha
    · split at ha
      · cases ha; rfl
      · exact (map_nil_some ha).2
    · obtain⟨b,_,e⟩:=Option.map_eq_some_iff.1 ha; cases e; rfl
  · refine key ?_ (by first | trivial | rfl) (by first | trivial | rfl)
    split at ha
    · exact (map_nil_some ha).2
    · cases ha
  · cases hl
  · refine key ?_ (by first | trivial | rfl) (by first | trivial | rfl)
    split at ha
    · obtain⟨cs,_,e⟩:=Option.map_eq_some_iff.1 ha; cases e; rfl
    · cases ha
  · cases hl
  · refine key ?_ (by first | trivial | rfl) (by first | trivial | rfl)
    split at ha
    · split at ha
      · split at ha
        · split at ha
          · exact (map_nil_some ha).2
          · cases ha
        · split at ha
          · exact (map_nil_some ha).2
          · cases ha
        · exact (map_nil_some ha).2
        · exact (map_nil_some ha).2
        · cases ha
      · cases ha
    · split at ha
      · exact (map_nil_some ha).2
      · cases ha
    · cases ha
  · refine key ?_ (by first | trivial | rfl) (by first | trivial | rfl)
    split at ha
    · exact (map_nil_some ha).2
    · cases ha
  · refine key ?_ (by first | trivial | rfl) (by first | trivial | rfl)
    split at ha
    · split at ha
      · exact (map_nil_some ha).2
      · cases ha
    · cases ha
  · refine key ?_ (by first | trivial | rfl) (by first | trivial | rfl)
    split at ha
    · exact (map_nil_some ha).2
    · cases ha
  · refine key ?_ (by first | trivial | rfl) (by first | trivial | rfl)
    split at ha
    · split at ha
      · cases ha; rfl
      · cases ha
    · split at ha
      · split at ha
        · exact (map_nil_some ha).2
        · cases ha
      · cases ha
    · cases ha
  · refine key ?_ (by first | trivial | rfl) (by first | trivial | rfl)
    split at ha
    · exact (map_nil_some ha).2
    · cases ha
  · have hl':mapTy _=false:=hl
    simp only[hl',Bool.false_eq_true,if_false] at ha key ⊢
    refine key ?_ (by first | trivial | rfl) (by first | trivial | rfl)
    split at ha
    · split at ha
      · split at ha
        all_goals first
          | (obtain⟨k,_,e⟩:=Option.map_eq_some_iff.1 ha; cases e; rfl)
          | (cases ha; rfl)
          | cases ha
      · cases ha
    · cases ha
  · cases hl
  · cases hl
  · rename_i b args ats _ _ _
    split at ha
    · refine key ?_ (by first | trivial | rfl) (by first | trivial | rfl)
      split at ha
      · exact (map_nil_some ha).2
      · cases ha
    · refine key ?_ (by first | trivial | rfl) (by first | trivial | rfl)
      split at ha
      · exact (map_nil_some ha).2
      · cases ha
    · refine key ?_ (by first | trivial | rfl) (by first | trivial | rfl)
      split at ha
      · exact (map_nil_some ha).2
      · cases ha
    · cases ha
  · unfold mapOp at ha
    split at ha <;> first
      | (rename_i hop2; rw[hop2] at hl; cases hl; done)
      | cases ha
theorem noOwn_snap {h:AHeap} {c:AV} (hc:noOwn c=true) (k:Nat):snap h k c=some (c,false):=by
  cases c <;> simp only[noOwn] at hc <;> first | (cases k <;> rfl) | cases hc
theorem noOwn_snapL {h:AHeap} {k:Nat}:∀ {cs:List AV},cs.all noOwn=true→snapL (snap h k) cs=some (cs,false)
  | [],_=>rfl
  | c :: cs,hc=>by
    simp only[List.all_cons,Bool.and_eq_true] at hc
    simp only[snapL,noOwn_snap hc.1,noOwn_snapL hc.2,Bool.or_self]
theorem plain_snap {h:AHeap} {c:AV} (hc:plainArg c=true) (k:Nat):snap h (k + 1) c=some (c,false):=by
  cases c <;> simp only[plainArg] at hc <;> first
    | rfl
    | (simp only[snap,noOwn_snapL hc,Option.map_some]; done)
    | cases hc
theorem plain_snapL {h:AHeap} {k:Nat}:∀ {cs:List AV},cs.all plainArg=true→snapL (snap h (k + 1)) cs=some (cs,false)
  | [],_=>rfl
  | c :: cs,hc=>by
    simp only[List.all_cons,Bool.and_eq_true] at hc
    simp only[snapL,plain_snap hc.1,plain_snapL hc.2,Bool.or_self]
theorem upd_other:∀ {us:Ups} {h:AHeap} {j:Nat},(∀ p∈us,p.1≠j)→(h.upd us) j=h j
  | [],_,_,_=>rfl
  | (i,o) :: us,h,j,hne=>by
    simp only[AHeap.upd]
    rw[upd_other (fun p hp=>hne p (List.mem_cons_of_mem _ hp)),AHeap.put_other h (Ne.symm (hne (i,o) (by simp)))]
theorem upd_same:∀ {us:Ups} {h h2:AHeap} {j:Nat},h j=h2 j→(h.upd us) j=(h2.upd us) j
  | [],_,_,_,e=>e
  | (i,o) :: us,h,h2,j,e=>by
    simp only[AHeap.upd]
    refine upd_same ?_
    by_cases hj:j=i
    · subst hj; rw[AHeap.put_same,AHeap.put_same]
    · rw[AHeap.put_other h hj,AHeap.put_other h2 hj,e]
end Go.Vm
/- The abstract evaluator: an operation's answer hangs on its footprint alone. -/
namespace Go.Vm
open Go
theorem stepC_calm {E:Env} {r:Rec} {ops:Array Oper} {o:Oper} (hl:loud o.op=false) {t:List AV} {h:AHeap} {n:Nat} {v:AV} {h':AHeap} {n':Nat} (hs:stepC E r ops o t h n=some (v,h',n')) :
    h' = h∧n' = n∧∀ h2 n2,stepC E r ops o t h2 n2=some (v,h2,n2):=by
  unfold stepC at hs ⊢
  cases hw:wantedA ops t o with
  | none=>rw[hw] at hs; cases hs
  | some b=>
    rw[hw] at hs
    cases b with
    | false=>simp only at hs ⊢; cases hs; exact⟨rfl,rfl,fun _ _=>rfl⟩
    | true=>
      simp only at hs ⊢
      have gen:(∀ ty len ps,o.op ≠ .buildSlice ty len ps)→((aop E.P o t h n).map fun (p:AV × Ups)=>(p.1,h.upd p.2,if usesN o.op then n + 1 else n))=some (v,h',n')→h' = h∧n' = n∧∀ h2 n2,((aop E.P o t h2 n2).map fun (p:AV × Ups)=>(p.1,h2.upd p.2,if usesN o.op then n2 + 1 else n2))=some (v,h2,n2):=by
        intro hb hm
        obtain⟨⟨v1,us⟩,e1,e2⟩:=Option.map_eq_some_iff.1 hm
        obtain⟨_,_,k3⟩:=calm_aop hl hb e1 h n
        have e3:v1=v:=by injection e2
        subst e3
        obtain⟨rfl,_,_⟩:=calm_aop hl hb e1 h n
        simp only[k3,AHeap.upd,Bool.false_eq_true,if_false,Prod.mk.injEq,true_and] at e2
        refine⟨e2.1.symm,e2.2.symm,fun h2 n2=>?_⟩
        rw[(calm_aop hl hb e1 h2 n2).2.1]
        simp[k3,AHeap.upd]
      cases hop:o.op with
      | box e x=>rw[hop] at hl; simp[loud] at hl
      | buildSlice ty len ps=>
        rw[hop] at hs hl
        have hl':ownLit ty len ps.toList=false:=hl
        simp only[hl',Bool.false_eq_true,if_false] at hs ⊢
        obtain⟨v1,e1,e2⟩:=Option.map_eq_some_iff.1 hs
        cases e2
        exact⟨rfl,rfl,fun h2 n2=>by rw[e1]; rfl⟩
      | call c=>
        obtain⟨callee,args,ats⟩:=c
        cases callee with
        | value f=>rw[hop] at hl; simp[loud] at hl
        | invoke rv m=>rw[hop] at hl; simp[loud] at hl
        | builtin b=>
          rw[hop] at hs
          simp only at hs ⊢
          have:=gen (by intro ty len ps e; rw[hop] at e; cases e)
          rw[hop] at this
          exact this hs
      | _=>
        rw[hop] at hs
        simp only at hs ⊢
        have:=gen (by intro ty len ps e; rw[hop] at e; cases e)
        rw[hop] at this
        exact this hs
theorem rowsOf_local {h h2:AHeap} {sz:Nat} {y:AV} (ha:∀ id∈idOf y,h2 id=h id):rowsOf h2 sz y=rowsOf h sz y:=by
  unfold rowsOf
  split
  · rfl
  · rfl
  · rfl
  · rw[ha _ (by simp[idOf])]
  · rfl
  · rfl
theorem appendOf_local {P:Program} {h:AHeap} {n:Nat} {e:TypeId} {x y v:AV} {us:Ups} (ha:appendOf P h n e x y=some (v,us)) :
    (∀ p∈us,p.1∈n :: idOf x)∧∀ h2:AHeap,(∀ id∈idOf x ++ idOf y,h2 id=h id)→appendOf P h2 n e x y=some (v,us):=by
  refine⟨?_,fun h2 hg=>?_⟩
  · unfold appendOf at ha
    simp only[Option.bind_eq_bind,Option.bind_eq_some_iff] at ha
    obtain⟨sz,_,b,_,news,_,z,_,ha⟩:=ha
    split at ha
    · cases ha
    · split at ha
      · split at ha
        · cases ha; simp
        · cases ha; simp
        · cases ha; simp
        · cases ha
      · split at ha
        · split at ha
          · cases ha; simp[newRows]
          · cases ha
        · split at ha
          · cases ha; simp[newRows]
          · cases ha
        · split at ha
          · split at ha
            · split at ha
              · cases ha; simp[idOf]
              · split at ha
                · cases ha; simp[idOf]
                · cases ha
            · cases ha
          · cases ha
        · cases ha
  · rw[← ha]
    unfold appendOf
    have h1:∀ sz,rowsOf h2 sz y=rowsOf h sz y:=fun sz=>rowsOf_local fun id hi=>hg id (by simp[hi])
    simp only[h1]
    cases x with
    | osl id off len sz'=>simp only[hg id (by simp[idOf])]
    | s v=>
      refine congrArg _ (funext fun sz=>congrArg _ (funext fun b=>congrArg _ (funext fun news=>congrArg _ (funext fun z=>?_))))
      split
      · rfl
      · split
        · rfl
        · split <;> first | rfl | (rename_i k; cases k)
    | _=>rfl
theorem aop_local {E:Env} {o:Oper} {t:List AV} {h:AHeap} {n:Nat} {v:AV} {us:Ups} {F:Fp} (hl:loud o.op=true) (hc:∀ f args ats,o.op ≠ .call ⟨.value f,args,ats⟩) (hf:fpOf E o.op t n=some F) (ha:aop E.P o t h n=some (v,us)) :
    (∀ p∈us,p.1∈F.W)∧usesD o.op=usesN o.op∧∀ (h2:AHeap) (n2:Nat),Agree F h h2 n n2→(usesD o.op=true→n2=n)→aop E.P o t h2 n2=some (v,us):=by
  cases hop:o.op with
  | load ty a=>
    rw[hop] at hf
    simp only[fpOf] at hf
    obtain⟨p,e1,rfl⟩:=Option.map_eq_some_iff.1 hf
    unfold aop at ha ⊢
    rw[hop] at ha
    simp only[hop,e1] at ha ⊢
    refine⟨?_,rfl,fun h2 n2 hg _=>?_⟩
    · rw[(map_nil_some ha).2]; simp
    · rw[← ha]
      cases p with
      | ptr id i sz off=>simp only[loadOf,rowAt,hg.at_ id (.inl (by simp[idOf]))]
      | _=>rfl
  | lookup xt x k ok=>
    rw[hop] at hf
    simp only[fpOf] at hf
    obtain⟨p,e1,rfl⟩:=Option.map_eq_some_iff.1 hf
    unfold aop mapOp at ha ⊢
    rw[hop] at ha
    simp only[hop,e1,Option.bind_some] at ha ⊢
    refine⟨?_,rfl,fun h2 n2 hg _=>?_⟩
    · split at ha
      · rw[(map_nil_some ha).2]; simp
      · cases ha
    · have hm:mapOf h2 p=mapOf h p:=by
        cases p with
        | mp id=>simp only[mapOf,hg.at_ id (.inl (by simp[idOf]))]
        | s w=>unfold mapOf; split <;> first | rfl | (rename_i e; cases e)
        | _=>rfl
      rw[hm]
      exact ha
  | store ty a x=>
    rw[hop] at hf
    simp only[fpOf] at hf
    obtain⟨p,e1,rfl⟩:=Option.map_eq_some_iff.1 hf
    unfold aop at ha ⊢
    rw[hop] at ha
    simp only[hop,e1] at ha ⊢
    cases hx:opnd t x with
    | none=>rw[hx] at ha; cases ha
    | some u=>
      rw[hx] at ha
      simp only at ha ⊢
      obtain⟨us1,e2,e3⟩:=Option.map_eq_some_iff.1 ha
      cases e3
      refine⟨?_,rfl,fun h2 n2 hg _=>?_⟩
      · unfold storeOf at e2
        split at e2
        · split at e2
          · split at e2
            · split at e2
              · split at e2
                · cases e2; simp[idOf]
                · cases e2
              · cases e2
            · cases e2
          · cases e2
        · cases e2
      · have:storeOf E.P h2 ty p u=storeOf E.P h ty p u:=by
          cases p with
          | ptr id i sz off=>cases hcs:cellsOf u with
            | none=>simp only[storeOf,hcs]
            | some cs=>simp only[storeOf,hcs,hg.at_ id (.inl (by simp[idOf]))]
          | _=>rfl
        rw[this,e2]; rfl
  | alloc e=>
    rw[hop] at hf
    simp only[fpOf] at hf
    cases hf
    unfold aop at ha ⊢
    rw[hop] at ha
    simp only[hop] at ha ⊢
    split at ha
    · cases ha
      refine⟨by simp[newRows],rfl,fun h2 n2 hg he=>?_⟩
      rw[he rfl]
    · cases ha
  | box ty x=>
    rw[hop] at hf
    simp only[fpOf] at hf
    cases hf
    unfold aop at ha ⊢
    rw[hop] at ha
    simp only[hop] at ha ⊢
    split at ha
    · cases ha
      refine⟨by simp[newRows],rfl,fun h2 n2 hg he=>?_⟩
      rw[he rfl]
    · cases ha
  | makeSlice ty l c=>
    rw[hop] at hf
    simp only[fpOf] at hf
    cases hf
    refine⟨?_,rfl,fun h2 n2 hg he=>?_⟩
    · unfold aop at ha
      rw[hop] at ha
      simp only at ha
      split at ha
      · split at ha
        · split at ha
          · cases ha; simp[newRows]
          · cases ha
        · cases ha
      · cases ha
    · rw[he (by first | rfl | (simp only[hop]; rfl))]
      rw[← ha]
      unfold aop
      simp only[hop]
  | call c=>
    obtain⟨callee,args,ats⟩:=c
    cases callee with
    | value f=>exact absurd hop (hc f args ats)
    | invoke rv m=>rw[hop] at hf; simp only[fpOf] at hf; cases hf
    | builtin b=>
      rw[hop] at hf hl
      cases b with
      | append=>
        simp only[fpOf] at hf
        split at hf
        · cases hf
        rename_i hz
        split at hf
        · rename_i x y e1
          cases hf
          unfold aop at ha ⊢
          rw[hop] at ha
          simp only[hop] at ha ⊢
          split at ha
          · rename_i ax ay tx ty hargs hats
            rw[hargs] at e1
            simp only[opnds] at e1
            split at ha
            · rename_i u w e s1 k1 k2 k3 k4
              have hz2:∀ h n,appendZ E.P h n tx e u w=appendOf E.P h n e u w:=fun h n=>by
                have:ats[0]? = some tx:=by
                  rw[← Array.getElem?_toList,hats]; rfl
                rw[this] at hz
                exact if_neg hz
              rw[hz2] at ha
              simp only[k1,k2,k3,k4,hz2] at e1 ⊢
              cases e1
              obtain⟨q1,q2⟩:=appendOf_local ha
              exact⟨q1,rfl,fun h2 n2 hg he=>by rw[he rfl]; exact q2 h2 fun id hi=>hg.at_ id (.inl hi)⟩
            · rename_i u w e k1 k2 k3 k4
              simp only[k1,k2,k3,k4] at e1 ⊢
              cases e1
              obtain⟨q1,q2⟩:=appendOf_local ha
              exact⟨q1,rfl,fun h2 n2 hg he=>by rw[he rfl]; exact q2 h2 fun id hi=>hg.at_ id (.inl hi)⟩
            · rename_i k m e k' k1 k2 k3 k4
              simp only[k1,k2,k3,k4] at e1 ⊢
              cases e1
              refine⟨?_,rfl,fun h2 n2 hg he=>by rw[he rfl]; exact ha⟩
              unfold growOf at ha
              split at ha
              · split at ha
                · cases ha
                · cases ha; simp[newRows]
              · cases ha
            · cases ha
          · cases ha
        · cases hf
      | len=>
        have hl2:mapTy ats[0]? = true:=hl
        simp only[fpOf,hl2,if_true] at hf
        cases hf
      | _=>first | (simp only[fpOf] at hf; cases hf; done) | (simp[loud] at hl; done)
  | makeFunc fn first caps=>rw[hop] at hl; simp[loud] at hl
  | buildSlice ty len ps=>
    rw[hop] at hl hf
    have hl':ownLit ty len ps.toList=true:=hl
    simp only[fpOf,hl',if_true,Option.some.injEq] at hf
    subst hf
    unfold aop at ha ⊢
    rw[hop] at ha
    simp only[hop] at ha ⊢
    refine⟨?_,hl',fun h2 n2 hg he=>by rw[he hl']; exact ha⟩
    split at ha
    · split at ha
      · split at ha
        · obtain⟨rows,_,e⟩:=Option.map_eq_some_iff.1 ha
          cases e
          simp[newRows]
        · cases ha
      · cases ha
    · cases ha
  | _=>first | (rw[hop] at hl; simp[loud] at hl; done) | (rw[hop] at hf; simp only[fpOf] at hf; cases hf; done)
end Go.Vm
/- The abstract evaluator: two operations change places. -/
namespace Go.Vm
open Go
theorem fpOf_W {E:Env} {o:Op} {t:List AV} {n:Nat} {F:Fp} (hf:fpOf E o t n=some F) (hu:usesD o=true):F.W≠[]:=by
  unfold fpOf at hf
  split at hf
  all_goals first
    | (simp[usesD,usesN] at hu; done)
    | (cases hf; simp; done)
    | (cases hf; simp only[usesD] at hu; simp[hu]; done)
    | skip
  · split at hf
    · simp[usesD,usesN] at hu
    · simp[usesD,usesN] at hu
    · simp[usesD,usesN] at hu
    · simp[usesD,usesN] at hu
    · split at hf
      · cases hf
      · split at hf
        · cases hf; simp
        · cases hf
    · cases hf
  · cases hf
theorem stepC_local {E:Env} {r:Rec} {ops:Array Oper} {o:Oper} (hl:loud o.op=true) {t:List AV} {h:AHeap} {n:Nat} {v:AV} {h':AHeap} {n':Nat} {F:Fp} (hf:fpAt E r ops o t h n=some F) (hmem:F.mem=none) (hs:stepC E r ops o t h n=some (v,h',n')) :
    ∃ us δ,h' = h.upd us∧n' = n + δ∧(∀ p∈us,p.1∈F.W)∧(usesD o.op=false→δ=0)∧(F.W=[]→δ=0) ∧
      ∀ (h2:AHeap) (n2:Nat),Agree F h h2 n n2→(usesD o.op=true→n2=n)→stepC E r ops o t h2 n2=some (v,h2.upd us,n2 + δ):=by
  unfold stepC at hs ⊢
  unfold fpAt at hf
  cases hw:wantedA ops t o with
  | none=>rw[hw] at hs; cases hs
  | some b=>
    rw[hw] at hs hf
    cases b with
    | false=>
      simp only at hs ⊢
      cases hs
      exact⟨[],0,rfl,rfl,by simp,fun _=>rfl,fun _=>rfl,fun _ _ _ _=>rfl⟩
    | true=>
      simp only at hs hf ⊢
      unfold fpH at hf
      cases hO:fpOf E o.op t n with
      | none=>
        rw[hO] at hf
        simp only at hf
        have:=(fpM_out hf).2
        rw[hmem] at this
        cases this
      | some F'=>
      rw[hO] at hf
      simp only[Option.some.injEq] at hf
      rw[hf] at hO
      have hf:=hO
      have gen:(∀ f args ats,o.op ≠ .call ⟨.value f,args,ats⟩)→((aop E.P o t h n).map fun (p:AV × Ups)=>(p.1,h.upd p.2,if usesN o.op then n + 1 else n))=some (v,h',n') →
          ∃ us δ,h' = h.upd us∧n' = n + δ∧(∀ p∈us,p.1∈F.W)∧(usesD o.op=false→δ=0)∧(F.W=[]→δ=0) ∧
            ∀ (h2:AHeap) (n2:Nat),Agree F h h2 n n2→(usesD o.op=true→n2=n)→((aop E.P o t h2 n2).map fun (p:AV × Ups)=>(p.1,h2.upd p.2,if usesN o.op then n2 + 1 else n2))=some (v,h2.upd us,n2 + δ):=by
        intro hc hm
        obtain⟨⟨v1,us⟩,e1,e2⟩:=Option.map_eq_some_iff.1 hm
        obtain⟨q1,q2,q3⟩:=aop_local hl hc hf e1
        cases e2
        refine⟨us,if usesN o.op then 1 else 0,rfl,?_,q1,?_,?_,fun h2 n2 hg he=>?_⟩
        · by_cases hu:usesN o.op=true
          · simp[hu]
          · simp[hu]
        · intro hd
          rw[q2] at hd
          simp[hd]
        · intro hW
          by_cases hu:usesN o.op=true
          · exact absurd hW (fpOf_W hf (by rw[q2]; exact hu))
          · simp[hu]
        · rw[q3 h2 n2 hg he]
          by_cases hu:usesN o.op=true
          · simp[hu]
          · simp[hu]
      cases hop:o.op with
      | buildSlice ty len ps=>
        have hl2:=hl
        rw[hop] at hs hl2
        have hl':ownLit ty len ps.toList=true:=hl2
        simp only[hl',if_true] at hs ⊢
        have:=gen (by intro f args ats e; rw[hop] at e; cases e)
        rw[hop] at this
        exact this hs
      | box e x=>
        rw[hop] at hs
        simp only at hs ⊢
        cases hb:E.fbox e x o.dst with
        | true=>
          rw[hb] at hs
          simp only[if_true] at hs ⊢
          obtain⟨v1,e1,e2⟩:=Option.map_eq_some_iff.1 hs
          cases e2
          exact⟨[],0,rfl,rfl,by simp,fun _=>rfl,fun _=>rfl,fun h2 n2 _ _=>by rw[e1]; rfl⟩
        | false=>
          rw[hb] at hs
          simp only[Bool.false_eq_true,if_false] at hs ⊢
          have:=gen (by intro f args ats e; rw[hop] at e; cases e)
          rw[hop] at this
          simp only[usesN,if_true] at this
          exact this hs
      | call c=>
        obtain⟨callee,args,ats⟩:=c
        cases callee with
        | value f=>
          rw[hop] at hs hf
          simp only at hs ⊢
          cases f with
          | func g=>
            simp only[fpOf] at hf
            unfold callOf at hs ⊢
            simp only[opnd] at hs ⊢
            cases hvs:opnds t args.toList with
            | none=>rw[hvs] at hs; cases hs
            | some vs=>
              rw[hvs] at hs hf
              simp only[List.append_nil] at hs ⊢
              unfold callFn at hs ⊢
              cases hp:E.prim g with
              | some p=>
                rw[hp] at hs hf
                simp only[Option.isSome_some,if_true] at hs hf ⊢
                obtain⟨u,e1,e2⟩:=Option.map_eq_some_iff.1 hs
                cases e2
                exact⟨[],0,rfl,rfl,by simp,fun _=>rfl,fun _=>rfl,fun h2 n2 _ _=>by rw[e1]; rfl⟩
              | none=>
                rw[hp] at hs hf
                simp only[Option.isSome_none,Bool.false_eq_true,if_false] at hs hf ⊢
                by_cases hpf:E.pf g=true
                · simp only[hpf,if_true,Option.map_some,Option.some.injEq] at hs hf ⊢
                  have hres:∀ (h2:AHeap) (n2:Nat),snapL (snap h2 depth) vs=snapL (snap h depth) vs→(match snapL (snap h2 depth) vs with
                      | some (vs',b)=>match r.call g vs' AHeap.nil 0 with
                        | some (v,h',_)=>match snap h' depth v with
                          | some (v',_)=>if b && !flat v' then none else some (v',h2,n2)
                          | none=>none
                        | none=>none
                      | none=>none)=some (v,h2,n2)∧h' = h∧n' = n:=by
                    intro h2 n2 he
                    rw[he]
                    cases hsn:snapL (snap h depth) vs with
                    | none=>rw[hsn] at hs; cases hs
                    | some q=>
                      obtain⟨vs',b⟩:=q
                      rw[hsn] at hs
                      simp only at hs ⊢
                      cases hcl:r.call g vs' AHeap.nil 0 with
                      | none=>rw[hcl] at hs; cases hs
                      | some q2=>
                        obtain⟨u,h3,n3⟩:=q2
                        rw[hcl] at hs
                        simp only at hs ⊢
                        cases hs3:snap h3 depth u with
                        | none=>rw[hs3] at hs; cases hs
                        | some q3=>
                          obtain⟨u',b'⟩:=q3
                          rw[hs3] at hs
                          simp only at hs ⊢
                          by_cases hb:(b && !flat u')=true
                          · rw[if_pos hb] at hs; cases hs
                          · rw[if_neg hb] at hs ⊢
                            cases hs
                            exact⟨rfl,rfl,rfl⟩
                  refine⟨[],0,(hres h n rfl).2.1,(hres h n rfl).2.2,by simp,fun _=>rfl,fun _=>rfl,fun h2 n2 hg _=>?_⟩
                  refine (hres h2 n2 ?_).1
                  by_cases hpl:vs.all plainArg=true
                  · exact (plain_snapL (k:=11) hpl).trans (plain_snapL (k:=11) hpl).symm
                  · rw[if_neg hpl] at hf
                    subst hf
                    rw[hg.all rfl]
                · simp only[hpf,if_false,Bool.false_eq_true] at hf
                  cases hf
          | tmp i=>simp only[fpOf] at hf; cases hf
          | const v=>simp only[fpOf] at hf; cases hf
          | global g=>simp only[fpOf] at hf; cases hf
        | invoke rv m=>rw[hop] at hf; simp only[fpOf] at hf; cases hf
        | builtin b=>
          rw[hop] at hs
          simp only at hs ⊢
          have:=gen (by intro f args ats e; rw[hop] at e; cases e)
          rw[hop] at this
          exact this hs
      | _=>
        rw[hop] at hs
        simp only at hs ⊢
        have:=gen (by intro f args ats e; rw[hop] at e; cases e)
        rw[hop] at this
        exact this hs
theorem fpAt_mem {E:Env} {r:Rec} {ops:Array Oper} {o:Oper} {t:List AV} {h:AHeap} {n:Nat} {v:AV} {h':AHeap} {n':Nat} {F:Fp} {x y:AHeap} (hf:fpAt E r ops o t h n=some F) (hm:F.mem=some (x,y)) (hs:stepC E r ops o t h n=some (v,h',n')):x=h∧y=h':=by
  unfold fpAt at hf
  split at hf
  · rename_i hw
    unfold fpH at hf
    split at hf
    · rename_i hO
      cases hf
      rw[fpOf_mem hO] at hm
      cases hm
    · unfold fpM at hf
      split at hf
      · rename_i f args ats hop
        unfold stepC at hs
        rw[hw,hop] at hs
        simp only at hs
        rw[hs] at hf
        cases hf
        cases hm
        exact⟨rfl,rfl⟩
      · cases hf
  · cases hf
    cases hm
theorem stepC_reader {E:Env} {r:Rec} {ops:Array Oper} {o:Oper} (hl:loud o.op=true) {t:List AV} {h:AHeap} {n:Nat} {v:AV} {h':AHeap} {n':Nat} {F:Fp} (hf:fpAt E r ops o t h n=some F) (hm:F.mem=none) (hW:F.W=[]) (ha:F.all=false) (hs:stepC E r ops o t h n=some (v,h',n')) :
    h' = h∧n' = n∧∀ h2 n2,(∀ i∈F.R,h2 i=h i)→stepC E r ops o t h2 n2=some (v,h2,n2)∧fpAt E r ops o t h2 n2=some F:=by
  by_cases hu:wantedA ops t o=some false
  · unfold stepC at hs ⊢
    unfold fpAt at hf ⊢
    simp only[hu] at hs hf ⊢
    cases hs
    exact⟨rfl,rfl,fun _ _ _=>⟨rfl,hf⟩⟩
  · have hD:usesD o.op=false:=by
      cases hd:usesD o.op with
      | false=>rfl
      | true=>
        exfalso
        unfold fpAt at hf
        split at hf
        · unfold fpH at hf
          split at hf
          · rename_i hO
            cases hf
            exact fpOf_W hO hd hW
          · have:=(fpM_out hf).2
            rw[hm] at this
            cases this
        · rename_i hw
          unfold stepC at hs
          cases hwq:wantedA ops t o with
          | none=>rw[hwq] at hs; cases hs
          | some b=>
            cases b with
            | false=>exact hu hwq
            | true=>exact hw hwq
    obtain⟨us,δ,k1,k2,k3,k4,k5,k6⟩:=stepC_local hl hf hm hs
    have hus:us=[]:=by
      cases us with
      | nil=>rfl
      | cons q qs=>have:=k3 q (by simp); rw[hW] at this; simp at this
    subst hus
    have hδ:=k5 hW
    subst hδ
    refine⟨k1,k2,fun h2 n2 hag=>?_⟩
    have hA:Agree F h h2 n n2:=by
      refine⟨fun e=>?_,fun e=>?_,fun id hid=>?_⟩
      · rw[ha] at e; cases e
      · rw[ha] at e; cases e
      · rcases hid with hid | hid
        · exact hag id hid
        · rw[hW] at hid; simp at hid
    refine⟨k6 h2 n2 hA (fun e=>by rw[hD] at e; cases e),?_⟩
    exact fpAt_move hf (fun e=>by rw[hD] at e; cases e) (fun e=>by rw[ha] at e; cases e)
theorem putT_reads {ops:Array Oper} {o:Oper} {t:List AV} {d:Option Tmp} {v:AV} (h:∀ e,d=some e→e∉readsOf ops o):Reads ops o t (putT t d v):=fun j hj=>by
  cases d with
  | none=>rfl
  | some e=>
    have hne:e≠j:=fun he=>h e rfl (he ▸ hj)
    simp only[putT]
    exact (List.getElem?_set_ne hne).symm
theorem putT_comm {t:List AV} {d e:Option Tmp} {v u:AV} (h:∀ a b,d=some a→e=some b→a≠b):putT (putT t d v) e u=putT (putT t e u) d v:=by
  cases d with
  | none=>rfl
  | some a=>cases e with
    | none=>rfl
    | some b=>
      simp only[putT]
      exact List.set_comm _ _ (h a b rfl rfl)
theorem freeOf_out {ops:Array Oper} {a b:Oper} (h:freeOf ops a b=true):(∀ e,a.dst=some e→e∉readsOf ops b)∧(∀ e,b.dst=some e→e∉readsOf ops a)∧∀ d e,a.dst=some d→b.dst=some e→d≠e:=by
  unfold freeOf at h
  simp only[Bool.and_eq_true] at h
  obtain⟨⟨h1,h2⟩,h3⟩:=h
  refine⟨fun e he hm=>?_,fun e he hm=>?_,fun d e hd he hde=>?_⟩
  · rw[he] at h1; simp[List.contains_iff_mem,hm] at h1
  · rw[he] at h2; simp[List.contains_iff_mem,hm] at h2
  · rw[hd,he] at h3; simp[hde] at h3
theorem apart_out {a b:Fp} (ha:a.mem=none) (hb:b.mem=none) (h:a.apart b=true):(∀ i∈a.W,i∉b.R∧i∉b.W)∧(∀ i∈b.W,i∉a.R)∧(b.all=true→a.W=[])∧(a.all=true→b.W=[]):=by
  unfold Fp.apart at h
  rw[ha,hb] at h
  simp only[Bool.and_eq_true,List.all_eq_true,Bool.not_eq_true',Bool.or_eq_true,List.isEmpty_iff] at h
  obtain⟨⟨⟨h1,h2⟩,h3⟩,h4⟩:=h
  refine⟨fun i hi=>⟨fun hm=>?_,fun hm=>?_⟩,fun i hi hm=>?_,fun hb=>?_,fun ha=>?_⟩
  · have:=(h1 i hi).1; simp[List.contains_iff_mem,hm] at this
  · have:=(h1 i hi).2; simp[List.contains_iff_mem,hm] at this
  · have:=h2 i hi; simp[List.contains_iff_mem,hm] at this
  · rcases h3 with h3 | h3
    · exact h3
    · rw[hb] at h3; cases h3
  · rcases h4 with h4 | h4
    · exact h4
    · rw[ha] at h4; cases h4
theorem apart_r {a b:Fp} {x y:AHeap} (ha:a.mem=none) (hb:b.mem=some (x,y)) (h:a.apart b=true):a.W=[]∧a.all=false∧∀ i∈a.R,y i=x i:=by
  unfold Fp.apart at h
  rw[ha,hb] at h
  simp only[Bool.and_eq_true,Bool.not_eq_true',List.isEmpty_iff,decide_eq_true_eq] at h
  exact⟨h.1.1,h.1.2,h.2⟩
theorem apart_l {a b:Fp} {x y:AHeap} (ha:a.mem=some (x,y)) (hb:b.mem=none) (h:a.apart b=true):b.W=[]∧b.all=false∧∀ i∈b.R,y i=x i:=by
  unfold Fp.apart at h
  rw[ha,hb] at h
  simp only[Bool.and_eq_true,Bool.not_eq_true',List.isEmpty_iff,decide_eq_true_eq] at h
  exact⟨h.1.1,h.1.2,h.2⟩
theorem apart_no {a b:Fp} {p q:AHeap × AHeap} (ha:a.mem=some p) (hb:b.mem=some q) (h:a.apart b=true):False:=by
  unfold Fp.apart at h
  rw[ha,hb] at h
  simp at h
theorem commute {E:Env} {r:Rec} {ops:Array Oper} {a b:Oper} {s s1 s2:St} (hfree:freeOf ops a b=true) (hd:(usesD a.op && usesD b.op)=false) {A B:Option Fp}
    (hA:loud a.op=true→fpAt E r ops a s.t s.h s.n=A) (hB:loud b.op=true→fpAt E r ops b s1.t s1.h s1.n=B) (hap:loud a.op=true→loud b.op=true→∃ x y,A=some x∧B=some y∧x.apart y=true)
    (h1:stepOp E r true ops a s=some s1) (h2:stepOp E r true ops b s1=some s2) :
    ∃ s3,stepOp E r true ops b s=some s3∧stepOp E r true ops a s3=some s2∧(loud b.op=true→fpAt E r ops b s.t s.h s.n=B)∧(loud a.op=true→fpAt E r ops a s3.t s3.h s3.n=A):=by
  obtain⟨f1,f2,f3⟩:=freeOf_out hfree
  rw[stepOp_eq] at h1 h2
  obtain⟨⟨va,ha,na⟩,e1,e2⟩:=Option.map_eq_some_iff.1 h1
  obtain⟨⟨vb,hb,nb⟩,e3,e4⟩:=Option.map_eq_some_iff.1 h2
  cases e2
  simp only at e3 e4 hB
  have rb:Reads ops b s.t (putT s.t a.dst va):=putT_reads f1
  have ra:Reads ops a s.t (putT s.t b.dst vb):=putT_reads f2
  rw[← stepC_reads rb] at e3
  have hput:putT (putT s.t a.dst va) b.dst vb=putT (putT s.t b.dst vb) a.dst va:=putT_comm f3
  simp only[stepOp_eq]
  by_cases la:loud a.op=true
  · by_cases lb:loud b.op=true
    · obtain⟨x,y,hx,hy,hxy⟩:=hap la lb
      have hAx:=(hA la).trans hx
      have hBy:fpAt E r ops b s.t ha na=some y:=by rw[fpAt_reads rb]; exact (hB lb).trans hy
      cases mx:x.mem with
      | some px=>cases my:y.mem with
        | some py=>exact (apart_no mx my hxy).elim
        | none=>
          obtain⟨px1,px2⟩:=px
          obtain⟨q1,q2,q3⟩:=apart_l mx my hxy
          obtain⟨rfl,rfl⟩:=fpAt_mem hAx mx e1
          obtain⟨rfl,rfl,l3⟩:=stepC_reader lb hBy my q1 q2 e3
          obtain⟨l4,l5⟩:=l3 s.h s.n (fun i hi=>(q3 i hi).symm)
          refine⟨⟨putT s.t b.dst vb,s.h,s.n⟩,by rw[l4]; rfl,?_,fun _=>?_,fun _=>?_⟩
          · simp only
            rw[← stepC_reads ra,e1,← e4]
            simp only[Option.map_some,Option.some.injEq,St.mk.injEq,and_self,and_true]
            exact hput.symm
          · rw[l5]; exact hy.symm
          · simp only
            rw[← fpAt_reads ra,hAx]; exact hx.symm
      | none=>cases my:y.mem with
      | some py=>
        obtain⟨py1,py2⟩:=py
        obtain⟨q1,q2,q3⟩:=apart_r mx my hxy
        obtain⟨rfl,rfl⟩:=fpAt_mem hBy my e3
        obtain⟨rfl,rfl,l3⟩:=stepC_reader la hAx mx q1 q2 e1
        obtain⟨l4,l5⟩:=l3 py2 nb q3
        refine⟨⟨putT s.t b.dst vb,py2,nb⟩,by rw[e3]; rfl,?_,fun _=>?_,fun _=>?_⟩
        · simp only
          rw[← stepC_reads ra,l4,← e4]
          simp only[Option.map_some,Option.some.injEq,St.mk.injEq,and_self,and_true]
          exact hput.symm
        · rw[hBy]; exact hy.symm
        · simp only
          rw[← fpAt_reads ra,l5]; exact hx.symm
      | none=>
      obtain⟨p1,p2,p3,p4⟩:=apart_out mx my hxy
      obtain⟨ua,da,k1,k2,k3,k4,kW,k5⟩:=stepC_local la hAx mx e1
      obtain⟨ub,db,l1,l2,l3,l4,lW,l5⟩:=stepC_local lb hBy my e3
      have hna:usesD b.op=true→na=s.n:=fun hu=>by
        have:usesD a.op=false:=by simpa[hu] using hd
        rw[k2,k4 this,Nat.add_zero]
      have hnb:usesD a.op=true→s.n + db=s.n:=fun hu=>by
        have:usesD b.op=false:=by simpa[hu] using hd
        rw[l4 this,Nat.add_zero]
      have g1:Agree y ha s.h na s.n:=by
        refine⟨fun hall=>?_,fun hall=>by rw[k2,kW (p3 hall)]; rfl,fun id hid=>?_⟩
        · have hw:=p3 hall
          have:ua=[]:=by
            cases ua with
            | nil=>rfl
            | cons q qs=>have:=k3 q (by simp); rw[hw] at this; simp at this
          rw[k1,this]; rfl
        · rw[k1]
          refine (upd_other fun q hq he=>?_).symm
          have:=p1 q.1 (k3 q hq)
          rw[he] at this
          exact hid.elim this.1 this.2
      have e5:=l5 s.h s.n g1 (fun hu=>(hna hu).symm)
      have g2:Agree x s.h (s.h.upd ub) s.n (s.n + db):=by
        refine⟨fun hall=>?_,fun hall=>by rw[lW (p4 hall)]; rfl,fun id hid=>?_⟩
        · have hw:=p4 hall
          have:ub=[]:=by
            cases ub with
            | nil=>rfl
            | cons q qs=>have:=l3 q (by simp); rw[hw] at this; simp at this
          rw[this]; rfl
        · refine upd_other fun q hq he=>?_
          have hq':=l3 q hq
          rw[he] at hq'
          rcases hid with hid | hid
          · exact p2 _ hq' hid
          · exact (p1 _ hid).2 hq'
      have e6:=k5 (s.h.upd ub) (s.n + db) g2 hnb
      have hheap:hb=(s.h.upd ub).upd ua:=by
        rw[l1,k1]
        funext j
        by_cases hj:∃ q∈ub,q.1=j
        · obtain⟨q,hq,hqj⟩:=hj
          have hno:∀ q'∈ua,q'.1≠j:=fun q' hq' he=>(p1 _ (k3 q' hq')).2 (by rw[he,← hqj]; exact l3 q hq)
          rw[upd_other (h:=s.h.upd ub) hno]
          exact upd_same (upd_other hno)
        · have hno:∀ q'∈ub,q'.1≠j:=fun q' hq' he=>hj ⟨q',hq',he⟩
          rw[upd_other hno]
          exact (upd_same (upd_other hno)).symm
      refine⟨⟨putT s.t b.dst vb,s.h.upd ub,s.n + db⟩,by rw[e5]; rfl,?_,fun _=>?_,fun _=>?_⟩
      · simp only
        rw[← stepC_reads ra,e6,← e4]
        simp only[Option.map_some,Option.some.injEq,St.mk.injEq]
        exact⟨hput.symm,hheap.symm,by rw[l2,k2]; omega⟩
      · rw[fpAt_move hBy (fun hu=>(hna hu).symm) (fun hall=>⟨g1.all hall,g1.alln hall⟩)]; exact hy.symm
      · simp only
        rw[← fpAt_reads ra,fpAt_move hAx hnb (fun hall=>⟨g2.all hall,g2.alln hall⟩)]
        exact hx.symm
    · simp only[Bool.not_eq_true] at lb
      obtain⟨rfl,rfl,k3⟩:=stepC_calm lb e3
      refine⟨⟨putT s.t b.dst vb,s.h,s.n⟩,by rw[k3]; rfl,?_,fun hx=>absurd hx (by simp[lb]),fun _=>?_⟩
      · simp only
        rw[← stepC_reads ra,e1,← e4]
        simp only[Option.map_some,Option.some.injEq,St.mk.injEq,and_self,and_true]
        exact hput.symm
      · simp only
        rw[← hA la]
        exact (fpAt_reads ra _ _).symm
  · simp only[Bool.not_eq_true] at la
    obtain⟨rfl,rfl,k3⟩:=stepC_calm la e1
    refine⟨⟨putT s.t b.dst vb,hb,nb⟩,by rw[e3]; rfl,?_,fun lb=>?_,fun hx=>absurd hx (by simp[la])⟩
    · simp only
      rw[← stepC_reads ra,k3,← e4]
      simp only[Option.map_some,Option.some.injEq,St.mk.injEq,and_self,and_true]
      exact hput.symm
    · rw[← hB lb]; exact fpAt_reads rb _ _
end Go.Vm
/- The abstract evaluator: a drawn region comes to the same in every order. -/
namespace Go.Vm
open Go
def RunL (E:Env) (r:Rec) (ops:Array Oper) (fp:Nat→Option Fp):List Nat→St→St→Prop
  | [],s,s'=>s=s'
  | i :: l,s,s'=>∃ o s1,ops[i]? = some o∧stepOp E r true ops o s=some s1∧(loud o.op=true→fpAt E r ops o s.t s.h s.n=fp i)∧RunL E r ops fp l s1 s'
theorem run_eval {E:Env} {r:Rec} {ops:Array Oper} {fp:Nat→Option Fp}:∀ {l:List Nat} {s s':St},RunL E r ops fp l s s'→evalOps E r true ops l s=some s'
  | [],s,s',h=>by cases h; rfl
  | i :: l,s,s',⟨o,s1,h1,h2,_,h4⟩=>by
    simp only[evalOps,h1,h2]
    exact run_eval h4
theorem run_congr {E:Env} {r:Rec} {ops:Array Oper} {fp fp':Nat→Option Fp}:∀ {l:List Nat} {s s':St},(∀ i∈l,fp i=fp' i)→RunL E r ops fp l s s'→RunL E r ops fp' l s s'
  | [],s,s',_,h=>h
  | i :: l,s,s',hf,⟨o,s1,h1,h2,h3,h4⟩=>⟨o,s1,h1,h2,fun hl=>(h3 hl).trans (hf i (by simp)),run_congr (fun j hj=>hf j (List.mem_cons_of_mem _ hj)) h4⟩
def PairOk (ops:Array Oper) (fp:Nat→Option Fp) (i x:Nat):Prop:=
  waits (ancs ops) x i=true∨∀ a b,ops[i]? = some a→ops[x]? = some b→freeOf ops a b=true∧(usesD a.op && usesD b.op)=false ∧
    (loud a.op=true→loud b.op=true→∃ A B,fp i=some A∧fp x=some B∧A.apart B=true)
theorem run_move {E:Env} {r:Rec} {ops:Array Oper} {fp:Nat→Option Fp} {i:Nat} {ys:List Nat}:∀ {xs:List Nat} {s s':St},(∀ x∈xs,PairOk ops fp i x∧waits (ancs ops) x i=false)→RunL E r ops fp (i :: (xs ++ ys)) s s'→RunL E r ops fp (xs ++ i :: ys) s s'
  | [],s,s',_,h=>h
  | x :: xs,s,s',hx,⟨a,s1,h1,h2,h3,b,s2,k1,k2,k3,k4⟩=>by
    obtain⟨hp,hw⟩:=hx x (by simp)
    rcases hp with hp | hp
    · rw[hw] at hp; cases hp
    · obtain⟨p1,p2,p3⟩:=hp a b h1 k1
      obtain⟨s3,q1,q2,q3,q4⟩:=commute p1 p2 h3 k3 p3 h2 k2
      exact⟨b,s3,k1,q1,q3,run_move (fun y hy=>hx y (List.mem_cons_of_mem _ hy)) ⟨a,s2,h1,q2,q4,k4⟩⟩
theorem run_perm {E:Env} {r:Rec} {ops:Array Oper} {fp:Nat→Option Fp}:∀ {c:List Nat} {s s':St},RunL E r ops fp c s s'→c.Pairwise (PairOk ops fp)→∀ {l:List Nat},l.Perm c→l.Pairwise (fun x y=>waits (ancs ops) x y=false)→RunL E r ops fp l s s'
  | [],s,s',h,_,l,hl,_=>by rw[List.perm_nil.1 hl]; exact h
  | i :: c,s,s',⟨o,s1,h1,h2,h3,h4⟩,hc,l,hl,hw=>by
    have hi:i∈l:=hl.mem_iff.2 (by simp)
    obtain⟨xs,ys,rfl⟩:=List.append_of_mem hi
    have hp:(xs ++ ys).Perm c:=by
      have:=(List.perm_middle (a:=i) (l₁:=xs) (l₂:=ys)).symm.trans hl
      exact List.Perm.cons_inv this
    obtain⟨hc1,hc2⟩:=List.pairwise_cons.1 hc
    have hw2:(xs ++ ys).Pairwise (fun x y=>waits (ancs ops) x y=false):=by
      refine hw.sublist ?_
      exact List.Sublist.append (List.Sublist.refl _) (List.sublist_cons_self _ _)
    refine run_move (fun x hx=>⟨hc1 x (hp.mem_iff.1 (by simp[hx])),?_⟩) ⟨o,s1,h1,h2,h3,run_perm h4 hc2 hp hw2⟩
    exact (List.pairwise_append.1 hw).2.2 x hx i (by simp)
theorem eval_run {E:Env} {r:Rec} {ops:Array Oper}:∀ {l:List Nat} {s s':St},l.Nodup→(∀ i∈l,i < ops.size)→evalOps E r true ops l s=some s'→∃ fp,RunL E r ops fp l s s'
  | [],s,s',_,_,h=>⟨fun _=>none,by cases h; rfl⟩
  | i :: l,s,s',hn,hi,h=>by
    obtain⟨n1,n2⟩:=List.nodup_cons.1 hn
    have ho:ops[i]? = some (ops[i]'(hi i (by simp))):=Array.getElem?_eq_getElem _
    simp only[evalOps,ho] at h
    generalize ops[i]'(hi i (by simp))=o at ho h
    cases hs:stepOp E r true ops o s with
    | none=>rw[hs] at h; cases h
    | some s1=>
      rw[hs] at h
      obtain⟨fp,hr⟩:=eval_run n2 (fun j hj=>hi j (List.mem_cons_of_mem _ hj)) h
      refine⟨fun j=>if j=i then fpAt E r ops o s.t s.h s.n else fp j,o,s1,ho,hs,fun _=>by simp,run_congr (fun j hj=>?_) hr⟩
      have:j≠i:=fun e=>n1 (e ▸ hj)
      simp[this]
theorem trace_run {E:Env} {r:Rec} {ops:Array Oper}:∀ {l:List Nat} {s s':St} {fps:List (Option Fp)},l.Nodup→traceOps E r ops l s=some (fps,s')→∃ fp,RunL E r ops fp l s s'∧fps=l.map fp
  | [],s,s',fps,_,h=>⟨fun _=>none,by cases h; exact⟨rfl,rfl⟩⟩
  | i :: l,s,s',fps,hn,h=>by
    obtain⟨n1,n2⟩:=List.nodup_cons.1 hn
    simp only[traceOps] at h
    cases ho:ops[i]? with
    | none=>rw[ho] at h; cases h
    | some o=>
      rw[ho] at h
      simp only at h
      cases hs:stepOp E r true ops o s with
      | none=>rw[hs] at h; cases h
      | some s1=>
        rw[hs] at h
        simp only at h
        cases ht:traceOps E r ops l s1 with
        | none=>rw[ht] at h; cases h
        | some q=>
          obtain⟨fs,s2⟩:=q
          rw[ht] at h
          simp only[Option.some.injEq,Prod.mk.injEq] at h
          obtain⟨h1,rfl⟩:=h
          obtain⟨fp,hr,he⟩:=trace_run n2 ht
          refine⟨fun j=>if j=i then fpAt E r ops o s.t s.h s.n else fp j,⟨o,s1,ho,hs,fun _=>by simp,run_congr (fun j hj=>?_) hr⟩,?_⟩
          · have:j≠i:=fun e=>n1 (e ▸ hj)
            simp[this]
          · rw[← h1,he]
            simp only[List.map_cons,if_true,List.cons.injEq]
            refine⟨rfl,List.map_congr_left fun j hj=>?_⟩
            have:j≠i:=fun e=>n1 (e ▸ hj)
            simp[this]
theorem allOrdered_pair {an:List Nat}:∀ {l:List Nat},allOrdered an l=true→l.Pairwise (fun i j=>waits an j i=true)
  | [],_=>.nil
  | i :: is,h=>by
    simp only[allOrdered,Bool.and_eq_true,List.all_eq_true] at h
    exact List.pairwise_cons.2 ⟨h.1,allOrdered_pair h.2⟩
theorem pairsOk_pair {an:List Nat} {fps:List (Option Fp)}:∀ {l:List Nat},pairsOk an fps l=true→l.Pairwise (fun i j=>waits an j i=true∨mayApart fps[i]? fps[j]? = true)
  | [],_=>.nil
  | i :: is,h=>by
    simp only[pairsOk,Bool.and_eq_true,List.all_eq_true,Bool.or_eq_true] at h
    exact List.pairwise_cons.2 ⟨h.1,pairsOk_pair h.2⟩
theorem filter_pair {n:Nat} {p:Nat→Bool} {R:Nat→Nat→Prop} (h:((List.range n).filter p).Pairwise R) {i j:Nat} (hij:i < j) (hj:j < n) (pi:p i=true) (pj:p j=true):R i j:=by
  have h1:List.range n=List.range j ++ (List.range' j (n - j)):=by
    rw[List.range_eq_range',List.range_eq_range']
    have:n=j + (n - j):=by omega
    conv=>lhs; rw[this]
    rw[← List.range'_append_1]; simp
  rw[h1,List.filter_append] at h
  refine (List.pairwise_append.1 h).2.2 i ?_ j ?_
  · simp[hij,pi]
  · simp only[List.mem_filter,List.mem_range'_1,pj,and_true]; omega
theorem regOk_pair {ops:Array Oper} (h:regOk ops=true) {i j:Nat} (hij:i < j) (hj:j < ops.size) {a b:Oper} (ha:ops[i]? = some a) (hb:ops[j]? = some b):waits (ancs ops) j i=true∨(freeOf ops a b=true∧(usesD a.op && usesD b.op)=false):=by
  simp only[regOk,Bool.and_eq_true,List.all_eq_true,List.mem_range,Bool.or_eq_true] at h
  have:=h.2 j hj i hij
  rw[ha,hb] at this
  simpa only [Bool.and_eq_true,Bool.not_eq_true'] using this
theorem drawOk_all {E:Env} (r:Rec):DrawOk E r:=by
  intro ops s s' m t hreg he
  obtain⟨w1,w2,w3⟩:=schedule_ok hreg m t
  have hperm:(Region.schedule m ops t).Perm (List.range ops.size):=(List.perm_ext_iff_of_nodup w1 List.nodup_range).2 fun i=>by rw[w2,List.mem_range]
  have hsorted:(List.range ops.size).Pairwise (fun i j=>i < j∧j < ops.size):=by
    have h1:(List.range ops.size).Pairwise (· < ·):=List.pairwise_lt_range
    exact h1.imp_of_mem fun {i j} hi hj h=>⟨h,List.mem_range.1 hj⟩
  unfold evalDraw at he
  simp only at he
  split at he
  · rename_i hall
    obtain⟨fp,hr⟩:=eval_run List.nodup_range (fun i hi=>List.mem_range.1 hi) he
    refine run_eval (run_perm hr (hsorted.imp fun {i j} hij=>?_) hperm w3)
    by_cases hw:waits (ancs ops) j i=true
    · exact .inl hw
    · refine .inr fun a b ha hb=>?_
      have hp:=(regOk_pair hreg hij.1 hij.2 ha hb).resolve_left hw
      refine⟨hp.1,hp.2,fun la lb=>absurd (filter_pair (allOrdered_pair hall) hij.1 hij.2 ?_ ?_) hw⟩
      · simp only[ha,la]
      · simp only[hb,lb]
  · split at he
    · rename_i fps s2 htr
      split at he
      · rename_i hpairs
        cases he
        obtain⟨fp,hr,hfps⟩:=trace_run List.nodup_range htr
        refine run_eval (run_perm hr (hsorted.imp fun {i j} hij=>?_) hperm w3)
        by_cases hw:waits (ancs ops) j i=true
        · exact .inl hw
        · refine .inr fun a b ha hb=>?_
          have hp:=(regOk_pair hreg hij.1 hij.2 ha hb).resolve_left hw
          refine⟨hp.1,hp.2,fun la lb=>?_⟩
          have hm:=(filter_pair (pairsOk_pair hpairs) hij.1 hij.2 (by simp only[ha,la]) (by simp only[hb,lb])).resolve_left hw
          have gi:fps[i]? = some (fp i):=by rw[hfps,List.getElem?_map,List.getElem?_range (by omega)]; rfl
          have gj:fps[j]? = some (fp j):=by rw[hfps,List.getElem?_map,List.getElem?_range hij.2]; rfl
          rw[gi,gj] at hm
          unfold mayApart at hm
          split at hm
          · rename_i A B e1 e2
            injection e1 with e1
            injection e2 with e2
            exact⟨A,B,e1,e2,hm⟩
          · cases hm
      · cases he
    · cases he
end Go.Vm
/- The abstract evaluator: more fuel, the same answer; and the evaluator without fuel. -/
namespace Go.Vm
open Go
structure Rec.le (r r':Rec):Prop where
  call:∀ {f a h n v},r.call f a h n=some v→r'.call f a h n=some v
  code:∀ {c s v},r.code c s=some v→r'.code c s=some v
theorem Rec.le.rfl' {r:Rec}:Rec.le r r:=⟨id,id⟩
theorem Rec.le.trans {a b c:Rec} (h:Rec.le a b) (k:Rec.le b c):Rec.le a c:=⟨fun e=>k.call (h.call e),fun e=>k.code (h.code e)⟩
section
variable {E:Env} {r r':Rec} (hr:Rec.le r r')
include hr
theorem callFn_mono {g:FuncId} {vs:List AV} {h:AHeap} {n:Nat} {q:AV × AHeap × Nat} (hc:callFn E r g vs h n=some q):callFn E r' g vs h n=some q:=by
  unfold callFn at hc ⊢
  split at hc
  · exact hc
  · split at hc
    · rename_i hpf
      rw[if_pos hpf]
      split at hc
      · rename_i vs' b hs
        split at hc
        · rename_i u h3 n3 hcl
          rw[hr.call hcl]
          exact hc
        · cases hc
      · cases hc
    · rename_i hpf
      rw[if_neg hpf]
      exact hr.call hc
theorem roundOf_mono {l:Nat} {vs:List AV} {h:AHeap} {n:Nat} {q:AV × AHeap × Nat} (hc:roundOf r l vs h n=some q):roundOf r' l vs h n=some q:=by
  unfold roundOf at hc ⊢
  split at hc
  · rename_i R hl
    split at hc
    · rename_i hcond
      rw[if_pos hcond]
      split at hc
      · rename_i s1 ha
        rw[hr.code ha]
        simp only
        split at hc
        · rename_i R1 hl1
          split at hc
          · rename_i hst
            rw[if_pos hst]
            split at hc
            · rename_i x s2 hb
              rw[hr.code hb]
              exact hc
            · cases hc
          · cases hc
        · cases hc
      · cases hc
    · cases hc
  · cases hc
theorem callOf_mono {t:List AV} {h:AHeap} {n:Nat} {f:Operand} {args:List Operand} {q:AV × AHeap × Nat} (hc:callOf E r t h n f args=some q):callOf E r' t h n f args=some q:=by
  unfold callOf at hc ⊢
  split at hc
  · exact callFn_mono hr hc
  · exact roundOf_mono hr hc
  · cases hc
theorem stepOp_mono {dr:Bool} {ops:Array Oper} {o:Oper} {s s':St} (hc:stepOp E r dr ops o s=some s'):stepOp E r' dr ops o s=some s':=by
  unfold stepOp at hc ⊢
  split at hc
  · cases hc
  · exact hc
  · split at hc
    · split at hc
      · rename_i he
        rw[callOf_mono hr he]
        exact hc
      · cases hc
    · exact hc
    · exact hc
    · exact hc
theorem fpH_le {ops:Array Oper} {o:Oper} {s s':St} (hc:stepOp E r true ops o s=some s'):(match wantedA ops s.t o with | some true=>fpH E r o.op s.t s.h s.n | _=>some fp0)=(match wantedA ops s.t o with | some true=>fpH E r' o.op s.t s.h s.n | _=>some fp0):=by
  cases hw:wantedA ops s.t o with
  | none=>rfl
  | some b=>
    cases b with
    | false=>rfl
    | true=>
      simp only
      unfold fpH
      have:fpM E r o.op s.t s.h s.n=fpM E r' o.op s.t s.h s.n:=by
        unfold fpM
        split
        · rename_i f args ats hop
          unfold stepOp at hc
          rw[hw,hop] at hc
          simp only at hc
          cases hcl:callOf E r s.t s.h s.n f args.toList with
          | none=>rw[hcl] at hc; cases hc
          | some q=>rw[callOf_mono hr hcl]
        · rfl
      rw[this]
theorem evalOps_mono {dr:Bool} {ops:Array Oper}:∀ {l:List Nat} {s s':St},evalOps E r dr ops l s=some s'→evalOps E r' dr ops l s=some s'
  | [],s,s',h=>h
  | i :: l,s,s',h=>by
    simp only[evalOps] at h ⊢
    split at h
    · exact evalOps_mono h
    · split at h
      · rename_i hs
        rw[stepOp_mono hr hs]
        exact evalOps_mono h
      · cases h
theorem traceOps_mono {ops:Array Oper}:∀ {l:List Nat} {s:St} {q:List (Option Fp) × St},traceOps E r ops l s=some q→traceOps E r' ops l s=some q
  | [],s,q,h=>h
  | i :: l,s,q,h=>by
    simp only[traceOps] at h ⊢
    split at h
    · cases h
    · split at h
      · rename_i hs
        rw[stepOp_mono hr hs]
        simp only
        split at h
        · rename_i l2 s2 ht
          rw[traceOps_mono ht]
          exact (congrArg (fun z=>some (z :: l2,s2)) (fpH_le hr hs)).symm.trans h
        · cases h
      · cases h
theorem evalDraw_mono {ops:Array Oper} {s s':St} (h:evalDraw E r ops s=some s'):evalDraw E r' ops s=some s':=by
  unfold evalDraw at h ⊢
  simp only at h ⊢
  split at h
  · rename_i ha
    rw[if_pos ha]
    exact evalOps_mono hr h
  · rename_i ha
    rw[if_neg ha]
    split at h
    · rename_i ht
      rw[traceOps_mono hr ht]
      exact h
    · cases h
omit hr in
theorem iter_mono {f f':St→Option (AX × St)} (hf:∀ s q,f s=some q→f' s=some q):∀ {k k':Nat} {s:St} {q:AX × St},k≤k'→iter k f s=some q→iter k' f' s=some q
  | 0,_,_,_,_,h=>by cases h
  | k + 1,0,_,_,hk,_=>by omega
  | k + 1,k' + 1,s,q,hk,h=>by
    simp only[iter] at h ⊢
    split at h
    · rename_i s1 hs
      rw[hf _ _ hs]
      exact iter_mono hf (by omega) h
    · rename_i hs
      rw[hf _ _ h]
      split
      · rename_i s1 he
        cases he
        exact absurd h (hs _)
      · rfl
theorem evalC_mono:∀ (c:Code) {k k':Nat} {s:St} {q:AX × St},k≤k'→evalC E r k c s=some q→evalC E r' k' c s=some q
  | .skip,_,_,_,_,_,h=>h
  | .region p ops draw,k,k',s,q,hk,h=>by
    simp only[evalC] at h ⊢
    split at h
    · rename_i s1 hs
      have:(if draw=true then evalDraw E r' ops s else evalOps E r' (argLit E ops) ops (List.range ops.size) s)=some s1:=by
        split at hs
        · rename_i hd; rw[if_pos hd]; exact evalDraw_mono hr hs
        · rename_i hd; rw[if_neg hd]; exact evalOps_mono hr hs
      rw[this]
      exact h
    · cases h
  | .seq a b,k,k',s,q,hk,h=>by
    simp only[evalC] at h ⊢
    split at h
    · rename_i s1 hs
      rw[evalC_mono a hk hs]
      exact evalC_mono b hk h
    · rename_i hs
      rw[evalC_mono a hk h]
      split
      · rename_i s1 he
        cases he
        exact absurd h (hs _)
      · rfl
  | .cond c x y,k,k',s,q,hk,h=>by
    simp only[evalC] at h ⊢
    split at h
    · exact evalC_mono x hk h
    · exact evalC_mono y hk h
    · cases h
  | .block id b,k,k',s,q,hk,h=>by
    simp only[evalC] at h ⊢
    split at h
    · rename_i hs
      rw[evalC_mono b hk hs]
      exact h
    · rename_i hs
      rw[evalC_mono b hk h]
      split
      · rename_i i s1 he
        cases he
        exact absurd h (hs _ _)
      · rfl
  | .loop b,k,k',s,q,hk,h=>by
    simp only[evalC] at h ⊢
    exact iter_mono (fun s q hs=>evalC_mono b hk hs) hk h
  | .rangeFunc f ps asg body,k,k',s,q,hk,h=>by
    simp only[evalC] at h ⊢
    split at h
    · split at h
      · rename_i he
        rw[hr.call he]
        exact h
      · cases h
    · cases h
  | .exit _,_,_,_,_,_,h=>h
  | .ret,_,_,_,_,_,h=>h
  | .label _,_,_,_,_,_,h=>h
  | .goto _,_,_,_,_,_,h=>h
  | .scope b,k,k',s,q,hk,h=>by
    simp only[evalC] at h ⊢
    split at h
    · cases h
    · rename_i hs
      rw[evalC_mono b hk h]
      split
      · rename_i he
        cases he
        exact absurd h (hs _ _)
      · rfl
  | .refuse _,_,_,_,_,_,h=>by simp only[evalC] at h; cases h
end
theorem callAt_mono {E:Env} {f f':Code→St→Option (AX × St)} (hf:∀ c s q,f c s=some q→f' c s=some q) {g:FuncId} {a:List AV} {h:AHeap} {n:Nat} {q:AV × AHeap × Nat} (hc:callAt E f g a h n=some q):callAt E f' g a h n=some q:=by
  unfold callAt at hc ⊢
  split at hc
  · exact hc
  split at hc
  · split at hc
    · split at hc
      · rename_i he
        rw[hf _ _ _ he]
        exact hc
      · rename_i he
        rw[hf _ _ _ he]
        exact hc
      · cases hc
    · cases hc
  · cases hc
theorem mk_step (E:Env):∀ k,Rec.le (mk E k) (mk E (k + 1))
  | 0=>by
    constructor
    · intro f a h n v e; cases e
    · intro c s v e; cases e
  | k + 1=>by
    constructor
    · intro f a h n v e
      exact callAt_mono (f:=evalC E (mk E k) k) (f':=evalC E (mk E (k + 1)) (k + 1)) (fun c s q hs=>evalC_mono (mk_step E k) c (Nat.le_succ _) hs) e
    · intro c s v e
      exact evalC_mono (k:=k) (k':=k + 1) (mk_step E k) c (Nat.le_succ _) e
theorem mk_mono (E:Env) {k k':Nat} (hk:k≤k'):Rec.le (mk E k) (mk E k'):=by
  induction hk with
  | refl=>exact Rec.le.rfl'
  | step _ ih=>exact ih.trans (mk_step E _)
open Classical in
noncomputable def limO {α:Type} (f:Nat→Option α):Option α:=if h:∃ k v,f k=some v then some (Classical.choose (Classical.choose_spec h)) else none
theorem limO_some {α:Type} {f:Nat→Option α} (hm:∀ k k' v,k≤k'→f k=some v→f k' = some v) {v:α}:limO f=some v↔∃ k,f k=some v:=by
  unfold limO
  constructor
  · intro h
    split at h
    · rename_i hex
      cases h
      exact⟨_,Classical.choose_spec (Classical.choose_spec hex)⟩
    · cases h
  · rintro⟨k,hk⟩
    have hex:∃ k v,f k=some v:=⟨k,v,hk⟩
    rw[dif_pos hex]
    have h2:=Classical.choose_spec (Classical.choose_spec hex)
    have h3:=hm _ (max k (Classical.choose hex)) _ (Nat.le_max_right _ _) h2
    have h4:=hm _ (max k (Classical.choose hex)) _ (Nat.le_max_left _ _) hk
    rw[h4] at h3
    exact h3.symm
noncomputable def rinf (E:Env):Rec:=⟨fun f a h n=>limO fun k=>(mk E k).call f a h n,fun c s=>limO fun k=>(mk E k).code c s⟩
theorem rinf_call {E:Env} {f:FuncId} {a:List AV} {h:AHeap} {n:Nat} {q:AV × AHeap × Nat}:(rinf E).call f a h n=some q↔∃ k,(mk E k).call f a h n=some q:=
  limO_some (fun _ _ _ hk e=>(mk_mono E hk).call e)
theorem rinf_code {E:Env} {c:Code} {s:St} {q:AX × St}:(rinf E).code c s=some q↔∃ k,(mk E k).code c s=some q:=
  limO_some (fun _ _ _ hk e=>(mk_mono E hk).code e)
theorem mk_rinf (E:Env) (k:Nat):Rec.le (mk E k) (rinf E):=⟨fun h=>rinf_call.2 ⟨k,h⟩,fun h=>rinf_code.2 ⟨k,h⟩⟩
section
variable {E:Env}
theorem callFn_cont {g:FuncId} {vs:List AV} {h:AHeap} {n:Nat} {q:AV × AHeap × Nat} (hc:callFn E (rinf E) g vs h n=some q):∃ k,callFn E (mk E k) g vs h n=some q:=by
  unfold callFn at hc
  split at hc
  · rename_i p hp
    exact⟨0,by unfold callFn; rw[hp]; exact hc⟩
  · rename_i hp
    split at hc
    · rename_i hpf
      split at hc
      · rename_i vs' b hs
        split at hc
        · rename_i u h3 n3 hcl
          obtain⟨k,hk⟩:=rinf_call.1 hcl
          exact⟨k,by unfold callFn; rw[hp]; simp only[hpf,if_true,hs,hk]; exact hc⟩
        · cases hc
      · cases hc
    · rename_i hpf
      obtain⟨k,hk⟩:=rinf_call.1 hc
      exact⟨k,by unfold callFn; rw[hp]; simp only[hpf,if_false,Bool.false_eq_true]; exact hk⟩
theorem roundOf_cont {l:Nat} {vs:List AV} {h:AHeap} {n:Nat} {q:AV × AHeap × Nat} (hc:roundOf (rinf E) l vs h n=some q):∃ k,roundOf (mk E k) l vs h n=some q:=by
  unfold roundOf at hc
  split at hc
  · rename_i R hl
    split at hc
    · rename_i hcond
      split at hc
      · rename_i s1 ha
        split at hc
        · rename_i R1 hl1
          split at hc
          · rename_i hst
            split at hc
            · rename_i x s2 hb
              obtain⟨k1,h1⟩:=rinf_code.1 ha
              obtain⟨k2,h2⟩:=rinf_code.1 hb
              have h1':=(mk_mono E (Nat.le_max_left k1 k2)).code h1
              have h2':=(mk_mono E (Nat.le_max_right k1 k2)).code h2
              exact⟨max k1 k2,by unfold roundOf; simp only[hl,if_pos hcond,h1',hl1,if_pos hst,h2']; exact hc⟩
            · cases hc
          · cases hc
        · cases hc
      · cases hc
    · cases hc
  · cases hc
theorem callOf_cont {t:List AV} {h:AHeap} {n:Nat} {f:Operand} {args:List Operand} {q:AV × AHeap × Nat} (hc:callOf E (rinf E) t h n f args=some q):∃ k,callOf E (mk E k) t h n f args=some q:=by
  unfold callOf at hc ⊢
  split at hc
  · exact callFn_cont hc
  · exact roundOf_cont hc
  · cases hc
theorem stepOp_nocall {r r':Rec} {dr:Bool} {ops:Array Oper} {o:Oper} {s:St} (hn:∀ f args ats,o.op ≠ .call ⟨.value f,args,ats⟩):stepOp E r dr ops o s=stepOp E r' dr ops o s:=by
  unfold stepOp
  cases hop:o.op with
  | call c=>
    obtain⟨callee,args,ats⟩:=c
    cases callee with
    | value f=>exact absurd hop (hn f args ats)
    | _=>rfl
  | _=>rfl
theorem stepOp_cont {dr:Bool} {ops:Array Oper} {o:Oper} {s s':St} (hc:stepOp E (rinf E) dr ops o s=some s'):∃ k,stepOp E (mk E k) dr ops o s=some s':=by
  by_cases hn:∀ f args ats,o.op ≠ .call ⟨.value f,args,ats⟩
  · exact⟨0,(stepOp_nocall hn).trans hc⟩
  · simp only[Classical.not_forall,Classical.not_not] at hn
    obtain⟨f,args,ats,hop⟩:=hn
    unfold stepOp at hc
    split at hc
    · cases hc
    · rename_i hw
      exact⟨0,by unfold stepOp; rw[hw]; exact hc⟩
    · rename_i hw
      simp only[hop] at hc
      split at hc
      · rename_i he
        obtain⟨k,hk⟩:=callOf_cont he
        exact⟨k,by unfold stepOp; rw[hw]; simp only[hop,hk]; exact hc⟩
      · cases hc
theorem evalOps_cont {dr:Bool} {ops:Array Oper}:∀ {l:List Nat} {s s':St},evalOps E (rinf E) dr ops l s=some s'→∃ k,evalOps E (mk E k) dr ops l s=some s'
  | [],s,s',h=>⟨0,h⟩
  | i :: l,s,s',h=>by
    simp only[evalOps] at h ⊢
    split at h
    · exact evalOps_cont h
    · split at h
      · rename_i hs
        obtain⟨k1,h1⟩:=stepOp_cont hs
        obtain⟨k2,h2⟩:=evalOps_cont h
        refine⟨max k1 k2,?_⟩
        rw[stepOp_mono (mk_mono E (Nat.le_max_left k1 k2)) h1]
        exact evalOps_mono (mk_mono E (Nat.le_max_right k1 k2)) h2
      · cases h
theorem traceOps_cont {ops:Array Oper}:∀ {l:List Nat} {s:St} {q:List (Option Fp) × St},traceOps E (rinf E) ops l s=some q→∃ k,traceOps E (mk E k) ops l s=some q
  | [],s,q,h=>⟨0,h⟩
  | i :: l,s,q,h=>by
    simp only[traceOps] at h ⊢
    split at h
    · cases h
    · split at h
      · rename_i hs
        split at h
        · rename_i l2 s2 ht
          obtain⟨k1,h1⟩:=stepOp_cont hs
          obtain⟨k2,h2⟩:=traceOps_cont ht
          refine⟨max k1 k2,?_⟩
          rw[stepOp_mono (mk_mono E (Nat.le_max_left k1 k2)) h1]
          simp only
          rw[traceOps_mono (mk_mono E (Nat.le_max_right k1 k2)) h2]
          exact (congrArg (fun z=>some (z :: l2,s2)) (fpH_le (r:=mk E (max k1 k2)) (mk_rinf E _) (stepOp_mono (mk_mono E (Nat.le_max_left k1 k2)) h1))).trans h
        · cases h
      · cases h
theorem evalDraw_cont {ops:Array Oper} {s s':St} (h:evalDraw E (rinf E) ops s=some s'):∃ k,evalDraw E (mk E k) ops s=some s':=by
  unfold evalDraw at h ⊢
  simp only at h ⊢
  split at h
  · rename_i ha
    simp only[if_pos ha]
    exact evalOps_cont h
  · rename_i ha
    simp only[if_neg ha]
    split at h
    · rename_i ht
      obtain⟨k,hk⟩:=traceOps_cont ht
      exact⟨k,by rw[hk]; exact h⟩
    · cases h
end
end Go.Vm
/- The abstract evaluator: code made light, and what holds behind it. -/
namespace Go.Vm
open Go
structure LO where
  dst:Option Tmp
  op:Op
  type:TypeId
  g:Option (Tmp × Bool)
def LO.oper (o:LO):Oper:={ dst:=o.dst,op:=o.op,type:=o.type,pos:= "",after:=#[],guard:=none }
inductive LC where
  | skip
  | reg (lit:Bool) (ops:List LO)
  | full (ops:Array Oper)
  | seq (a b:LC)
  | cond (c:Operand) (a b:LC)
  | block (id:Nat) (a:LC)
  | loop (a:LC)
  | rng (f:Operand) (ps:List Tmp) (asg body:Code)
  | exit (id:Nat)
  | ret
  | label
  | goto (l:Nat)
  | scope (a:LC)
def readerOp (E:Env):Op→Bool
  | .load ..=>true
  | .lookup ..=>true
  | .call { callee:=.value (.func g),.. }=>(E.prim g).isSome || E.pf g
  | _=>false
def pairsRead (E:Env) (ops:Array Oper) (an:List Nat):List Nat→Bool
  | []=>true
  | i :: is=>is.all (fun j=>waits an j i || (match ops[i]?,ops[j]? with | some a,some b=>readerOp E a.op && readerOp E b.op | _,_=>false)) && pairsRead E ops an is
def lowG (ops:Array Oper) (o:Oper):Option (Option (Tmp × Bool)):=
  match o.guard with
  | none=>some none
  | some (j,want)=>match (ops[j]?).bind (·.dst) with
    | some d=>some (some (d,want))
    | none=>none
def lowOps (ops:Array Oper):List Oper→Option (List LO)
  | []=>some []
  | o :: os=>match lowG ops o,lowOps ops os with
    | some g,some l=>some (⟨o.dst,o.op,o.type,g⟩ :: l)
    | _,_=>none
def lower (E:Env):Code→Option LC
  | .skip=>some .skip
  | .region _ ops draw=>
    if draw then
      if allOrdered (ancs ops) (loudIx ops) || pairsRead E ops (ancs ops) (loudIx ops) then (lowOps ops ops.toList).map (.reg true) else some (.full ops)
    else (lowOps ops ops.toList).map (.reg (argLit E ops))
  | .seq a b=>match lower E a,lower E b with
    | some x,some y=>some (.seq x y)
    | _,_=>none
  | .cond c a b=>match lower E a,lower E b with
    | some x,some y=>some (.cond c x y)
    | _,_=>none
  | .block id a=>(lower E a).map (.block id)
  | .loop a=>(lower E a).map .loop
  | .rangeFunc f ps asg body=>some (.rng f ps.toList asg body)
  | .exit id=>some (.exit id)
  | .ret=>some .ret
  | .label _=>some .label
  | .goto l=>some (.goto l)
  | .scope a=>(lower E a).map .scope
  | _=>none
noncomputable def stepG (E:Env) (lit:Bool) (o:LO) (s:St):Option St:=
  match o.op with
  | .call { callee:=.value f,args,.. }=>
    match callOf E (rinf E) s.t s.h s.n f args.toList with
    | some (v,h',n')=>some ⟨putT s.t o.dst v,h',n'⟩
    | none=>none
  | .buildSlice ty len ps=>
    if lit && !(ownLit ty len ps.toList) then match litOf E.P s.t ty len ps.toList with
      | some v=>some ⟨putT s.t o.dst v,s.h,s.n⟩
      | none=>none
    else match aop E.P o.oper s.t s.h s.n with
      | some (v,us)=>some ⟨putT s.t o.dst v,s.h.upd us,s.n + 1⟩
      | none=>none
  | .box e x=>
    if E.fbox e x o.dst then match boxLit s.t x with
      | some v=>some ⟨putT s.t o.dst v,s.h,s.n⟩
      | none=>none
    else match aop E.P o.oper s.t s.h s.n with
      | some (v,us)=>some ⟨putT s.t o.dst v,s.h.upd us,s.n + 1⟩
      | none=>none
  | _=>
    match aop E.P o.oper s.t s.h s.n with
    | some (v,us)=>some ⟨putT s.t o.dst v,s.h.upd us,if usesN o.op then s.n + 1 else s.n⟩
    | none=>none
noncomputable def stepL (E:Env) (lit:Bool) (o:LO) (s:St):Option St:=
  match o.g with
  | none=>stepG E lit o s
  | some (d,want)=>match s.t[d]? with
    | some (.s (.bool b))=>if b=want then stepG E lit o s else some { s with t:=putT s.t o.dst (.s undef) }
    | some (.s (.tuple _))=>some { s with t:=putT s.t o.dst (.s undef) }
    | _=>none
def wpR (E:Env) (lit:Bool):List LO→St→(St→Prop)→Prop
  | [],s,Q=>Q s
  | o :: l,s,Q=>∃ s',stepL E lit o s=some s'∧wpR E lit l s' Q
def wpLoop (F:St→(AX→St→Prop)→Prop) (Q:AX→St→Prop):Nat→St→Prop
  | 0,_=>False
  | m + 1,s=>F s fun x s'=>match x with
    | .normal=>wpLoop F Q m s'
    | x=>Q x s'
def wp (E:Env):LC→St→(AX→St→Prop)→Prop
  | .skip,s,Q=>Q .normal s
  | .reg lit ops,s,Q=>wpR E lit ops s (Q .normal)
  | .full ops,s,Q=>∃ s',evalDraw E (rinf E) ops s=some s'∧Q .normal s'
  | .seq a b,s,Q=>wp E a s fun x s'=>match x with
    | .normal=>wp E b s' Q
    | x=>Q x s'
  | .cond c a b,s,Q=>match (opnd s.t c).bind asBool? with
    | some true=>wp E a s Q
    | some false=>wp E b s Q
    | none=>False
  | .block id a,s,Q=>wp E a s fun x s'=>match x with
    | .exit i=>if i=id then Q .normal s' else Q (.exit i) s'
    | x=>Q x s'
  | .loop a,s,Q=>∃ m,wpLoop (wp E a) Q m s
  | .rng f ps asg body,s,Q=>∃ g caps v h2 n2 R,opnd s.t f=some (.fn g caps) ∧
      (rinf E).call g (.yld s.n :: caps) (s.h.put s.n (some (.loop { state:=.ready,pending:=none,tmps:=s.t,params:=ps,assign:=asg,body:=body }))) (s.n + 1)=some (v,h2,n2) ∧
      h2 s.n=some (.loop R)∧R.state ≠ .busy ∧
      match R.pending with
      | none=>Q .normal ⟨s.t,h2.put s.n none,n2⟩
      | some .ret=>Q .ret ⟨s.t,h2.put s.n none,n2⟩
      | some (.exit id)=>Q (.exit id) ⟨s.t,h2.put s.n none,n2⟩
      | some (.goto l)=>Q (.goto l) ⟨s.t,h2.put s.n none,n2⟩
      | _=>False
  | .exit id,s,Q=>Q (.exit id) s
  | .ret,s,Q=>Q .ret s
  | .label,s,Q=>Q .normal s
  | .goto l,s,Q=>Q (.goto l) s
  | .scope a,s,Q=>wp E a s fun x s'=>match x with
    | .goto _=>False
    | x=>Q x s'
theorem aop_oper (P:Program) (o:Oper) (g:Option (Tmp × Bool)) (t:List AV) (h:AHeap) (n:Nat):aop P (LO.oper ⟨o.dst,o.op,o.type,g⟩) t h n=aop P o t h n:=by
  have hp:∀ ρ,pureOp P ρ (LO.oper ⟨o.dst,o.op,o.type,g⟩)=pureOp P ρ o:=fun ρ=>rfl
  unfold aop
  simp only[hp]
  rfl
theorem stepG_eq (E:Env) (lit:Bool) (ops:Array Oper) (o:Oper) (g:Option (Tmp × Bool)) (s:St) (hw:wantedA ops s.t o=some true):stepG E lit ⟨o.dst,o.op,o.type,g⟩ s=stepOp E (rinf E) lit ops o s:=by
  unfold stepG stepOp
  rw[hw]
  simp only[aop_oper]
  generalize o.op=p
  cases p with
  | call c=>
    obtain⟨callee,args,ats⟩:=c
    cases callee <;> rfl
  | _=>rfl
theorem stepL_eq {E:Env} {lit:Bool} {ops:Array Oper} {o:Oper} {g:Option (Tmp × Bool)} (hg:lowG ops o=some g) {s s':St} (h:stepL E lit ⟨o.dst,o.op,o.type,g⟩ s=some s'):stepOp E (rinf E) lit ops o s=some s':=by
  unfold lowG at hg
  unfold stepL at h
  cases hgo:o.guard with
  | none=>
    rw[hgo] at hg
    cases hg
    simp only at h
    rw[← stepG_eq (g:=none) (hw:=by unfold wantedA; rw[hgo])]
    exact h
  | some q=>
    obtain⟨j,want⟩:=q
    rw[hgo] at hg
    simp only at hg
    cases hd:(ops[j]?).bind (·.dst) with
    | none=>rw[hd] at hg; cases hg
    | some d=>
      rw[hd] at hg
      cases hg
      simp only at h
      split at h
      · rename_i b hb
        have hw:wantedA ops s.t o=some (b == want):=by unfold wantedA; rw[hgo]; simp only[hd,hb]
        split at h
        · rename_i hbw
          rw[← stepG_eq (g:=some (d,want)) (hw:=by rw[hw,hbw]; simp)]
          exact h
        · rename_i hbw
          have:(b == want)=false:=by simpa using hbw
          unfold stepOp
          rw[hw,this]
          exact h
      · rename_i b hb
        have hw:wantedA ops s.t o=some false:=by unfold wantedA; rw[hgo]; simp only[hd,hb]
        unfold stepOp
        rw[hw]
        exact h
      · cases h
theorem evalOps_drop {E:Env} {r:Rec} {lit:Bool} {ops:Array Oper}:∀ {l:List Oper} {i:Nat} {s:St},(∀ j,l[j]? = ops[i + j]?)→∀ {L:List LO} {Q:St→Prop},lowOps ops l=some L→wpR E lit L s Q→∃ s',evalOps E (rinf E) lit ops (List.range' i l.length) s=some s'∧Q s'
  | [],i,s,_,L,Q,hL,h=>by
    cases hL
    exact⟨s,rfl,h⟩
  | o :: l,i,s,hi,L,Q,hL,h=>by
    simp only[lowOps] at hL
    split at hL
    · rename_i g l2 hg hl
      cases hL
      obtain⟨s1,h1,h2⟩:=h
      have h0:=hi 0
      simp only[List.getElem?_cons_zero,Nat.add_zero] at h0
      obtain⟨s',h3,h4⟩:=evalOps_drop (r:=r) (i:=i + 1) (fun j=>by have:=hi (j + 1); simp only[List.getElem?_cons_succ] at this; rw[this]; congr 1; omega) hl h2
      refine⟨s',?_,h4⟩
      rw[List.length_cons,List.range'_succ]
      simp only[evalOps,← h0,stepL_eq hg h1]
      exact h3
    · cases hL
theorem evalOps_low {E:Env} {lit:Bool} {ops:Array Oper} {L:List LO} (hL:lowOps ops ops.toList=some L) {s:St} {Q:St→Prop} (h:wpR E lit L s Q):∃ s',evalOps E (rinf E) lit ops (List.range ops.size) s=some s'∧Q s':=by
  have:=evalOps_drop (r:=rinf E) (i:=0) (fun j=>by simp) hL h
  rw[List.range_eq_range']
  simpa using this
theorem reader_fp {E:Env} {r:Rec} {ops:Array Oper} {o:Oper} {s s':St} (h:stepOp E r true ops o s=some s') (hr:readerOp E o.op=true):∃ F,(match wantedA ops s.t o with | some true=>fpH E r o.op s.t s.h s.n | _=>some fp0)=some F∧F.W=[]∧F.mem=none:=by
  unfold stepOp at h
  cases hw:wantedA ops s.t o with
  | none=>rw[hw] at h; cases h
  | some b=>
    rw[hw] at h
    cases b with
    | false=>exact⟨_,rfl,rfl,rfl⟩
    | true=>
      simp only at h ⊢
      cases hop:o.op with
      | load ty a=>
        simp only[hop,aop] at h
        unfold fpH
        simp only[fpOf]
        cases ha:opnd s.t a with
        | none=>rw[ha] at h; cases h
        | some p=>exact⟨_,rfl,rfl,rfl⟩
      | lookup mt m key ok=>
        simp only[hop,aop,mapOp] at h
        unfold fpH
        simp only[fpOf]
        cases ha:opnd s.t m with
        | none=>rw[ha] at h; simp at h
        | some p=>exact⟨_,rfl,rfl,rfl⟩
      | call c=>
        obtain⟨callee,args,ats⟩:=c
        rw[hop] at hr
        cases callee with
        | value f=>
          cases f with
          | func g=>
            simp only[readerOp,Bool.or_eq_true] at hr
            unfold fpH
            simp only[fpOf]
            by_cases hp:(E.prim g).isSome=true
            · exact⟨_,by rw[if_pos hp],rfl,rfl⟩
            · rw[if_neg hp,if_pos (hr.resolve_left hp)]
              simp only[hop,callOf] at h
              cases ha:opnds s.t args.toList with
              | none=>simp[ha,opnd] at h
              | some vs=>
                refine⟨_,rfl,?_⟩
                simp only
                split <;> exact⟨rfl,rfl⟩
          | _=>cases hr
        | _=>cases hr
      | _=>rw[hop] at hr; cases hr
theorem eval_trace {E:Env} {r:Rec} {ops:Array Oper}:∀ {l:List Nat} {s s':St},(∀ i∈l,i < ops.size)→evalOps E r true ops l s=some s' →
    ∃ fps,traceOps E r ops l s=some (fps,s')∧∀ (m i:Nat) (o:Oper),l[m]? = some i→ops[i]? = some o→readerOp E o.op=true→∃ F:Fp,fps[m]? = some (some F)∧F.W=[]∧F.mem=none
  | [],s,s',_,h=>⟨[],by cases h; rfl,fun m i o hm=>by simp at hm⟩
  | i :: l,s,s',hi,h=>by
    have ho:ops[i]? = some (ops[i]'(hi i (by simp))):=Array.getElem?_eq_getElem _
    generalize ops[i]'(hi i (by simp))=o at ho
    simp only[evalOps,ho] at h
    cases hs:stepOp E r true ops o s with
    | none=>rw[hs] at h; cases h
    | some s1=>
      rw[hs] at h
      obtain⟨fps,h1,h2⟩:=eval_trace (fun j hj=>hi j (List.mem_cons_of_mem _ hj)) h
      refine⟨_,by simp only[traceOps,ho,hs,h1]; rfl,fun m i' o' hm ho' hr=>?_⟩
      cases m with
      | zero=>
        simp only[List.getElem?_cons_zero,Option.some.injEq] at hm
        subst hm
        rw[ho] at ho'
        cases ho'
        obtain⟨F,e1,e2⟩:=reader_fp hs hr
        exact⟨F,congrArg some e1,e2⟩
      | succ m=>
        simp only[List.getElem?_cons_succ] at hm ⊢
        exact h2 m i' o' hm ho' hr
theorem pairsRead_ok {E:Env} {ops:Array Oper} {an:List Nat} {fps:List (Option Fp)} (hf:∀ (i:Nat) (o:Oper),ops[i]? = some o→readerOp E o.op=true→∃ F:Fp,fps[i]? = some (some F)∧F.W=[]∧F.mem=none):∀ {l:List Nat},pairsRead E ops an l=true→pairsOk an fps l=true
  | [],_=>rfl
  | i :: is,h=>by
    simp only[pairsRead,pairsOk,Bool.and_eq_true,List.all_eq_true,Bool.or_eq_true] at h ⊢
    refine⟨fun j hj=>?_,pairsRead_ok hf h.2⟩
    rcases h.1 j hj with h1 | h1
    · exact .inl h1
    · right
      split at h1
      · rename_i a b ha hb
        simp only[Bool.and_eq_true] at h1
        obtain⟨A,e1,e2,e5⟩:=hf i a ha h1.1
        obtain⟨B,e3,e4,e6⟩:=hf j b hb h1.2
        rw[e1,e3]
        simp[mayApart,Fp.apart,e2,e4,e5,e6]
      · cases h1
theorem draw_low {E:Env} {r:Rec} {ops:Array Oper} (hs:(allOrdered (ancs ops) (loudIx ops) || pairsRead E ops (ancs ops) (loudIx ops))=true) {s s':St} (h:evalOps E r true ops (List.range ops.size) s=some s'):evalDraw E r ops s=some s':=by
  unfold evalDraw
  simp only
  by_cases ha:allOrdered (ancs ops) (loudIx ops)=true
  · rw[if_pos ha]; exact h
  · rw[if_neg ha]
    have hp:pairsRead E ops (ancs ops) (loudIx ops)=true:=by simpa[ha] using hs
    obtain⟨fps,h1,h2⟩:=eval_trace (fun i hi=>List.mem_range.1 hi) h
    rw[h1]
    simp only
    rw[if_pos (pairsRead_ok (fun i o ho hr=>h2 i i o (List.getElem?_range (by
      rcases Nat.lt_or_ge i ops.size with hlt | hge
      · exact hlt
      · rw[Array.getElem?_eq_none hge] at ho; cases ho)) ho hr) hp)]
theorem wpLoop_sound {E:Env} {c:Code} {F:St→(AX→St→Prop)→Prop} (hF:∀ s Q,F s Q→∃ x s' k,evalC E (mk E k) k c s=some (x,s')∧Q x s'):∀ (m:Nat) (s:St) (Q:AX→St→Prop),wpLoop F Q m s→∃ x s' k,iter k (evalC E (mk E k) k c) s=some (x,s')∧Q x s'
  | 0,s,Q,h=>h.elim
  | m + 1,s,Q,h=>by
    obtain⟨x,s1,k1,h1,h2⟩:=hF s _ h
    cases x with
    | normal=>
      obtain⟨x,s2,k2,h3,h4⟩:=wpLoop_sound hF m s1 Q h2
      refine⟨x,s2,max k1 k2 + 1,?_,h4⟩
      simp only[iter]
      rw[evalC_mono (mk_mono E (by omega:k1≤max k1 k2 + 1)) c (by omega:k1≤max k1 k2 + 1) h1]
      simp only
      exact iter_mono (fun s q hq=>evalC_mono (mk_mono E (by omega:k2≤max k1 k2 + 1)) c (by omega:k2≤max k1 k2 + 1) hq) (by omega) h3
    | exit id=>exact⟨_,s1,k1 + 1,by simp only[iter]; rw[evalC_mono (mk_mono E (Nat.le_succ _)) c (Nat.le_succ _) h1],h2⟩
    | goto id=>exact⟨_,s1,k1 + 1,by simp only[iter]; rw[evalC_mono (mk_mono E (Nat.le_succ _)) c (Nat.le_succ _) h1],h2⟩
    | ret=>exact⟨_,s1,k1 + 1,by simp only[iter]; rw[evalC_mono (mk_mono E (Nat.le_succ _)) c (Nat.le_succ _) h1],h2⟩
theorem wp_sound {E:Env}:∀ (c:Code) {L:LC},lower E c=some L→∀ (s:St) (Q:AX→St→Prop),wp E L s Q→∃ x s' k,evalC E (mk E k) k c s=some (x,s')∧Q x s'
  | .skip,L,hL,s,Q,h=>by cases hL; exact⟨_,_,0,rfl,h⟩
  | .region p ops draw,L,hL,s,Q,h=>by
    simp only[lower] at hL
    split at hL
    · rename_i hd
      subst hd
      split at hL
      · rename_i hs
        obtain⟨l,h1,h2⟩:=Option.map_eq_some_iff.1 hL
        cases h2
        obtain⟨s',h3,h4⟩:=evalOps_low h1 h
        obtain⟨k,h5⟩:=evalOps_cont h3
        exact⟨_,s',k,by simp only[evalC,if_true,draw_low hs h5],h4⟩
      · cases hL
        obtain⟨s',h3,h4⟩:=h
        obtain⟨k,h5⟩:=evalDraw_cont h3
        exact⟨_,s',k,by simp only[evalC,if_true,h5],h4⟩
    · rename_i hd
      obtain⟨l,h1,h2⟩:=Option.map_eq_some_iff.1 hL
      cases h2
      obtain⟨s',h3,h4⟩:=evalOps_low h1 h
      obtain⟨k,h5⟩:=evalOps_cont h3
      exact⟨_,s',k,by simp only[evalC,if_neg hd,h5],h4⟩
  | .seq a b,L,hL,s,Q,h=>by
    simp only[lower] at hL
    split at hL
    · rename_i x y hx hy
      cases hL
      obtain⟨x1,s1,k1,h1,h2⟩:=wp_sound a hx s _ h
      cases x1 with
      | normal=>
        obtain⟨x2,s2,k2,h3,h4⟩:=wp_sound b hy s1 _ h2
        refine⟨x2,s2,max k1 k2,?_,h4⟩
        simp only[evalC]
        rw[evalC_mono (mk_mono E (Nat.le_max_left k1 k2)) a (Nat.le_max_left k1 k2) h1]
        simp only
        exact evalC_mono (mk_mono E (Nat.le_max_right k1 k2)) b (Nat.le_max_right k1 k2) h3
      | exit id=>exact⟨_,s1,k1,by simp only[evalC,h1],h2⟩
      | goto id=>exact⟨_,s1,k1,by simp only[evalC,h1],h2⟩
      | ret=>exact⟨_,s1,k1,by simp only[evalC,h1],h2⟩
    · cases hL
  | .cond c a b,L,hL,s,Q,h=>by
    simp only[lower] at hL
    split at hL
    · rename_i x y hx hy
      cases hL
      simp only[wp] at h
      split at h
      · rename_i hc
        obtain⟨x1,s1,k1,h1,h2⟩:=wp_sound a hx s _ h
        exact⟨x1,s1,k1,by simp only[evalC,hc,h1],h2⟩
      · rename_i hc
        obtain⟨x1,s1,k1,h1,h2⟩:=wp_sound b hy s _ h
        exact⟨x1,s1,k1,by simp only[evalC,hc,h1],h2⟩
      · exact h.elim
    · cases hL
  | .block id a,L,hL,s,Q,h=>by
    obtain⟨x,hx,e⟩:=Option.map_eq_some_iff.1 hL
    cases e
    obtain⟨x1,s1,k1,h1,h2⟩:=wp_sound a hx s _ h
    cases x1 with
    | exit i=>
      simp only at h2
      by_cases hi:i=id
      · rw[if_pos hi] at h2
        exact⟨.normal,s1,k1,by simp only[evalC,h1,if_pos hi],h2⟩
      · rw[if_neg hi] at h2
        exact⟨.exit i,s1,k1,by simp only[evalC,h1,if_neg hi],h2⟩
    | normal=>exact⟨_,s1,k1,by simp only[evalC,h1],h2⟩
    | goto i=>exact⟨_,s1,k1,by simp only[evalC,h1],h2⟩
    | ret=>exact⟨_,s1,k1,by simp only[evalC,h1],h2⟩
  | .loop a,L,hL,s,Q,h=>by
    obtain⟨x,hx,e⟩:=Option.map_eq_some_iff.1 hL
    cases e
    obtain⟨m,hm⟩:=h
    obtain⟨x1,s1,k,h1,h2⟩:=wpLoop_sound (fun s Q=>wp_sound a hx s Q) m s Q hm
    exact⟨x1,s1,k,by simp only[evalC]; exact h1,h2⟩
  | .rangeFunc f ps asg body,L,hL,s,Q,h=>by
    cases hL
    obtain⟨g,caps,v,h2,n2,R,e1,e2,e3,e4,e5⟩:=h
    obtain⟨k,e6⟩:=rinf_call.1 e2
    split at e5
    · rename_i hp; exact⟨_,_,k,by simp only[evalC,e1,e6,e3,if_neg e4,hp],e5⟩
    · rename_i hp; exact⟨_,_,k,by simp only[evalC,e1,e6,e3,if_neg e4,hp],e5⟩
    · rename_i hp; exact⟨_,_,k,by simp only[evalC,e1,e6,e3,if_neg e4,hp],e5⟩
    · rename_i hp; exact⟨_,_,k,by simp only[evalC,e1,e6,e3,if_neg e4,hp],e5⟩
    · exact e5.elim
  | .exit _,L,hL,s,Q,h=>by cases hL; exact⟨_,_,0,rfl,h⟩
  | .ret,L,hL,s,Q,h=>by cases hL; exact⟨_,_,0,rfl,h⟩
  | .label _,L,hL,s,Q,h=>by cases hL; exact⟨_,_,0,rfl,h⟩
  | .goto _,L,hL,s,Q,h=>by cases hL; exact⟨_,_,0,rfl,h⟩
  | .scope a,L,hL,s,Q,h=>by
    obtain⟨x,hx,e⟩:=Option.map_eq_some_iff.1 hL
    cases e
    obtain⟨x1,s1,k1,h1,h2⟩:=wp_sound a hx s _ h
    cases x1 with
    | goto i=>exact h2.elim
    | normal=>exact⟨_,s1,k1,by simp only[evalC,h1],h2⟩
    | exit i=>exact⟨_,s1,k1,by simp only[evalC,h1],h2⟩
    | ret=>exact⟨_,s1,k1,by simp only[evalC,h1],h2⟩
  | .refuse _,L,hL,s,Q,h=>by cases hL
end Go.Vm
/- The abstract evaluator: functions' contracts, and the steps written out. -/
namespace Go.Vm
open Go
def bodyOf (f:Func):Code:=f.body.getD .skip
def codeSub:Code→List Nat→Code
  | .seq a b,0 :: p=>codeSub a p
  | .seq a b,_ :: p=>codeSub b p
  | .cond _ a b,0 :: p=>codeSub a p
  | .cond _ a b,_ :: p=>codeSub b p
  | .block _ a,_ :: p=>codeSub a p
  | .loop a,_ :: p=>codeSub a p
  | .scope a,_ :: p=>codeSub a p
  | .rangeFunc _ _ a b,0 :: p=>codeSub a p
  | .rangeFunc _ _ a b,_ :: p=>codeSub b p
  | c,_=>c
def temps (fn:Func) (args:List AV):List AV:=args ++ List.replicate (fn.ntmps - args.length) (.s undef)
theorem call_spec {E:Env} {g:FuncId} {fn:Func} {L:LC} (hpm:E.primM g=none) (hf:E.P.funcs[g]? = some fn) (hb:fn.body.isSome=true) (hL:lower E (bodyOf fn)=some L) {args:List AV} {h:AHeap} {n:Nat} {Q:AV→AHeap→Nat→Prop}
    (hw:wp E L ⟨temps fn args,h,n⟩ fun x s=>(x = .normal∨x = .ret)∧∃ v,resultsOf E.P fn.results.toList s.t s.h=some v∧Q v s.h s.n) :
    ∃ v h' n',(rinf E).call g args h n=some (v,h',n')∧Q v h' n':=by
  obtain⟨c,hc⟩:=Option.isSome_iff_exists.1 hb
  have hc':bodyOf fn=c:=by rw[bodyOf,hc]; rfl
  rw[hc'] at hL
  obtain⟨x,s,k,h1,hx,v,h2,h3⟩:=wp_sound c hL _ _ hw
  refine⟨v,s.h,s.n,rinf_call.2 ⟨k + 1,?_⟩,h3⟩
  show callAt E (evalC E (mk E k) k) g args h n=_
  unfold callAt
  rw[hpm,hf]
  simp only[hc]
  unfold temps at h1
  rw[h1]
  rcases hx with rfl | rfl
  · simp only[h2]
  · simp only[h2]
theorem pf_spec {E:Env} {g:FuncId} {fn:Func} {L:LC} (hp:E.prim g=none) (hpm:E.primM g=none) (hpf:E.pf g=true) (hf:E.P.funcs[g]? = some fn) (hb:fn.body.isSome=true) (hL:lower E (bodyOf fn)=some L) {vs vs':List AV} {h:AHeap} {n:Nat} {b:Bool} {u:AV}
    (hs:snapL (snap h depth) vs=some (vs',b)) (hfl:(b && !flat u)=false)
    (hw:wp E L ⟨temps fn vs',AHeap.nil,0⟩ fun x s=>(x = .normal∨x = .ret)∧∃ v,resultsOf E.P fn.results.toList s.t s.h=some v∧∃ q,snap s.h depth v=some (u,q)) :
    callFn E (rinf E) g vs h n=some (u,h,n):=by
  obtain⟨v,h',n',h1,q,h2⟩:=call_spec (Q:=fun v h n=>∃ q,snap h depth v=some (u,q)) hpm hf hb hL hw
  unfold callFn
  rw[hp]
  simp only[hpf,if_true,hs,h1,h2,hfl,Bool.false_eq_true,if_false]
theorem nf_spec {E:Env} {g:FuncId} {fn:Func} {L:LC} (hp:E.prim g=none) (hpm:E.primM g=none) (hpf:E.pf g=false) (hf:E.P.funcs[g]? = some fn) (hb:fn.body.isSome=true) (hL:lower E (bodyOf fn)=some L) {vs:List AV} {h:AHeap} {n:Nat} {Q:AV→AHeap→Nat→Prop}
    (hw:wp E L ⟨temps fn vs,h,n⟩ fun x s=>(x = .normal∨x = .ret)∧∃ v,resultsOf E.P fn.results.toList s.t s.h=some v∧Q v s.h s.n) :
    ∃ v h' n',callFn E (rinf E) g vs h n=some (v,h',n')∧Q v h' n':=by
  obtain⟨v,h',n',h1,h2⟩:=call_spec hpm hf hb hL hw
  refine⟨v,h',n',?_,h2⟩
  unfold callFn
  rw[hp]
  simp only[hpf,if_false,Bool.false_eq_true]
  exact h1
theorem prim_spec {E:Env} {g:FuncId} {p:List AV→Option AV} (hp:E.prim g=some p) {vs:List AV} {h:AHeap} {n:Nat} {v:AV} (hv:p vs=some v):callFn E (rinf E) g vs h n=some (v,h,n):=by
  unfold callFn
  rw[hp]
  simp only[hv,Option.map_some]
abbrev bs (l:List UInt8):AV:=.s (.string ⟨l.toArray⟩)
abbrev iv (x:Int):AV:=.s (.int .i64 x)
abbrev bv (b:Bool):AV:=.s (.bool b)
section
variable {E:Env} {lit:Bool} {t:List AV} {h:AHeap} {n:Nat} {d:Option Tmp} {ty:TypeId}
def ans (t:List AV) (h:AHeap) (n:Nat) (d:Option Tmp) (v:Option AV):Option St:=v.map fun v=>⟨putT t d v,h,n⟩
def fin (t:List AV) (h:AHeap) (n:Nat) (d:Option Tmp) (op:Op):Res→Option St
  | some (v,us)=>some ⟨putT t d v,h.upd us,if usesN op then n + 1 else n⟩
  | none=>none
end
end Go.Vm
/- The abstract evaluator: loops, and the temporaries at the beginning. -/
namespace Go.Vm
open Go
theorem wpR_det {E:Env} {lit:Bool}:∀ {l:List LO} {s:St} {Q:St→Prop},wpR E lit l s Q→∃ s',Q s'∧∀ Q':St→Prop,Q' s'→wpR E lit l s Q'
  | [],s,Q,h=>⟨s,h,fun _ h=>h⟩
  | o :: l,s,Q,⟨s1,h1,h2⟩=>by
    obtain⟨s',h3,h4⟩:=wpR_det h2
    exact⟨s',h3,fun Q' hq=>⟨s1,h1,h4 Q' hq⟩⟩
theorem wpLoop_det {F:St→(AX→St→Prop)→Prop} (hF:∀ s Q,F s Q→∃ x s',Q x s'∧∀ Q':AX→St→Prop,Q' x s'→F s Q'):∀ {m:Nat} {s:St} {Q:AX→St→Prop},wpLoop F Q m s→∃ x s',Q x s'∧∀ Q':AX→St→Prop,Q' x s'→wpLoop F Q' m s
  | 0,s,Q,h=>h.elim
  | m + 1,s,Q,h=>by
    obtain⟨x,s1,h1,h2⟩:=hF s _ h
    cases x with
    | normal=>
      obtain⟨x,s',h3,h4⟩:=wpLoop_det hF h1
      exact⟨x,s',h3,fun Q' hq=>h2 _ (h4 Q' hq)⟩
    | exit i=>exact⟨_,s1,h1,fun Q' hq=>h2 _ hq⟩
    | goto i=>exact⟨_,s1,h1,fun Q' hq=>h2 _ hq⟩
    | ret=>exact⟨_,s1,h1,fun Q' hq=>h2 _ hq⟩
theorem wp_det {E:Env}:∀ (L:LC) (s:St) (Q:AX→St→Prop),wp E L s Q→∃ x s',Q x s'∧∀ Q':AX→St→Prop,Q' x s'→wp E L s Q'
  | .skip,s,Q,h=>⟨_,s,h,fun _ h=>h⟩
  | .reg lit ops,s,Q,h=>by
    obtain⟨s',h3,h4⟩:=wpR_det h
    exact⟨_,s',h3,fun Q' hq=>h4 _ hq⟩
  | .full ops,s,Q,⟨s',h1,h2⟩=>⟨_,s',h2,fun Q' hq=>⟨s',h1,hq⟩⟩
  | .seq a b,s,Q,h=>by
    obtain⟨x,s1,h1,h2⟩:=wp_det a s _ h
    cases x with
    | normal=>
      obtain⟨x,s',h3,h4⟩:=wp_det b s1 _ h1
      exact⟨x,s',h3,fun Q' hq=>h2 _ (h4 Q' hq)⟩
    | exit i=>exact⟨_,s1,h1,fun Q' hq=>h2 _ hq⟩
    | goto i=>exact⟨_,s1,h1,fun Q' hq=>h2 _ hq⟩
    | ret=>exact⟨_,s1,h1,fun Q' hq=>h2 _ hq⟩
  | .cond c a b,s,Q,h=>by
    simp only[wp] at h ⊢
    split at h
    · exact wp_det a s _ h
    · exact wp_det b s _ h
    · exact h.elim
  | .block id a,s,Q,h=>by
    obtain⟨x,s1,h1,h2⟩:=wp_det a s _ h
    cases x with
    | normal=>exact⟨_,s1,h1,fun Q' hq=>h2 _ hq⟩
    | exit i=>
      simp only at h1
      by_cases hi:i=id
      · rw[if_pos hi] at h1
        exact⟨_,s1,h1,fun Q' hq=>h2 _ (by simp only[if_pos hi]; exact hq)⟩
      · rw[if_neg hi] at h1
        exact⟨_,s1,h1,fun Q' hq=>h2 _ (by simp only[if_neg hi]; exact hq)⟩
    | goto i=>exact⟨_,s1,h1,fun Q' hq=>h2 _ hq⟩
    | ret=>exact⟨_,s1,h1,fun Q' hq=>h2 _ hq⟩
  | .loop a,s,Q,⟨m,h⟩=>by
    obtain⟨x,s',h3,h4⟩:=wpLoop_det (fun s Q=>wp_det a s Q) h
    exact⟨x,s',h3,fun Q' hq=>⟨m,h4 Q' hq⟩⟩
  | .rng f ps asg body,s,Q,⟨g,caps,v,h2,n2,R,e1,e2,e3,e4,e5⟩=>by
    split at e5
    · rename_i hp; exact⟨_,_,e5,fun Q' hq=>⟨g,caps,v,h2,n2,R,e1,e2,e3,e4,by rw[hp]; exact hq⟩⟩
    · rename_i hp; exact⟨_,_,e5,fun Q' hq=>⟨g,caps,v,h2,n2,R,e1,e2,e3,e4,by rw[hp]; exact hq⟩⟩
    · rename_i hp; exact⟨_,_,e5,fun Q' hq=>⟨g,caps,v,h2,n2,R,e1,e2,e3,e4,by rw[hp]; exact hq⟩⟩
    · rename_i hp; exact⟨_,_,e5,fun Q' hq=>⟨g,caps,v,h2,n2,R,e1,e2,e3,e4,by rw[hp]; exact hq⟩⟩
    · exact e5.elim
  | .exit i,s,Q,h=>⟨_,s,h,fun _ h=>h⟩
  | .ret,s,Q,h=>⟨_,s,h,fun _ h=>h⟩
  | .label,s,Q,h=>⟨_,s,h,fun _ h=>h⟩
  | .goto l,s,Q,h=>⟨_,s,h,fun _ h=>h⟩
  | .scope a,s,Q,h=>by
    obtain⟨x,s1,h1,h2⟩:=wp_det a s _ h
    cases x with
    | normal=>exact⟨_,s1,h1,fun Q' hq=>h2 _ hq⟩
    | exit i=>exact⟨_,s1,h1,fun Q' hq=>h2 _ hq⟩
    | goto i=>exact h1.elim
    | ret=>exact⟨_,s1,h1,fun Q' hq=>h2 _ hq⟩
theorem size_mk (l:List UInt8):(ByteArray.mk l.toArray).size=l.length:=List.size_toArray
theorem ext_mk (l:List UInt8) (i j:Nat):(ByteArray.mk l.toArray).extract i j=⟨((l.drop i).take (j - i)).toArray⟩:=by
  apply ByteArray.ext
  simp[ByteArray.data_extract,List.extract_toArray]
theorem app_mk (a b:List UInt8):ByteArray.mk a.toArray ++ ByteArray.mk b.toArray=⟨(a ++ b).toArray⟩:=by
  apply ByteArray.ext
  simp
theorem i64_id {x:Int} (h1 : -9223372036854775808≤x) (h2:x≤9223372036854775807):IntKind.wrap .i64 x=x:=IntWalk.i64_in x ⟨h1,h2⟩
theorem u8_inj {a c:UInt8}:((a.toNat:Int)=(c.toNat:Int))↔a=c:=by
  constructor
  · intro h
    exact UInt8.toNat_inj.1 (by omega)
  · intro h; rw[h]
theorem u8_beq {a c:UInt8}:((a.toNat:Int) == (c.toNat:Int))=(a == c):=by
  rw[Bool.eq_iff_iff,beq_iff_eq,beq_iff_eq]
  exact u8_inj
structure FnOk (E:Env) (g:FuncId) (N:Nat) (rs:List ResultVar) (L:LC):Prop where
  ex:∃ fn,E.P.funcs[g]? = some fn∧fn.body.isSome=true∧lower E (bodyOf fn)=some L∧fn.ntmps=N∧fn.results.toList=rs
  prim:E.prim g=none
  primM:E.primM g=none
def Post (E:Env) (rs:List ResultVar) (u:AV) (x:AX) (s:St):Prop:=(x = .normal∨x = .ret)∧∃ v,resultsOf E.P rs s.t s.h=some v∧∃ q,snap s.h depth v=some (u,q)
def PostN (E:Env) (rs:List ResultVar) (Q:AV→AHeap→Nat→Prop) (x:AX) (s:St):Prop:=(x = .normal∨x = .ret)∧∃ v,resultsOf E.P rs s.t s.h=some v∧Q v s.h s.n
theorem pf_own {E:Env} {g:FuncId} (hp:E.prim g=none) (hpf:E.pf g=true) {vs vs':List AV} {h h':AHeap} {n n':Nat} {b b':Bool} {u:AV} (hs:snapL (snap h depth) vs=some (vs',b)) (hs':snapL (snap h' depth) vs' = some (vs',b'))
    (hc:callFn E (rinf E) g vs' h' n' = some (u,h',n')) (hfl:(b && !flat u)=false):callFn E (rinf E) g vs h n=some (u,h,n):=by
  unfold callFn at hc ⊢
  rw[hp] at hc ⊢
  simp only[hpf,if_true,hs'] at hc
  simp only[hpf,if_true,hs]
  cases hcl:(rinf E).call g vs' AHeap.nil 0 with
  | none=>rw[hcl] at hc; cases hc
  | some q=>
    obtain⟨v,h3,n3⟩:=q
    rw[hcl] at hc
    simp only at hc ⊢
    cases hsn:snap h3 depth v with
    | none=>rw[hsn] at hc; cases hc
    | some q2=>
      obtain⟨v',b2⟩:=q2
      rw[hsn] at hc
      simp only at hc ⊢
      split at hc
      · cases hc
      · cases hc
        rw[hfl]
        rfl
theorem fn_px {E:Env} {g:FuncId} {N:Nat} {rs:List ResultVar} {L:LC} (k:FnOk E g N rs L) (hpf:E.pf g=true) {vs vs':List AV} {h:AHeap} {n:Nat} {b:Bool} {u:AV} (hs:snapL (snap h depth) vs=some (vs',b)) (hfl:(b && !flat u)=false)
    (hw:wp E L ⟨vs' ++ List.replicate (N - vs'.length) (.s undef),AHeap.nil,0⟩ (Post E rs u)):callFn E (rinf E) g vs h n=some (u,h,n):=by
  obtain⟨fn,h1,h2,h3,h4,h5⟩:=k.ex
  refine pf_spec k.prim k.primM hpf h1 h2 h3 hs hfl ?_
  rw[h5]
  unfold temps
  rw[h4]
  exact hw
theorem fn_nx {E:Env} {g:FuncId} {N:Nat} {rs:List ResultVar} {L:LC} (k:FnOk E g N rs L) (hpf:E.pf g=false) {vs:List AV} {h:AHeap} {n:Nat} {Q:AV→AHeap→Nat→Prop}
    (hw:wp E L ⟨vs ++ List.replicate (N - vs.length) (.s undef),h,n⟩ (PostN E rs Q)):∃ v h' n',callFn E (rinf E) g vs h n=some (v,h',n')∧Q v h' n':=by
  obtain⟨fn,h1,h2,h3,h4,h5⟩:=k.ex
  refine nf_spec k.prim k.primM hpf h1 h2 h3 ?_
  rw[h5]
  unfold temps
  rw[h4]
  exact hw
theorem wpR_append {E:Env} {lit:Bool} {l2:List LO} {Q:St→Prop}:∀ {l1:List LO} {s:St},wpR E lit l1 s (fun s'=>wpR E lit l2 s' Q)→wpR E lit (l1 ++ l2) s Q
  | [],s,h=>h
  | o :: l,s,⟨s1,h1,h2⟩=>⟨s1,h1,wpR_append h2⟩
theorem wpR_cut {E:Env} {lit:Bool} {l:List LO} {s:St} {Q:St→Prop} (k:Nat) (P:St→Prop) (h1:wpR E lit (l.take k) s P) (h2:∀ s',P s'→wpR E lit (l.drop k) s' Q):wpR E lit l s Q:=by
  have:=wpR_append (E:=E) (lit:=lit) (l1:=l.take k) (l2:=l.drop k) (s:=s) (Q:=Q) (by
    obtain⟨s',h3,h4⟩:=wpR_det h1
    exact h4 _ (h2 s' h3))
  rwa [List.take_append_drop] at this
end Go.Vm

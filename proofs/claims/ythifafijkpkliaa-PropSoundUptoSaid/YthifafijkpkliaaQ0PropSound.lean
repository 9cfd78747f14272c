/- The law PropSound, a part of its proof: what the functions that it reaches compute. -/
import Derived.WalkKit
import Derived.ProofKit
import Derived.OpenShut
import Derived.Below
import Derived.ChangeSame
import Derived.Deep.DeepHandedRow
import Derived.Carry
import Derived.Test.YthifafijkpkliaaFx89084b10
import Derived.Lib.Join
import Derived.Lib.SlTrimSet
import Derived.Lib.IndexAny
import Derived.Shelf.Small.Strs
import Derived.Sort.Row
import Derived.Sort.Grow
import Derived.Lib.SlicesCompact
import Derived.WalkSmall
import Derived.Test.YthifafijkpkliaaDxd5bf5936
import Derived.Deep.Strs
import Derived.Test.YthifafijkpkliaaCx872e88cf
import Derived.Test.YthifafijkpkliaaG0PropSound
import Derived.Test.YthifafijkpkliaaW26PropSound
set_option linter.unusedVariables false
set_option linter.unusedSimpArgs false
/- What a row asks behind a call that has left all that was there as it was. -/
namespace Go.Vm
open Go Go.RowKit Go.WideShapes Go.ChangeShapes
theorem row_below {H:Type} {enc:TypeId × Value→H} {P:Program} {f:Func} {s:ChangeSpec} {apart fresh handsOn again:Bool} {W W':World} {args:Array Value} {v:Value} {ds gs:List (DataW H)} {before pa pv:List MemPlace}
    (hW:DataW.Whole enc P f.params.toList s.vars apart W args.toList ds gs before) (hb:Below W.heap.size W W') (hp:before=pa ++ pv)
    (hr:∀ (b:Nat) (sp:Nat→Bool) (hd:Bool),DataW.TrodAll enc P W' b sp hd f.resultTypes.toList (v.resultList f.resultTypes.size) (s.fn H (ds ++ gs)).results [])
    (ha:∀ sp:Nat→Bool,(∀ p∈before,sp p.block=true)→DataW.TrodAll enc P W' 0 sp true f.params.toList args.toList (s.fn H (ds ++ gs)).args pa)
    (hv:∀ sp:Nat→Bool,(∀ p∈before,sp p.block=true)→DataW.TrodVars enc P W' sp s.vars (s.fn H (ds ++ gs)).vars pv)
    (ho:∀ (j:Nat) (t:TypeId) (r:Value),f.resultTypes[j]? = some t→(v.resultList f.resultTypes.size)[j]? = some r→Value.okWide P W' .any 0 t r) :
    s.post enc P f apart fresh handsOn again W args v W':=by
  have small:∀ p∈before,decide (p.block < W.heap.size)=true:=fun p h=>decide_eq_true (hW.lt p h)
  refine⟨ds,gs,before,[],pa,pv,hW,hr _ _ _,ha (fun b=>decide (b < W.heap.size)) small,hv _ small,hb.frame _,fun _=>⟨ho,?_⟩⟩
  obtain⟨_,_,_,_,_,hz,hn⟩:=hW
  refine⟨_,_,([] ++ pa) ++ pv,⟨[] ++ pa,pv,trodAll_append (ha _ fun _ _=>rfl) (hr _ _ _),hv _ fun _ _=>rfl,rfl,fun b off hm=>?_,fun h=>?_⟩,?_⟩
  · have hm':MemPlace.cell b off∈before:=by rw[hp]; simpa using hm
    rw[hb.frozen (of_decide_eq_true (small _ hm'))]
    exact hz b off hm'
  · have:=hn h
    rw[hp] at this
    simpa using this
  · intro x hx _
    rw[hp]
    simpa using hx
set_option maxRecDepth 100000
set_option linter.unusedVariables false
set_option linter.unusedSimpArgs false
open Go Go.RowKit Go.Proofs
def funcOk (fn:Func):Bool:=!(fn.name == "runtime.NumGoroutine") && (match fn.body with | some c=>codeOk c | none=>true)
theorem funcsOk:E.P.funcs.toList.all funcOk=true:=by kernel_rfl
theorem envOk:EnvOk E:=by
  have key:∀ (f:FuncId) (fn:Func),E.P.funcs[f]? = some fn→funcOk fn=true:=fun f fn hf=>by
    have:=List.all_eq_true.1 funcsOk fn (by
      obtain⟨h1,h2⟩:=Array.getElem?_eq_some_iff.1 hf
      rw[← h2]
      simp)
    exact this
  refine⟨fun f fn hf=>?_,fun f fn c hf hc=>?_,fun g p hp=>?_,fun g p hp=>?_⟩
  · have:=key f fn hf
    unfold funcOk at this
    rw[Bool.and_eq_true] at this
    simpa using this.1
  · have:=key f fn hf
    unfold funcOk at this
    rw[Bool.and_eq_true,hc] at this
    exact this.2
  · simp only[E] at hp
    cases hp
  · simp only[E] at hp
    cases hp
theorem law_true {g:FuncId} {vs vs':List AV} {m:Option Bool} (hc:Ct E g vs m (fun r=>bv r)) (hm:m=some true) (hp:E.prim g=none) (hpf:E.pf g=true) (hv:All2 (VLe Rn.nil) vs vs') (hs:snapL (snap AHeap.nil depth) vs' = some (vs',false)) (w:World) (hG:∀ q,q∈glb→q.1 < w.heap.size∧∃ T fz,w.heap[q.1]? = some (.cells q.2 T fz)) {cargs:Array Value}
    (hr:VRels { w:=w,ι:=fun _=>(0,0,0),L:=fun _=>False,X:=fun _=>False,c:=0 } vs' cargs.toList) :
    Calls E.P g cargs w fun e w'=>e = .returned (.bool true)∧w'.os=w.os∧w'.tape=w.tape∧w'.output=w.output∧w.heap.size≤w'.heap.size∧(∀ b,b < w.heap.size→w'.heap[b]? = w.heap[b]?):=by
  obtain⟨u,h1,h2⟩:=hc true hm vs' hv AHeap.nil 0
  have hu:=h2.s_inv
  subst hu
  unfold callFn at h1
  rw[hp] at h1
  simp only[hpf,if_true,hs] at h1
  cases hcl:(rinf E).call g vs' AHeap.nil 0 with
  | none=>rw[hcl] at h1; cases h1
  | some q=>
    obtain⟨v,h3,n3⟩:=q
    rw[hcl] at h1
    simp only at h1
    cases hsn:snap h3 depth v with
    | none=>rw[hsn] at h1; cases h1
    | some q2=>
      obtain⟨v',b2⟩:=q2
      rw[hsn] at h1
      simp only[Bool.false_and,Bool.false_eq_true,if_false,Option.some.injEq,Prod.mk.injEq] at h1
      obtain⟨k,hk⟩:=rinf_call.1 hcl
      have hpc:pcall E k g vs' = some (bv true):=by
        unfold pcall
        rw[hk]
        simp only[hsn,h1.1]
      refine (pcall_sound envOk (fun r=>drawOk_all r) hpc w hG hr).mono ?_
      rintro e w' ⟨cv,h4,h5,h6,h7,h8,h9,h10⟩
      simp only[VRel] at h10
      subst h10
      exact⟨h4,h5,h6,h7,h8,h9⟩
end Go.Vm
/- What a call reads, as Lean data: an argument's reading by shape gives a value of the evaluator. -/
namespace Go.Vm
open Go
structure BulkOk {H:Type} (f:DataW H→Nat) (g:List (DataW H)→Nat):Prop where
  nil:g []=0
  cons:∀ d r,g (d :: r)=f d + g r
  pos:∀ d,1≤f d
  str:∀ l,f (.lit (.string l))=l.length + 1
  slice:∀ e s,f (.slice e s)=g e + g s + 1
  agg:∀ p,f (.agg p)=g p + 1
theorem BulkOk.sum {H:Type} {f:DataW H→Nat} {g:List (DataW H)→Nat} (B:BulkOk f g):∀ l,g l=(l.map f).sum
  | []=>B.nil
  | d :: r=>by rw[B.cons,B.sum r]; rfl
def Kw (W:World):Cx:={ w:=W,ι:=fun _=>(0,0,0),L:=fun _=>False,X:=fun _=>False,c:=0 }
def simpC:AV→Bool
  | .s _=>true
  | .fsl ..=>true
  | .esl=>true
  | _=>false
theorem snap_simpC {h:AHeap} {k:Nat} {c:AV} (hc:simpC c=true):snap h k c=some (c,false):=by
  cases c <;> first | (cases k <;> rfl) | cases hc
theorem snapL_simpC {h:AHeap} {k:Nat}:∀ {cs:List AV},cs.all simpC=true→snapL (snap h k) cs=some (cs,false)
  | [],_=>rfl
  | c :: cs,hc=>by
    simp only[List.all_cons,Bool.and_eq_true] at hc
    simp only[snapL,snap_simpC hc.1,snapL_simpC hc.2,Bool.or_self]
def simpA:AV→Bool
  | .agg cs=>cs.all simpC
  | c=>simpC c
theorem snap_simpA {h:AHeap} {k:Nat} {c:AV} (hc:simpA c=true):snap h (k + 1) c=some (c,false):=by
  unfold simpA at hc
  split at hc
  · simp only[snap,snapL_simpC hc,Option.map_some]
  · exact snap_simpC hc
theorem snapL_nil' (h:AHeap):snapL (snap h depth) []=some ([],false):=rfl
theorem snapL_cons' {h:AHeap} {c:AV} {cs:List AV} (hc:simpA c=true) (hs:snapL (snap h depth) cs=some (cs,false)):snapL (snap h depth) (c :: cs)=some (c :: cs,false):=by
  have h1:snap h depth c=some (c,false):=snap_simpA hc
  simp only[snapL,h1,hs,Bool.or_self]
section
variable {H:Type} {P:Program} {f:DataW H→Nat} {g:List (DataW H)→Nat}
structure Rd (P:Program) (f:DataW H→Nat) (t:TypeId) (n:Nat) {α:Type} (en:α→List AV) (ok:α→Prop) (μ:α→Nat):Prop where
  read:∀ {enc:TypeId × Value→H} {W:World} {fuel:Nat} {cs:List Value} {d:DataW H} {pl:List MemPlace},DataW.trod enc P W 0 (fun _=>true) true fuel t cs=some (d,pl) →
    ∃ x a,VRels (Kw W) a cs∧All2 (VLe Rn.nil) (en x) a∧a.all simpC=true∧ok x∧μ x≤f d∧cs.length=n∧(∀ v∈cs,v.oneCell' = true)
theorem Rd.str (B:BulkOk f g) {t:TypeId} (ht:P.underlying t=some .string):Rd P f t 1 (fun x:Str=>[bs x]) (fun _=>True) (fun x=>x.length + 1) where
  read h:=by
    obtain⟨s,rfl,e,_⟩:=DataW.trod_string ht h
    obtain⟨rfl,rfl⟩:=Prod.mk.inj e
    exact⟨s.data.toList,[.s (.string s)],by simp[VRels,VRel],⟨VLe.s_refl _,trivial⟩,rfl,trivial,by rw[B.str]; exact Nat.le_refl _,rfl,by simp; rfl⟩
theorem Rd.int (B:BulkOk f g) {t:TypeId} {k:IntKind} (ht:P.underlying t=some (.int k)):Rd P f t 1 (fun x:Int=>[.s (.int k x)]) (fun x=>(Lit.int k x).wf=true) (fun _=>1) where
  read h:=by
    obtain⟨n,rfl,e,w⟩:=DataW.trod_int ht h
    obtain⟨rfl,rfl⟩:=Prod.mk.inj e
    exact⟨n,[.s (.int k n)],by simp[VRels,VRel],⟨VLe.s_refl _,trivial⟩,rfl,w,B.pos _,rfl,by simp; rfl⟩
theorem Rd.bool (B:BulkOk f g) {t:TypeId} (ht:P.underlying t=some .bool):Rd P f t 1 (fun x:Bool=>[bv x]) (fun _=>True) (fun _=>1) where
  read h:=by
    obtain⟨n,rfl,e⟩:=DataW.trod_bool ht h
    obtain⟨rfl,rfl⟩:=Prod.mk.inj e
    exact⟨n,[bv n],by simp[VRels,VRel],⟨VLe.s_refl _,trivial⟩,rfl,trivial,B.pos _,rfl,by simp; rfl⟩
theorem VRels.len {K:Cx}:∀ {a:List AV} {x:List Value},VRels K a x→a.length=x.length
  | [],[],_=>rfl
  | _ :: a,_ :: x,h=>by simp only[List.length_cons]; rw[VRels.len (a:=a) (x:=x) (by simp only[VRels] at h; exact h.2)]
  | [],_ :: _,h=>by simp[VRels] at h
  | _ :: _,[],h=>by simp[VRels] at h
theorem crel_rd {W:World} {b:Nat}:∀ {a:List AV} {cs:List Value} {o:Nat},VRels (Kw W) a cs→(∀ i,i < cs.length→W.cell? ⟨b,o + i,none⟩=cs[i]?)→(∀ v∈cs,v.oneCell' = true)→CRel (Kw W) b o a
  | [],_,_,_,_,_=>by simp[CRel]
  | c :: a,[],_,h,_,_=>by simp[VRels] at h
  | c :: a,v :: cs,o,h,hc,h1=>by
    simp only[VRels] at h
    have h0:=hc 0 (by simp)
    simp only[Nat.add_zero,List.getElem?_cons_zero] at h0
    refine⟨⟨v,⟨?_,id,id⟩,h0,h1 v List.mem_cons_self,h.1⟩,crel_rd h.2 (fun i hi=>?_) fun u hu=>h1 u (List.mem_cons_of_mem _ hu)⟩
    · unfold World.cell? at h0
      split at h0
      · rename_i e
        exact (Array.getElem?_eq_some_iff.1 e).1
      · cases h0
    · have:=hc (i + 1) (by simp; omega)
      rw[Nat.add_assoc,Nat.add_comm 1 i,this]
      rfl
theorem Rd.slice (B:BulkOk f g) {t e:TypeId} {n:Nat} {α:Type} {en:α→List AV} {ok:α→Prop} {μ:α→Nat} (R:Rd P f e n en ok μ) (ht:P.underlying t=some (.slice e)) (hn:P.cellsOf e=n) (h0:0 < n) :
    Rd P f t 1 (fun x:List α=>[.fsl n (x.map en)]) (fun x=>∀ y∈x,ok y) (fun x=>(x.map μ).sum + 1) where
  read {enc W fuel cs d pl} h:=by
    rcases Deep.open_slice ht h with ⟨rfl,e'⟩ | ⟨a,len,cap,m,k,D,Pl,rfl,_,hl,_,hm,e',hx⟩
    · obtain⟨rfl,rfl⟩:=Prod.mk.inj e'
      exact⟨[],[nilS],by simp[VRels,VRel],⟨VLe.fsl_iff.2 (.inr ⟨rfl,.inl rfl⟩),trivial⟩,rfl,by simp,by simpa using B.pos _,rfl,by simp; rfl⟩
    · obtain⟨rfl,rfl⟩:=Prod.mk.inj e'
      have hlm:len≤m:=by rw[hm]; simpa using hl
      subst hn
      have hspot:0 < len→a.spot=none:=fun hp=>by
        obtain⟨cs',h1,h2⟩:=hx 0 (by omega)
        obtain⟨_,hlen,hc⟩:=World.cells?_some h1
        have:=hc 0 h0
        rw[List.getElem?_eq_getElem (by omega)] at this
        simp only[Nat.zero_mul,Addr.add,if_true] at this
        unfold World.cell? at this
        split at this
        · split at this
          · cases this
          · rename_i q; simpa using q
        · cases this
      obtain⟨ab,ao,sp⟩:=a
      have key:∀ j i,i + j=len→∃ (xs:List α) (rows:List (List AV)),RRel (Kw W) ab (ao + i * P.cellsOf e) (P.cellsOf e) rows∧All2 (All2 (VLe Rn.nil)) (xs.map en) rows∧xs.length=j∧(∀ x∈xs,ok x)∧(xs.map μ).sum≤((List.range' i j).map fun q=>f (D q)).sum:=by
        intro j
        induction j with
        | zero=>intro i _; exact⟨[],[],by simp[RRel],trivial,rfl,by simp,by simp⟩
        | succ j ih=>
          intro i hij
          obtain rfl:sp=none:=hspot (by omega)
          obtain⟨xs,rows,r1,r0,r2,r3,r4⟩:=ih (i + 1) (by omega)
          obtain⟨cs',h1,h2⟩:=hx i (by omega)
          obtain⟨x,a,x1,x0,_,x2,x3,x4,x5⟩:=R.read h2
          obtain⟨_,hlen,hc⟩:=World.cells?_some h1
          refine⟨x :: xs,a :: rows,?_,⟨x0,r0⟩,by simp[r2],by simpa using ⟨x2,r3⟩,?_⟩
          · simp only[RRel]
            refine⟨by rw[x1.len,x4],crel_rd x1 (fun q hq=>?_) x5,?_⟩
            · have:=hc q (by omega)
              rw[WideShapes.add_plain,WideShapes.add_plain] at this
              exact this
            · rw[Nat.add_assoc,show i * P.cellsOf e + P.cellsOf e=(i + 1) * P.cellsOf e by rw[Nat.add_mul,Nat.one_mul]]
              exact r1
          · simp only[List.map_cons,List.sum_cons,List.range'_succ]
            omega
      obtain⟨xs,rows,r1,r0,r2,r3,r4⟩:=key len 0 (by omega)
      have rl:rows.length=len:=by rw[r0.length,List.length_map,r2]
      refine⟨xs,[.fsl (P.cellsOf e) rows],?_,⟨VLe.fsl_iff.2 (.inl ⟨rows,rfl,r0⟩),trivial⟩,rfl,r3,?_,rfl,by simp; rfl⟩
      · simp only[VRels,VRel,and_true,rl]
        refine⟨some ⟨ab,ao,sp⟩,cap,rfl,by simp,hl,?_⟩
        rcases Nat.eq_zero_or_pos len with hz | hp
        · left
          exact List.length_eq_zero_iff.1 (by omega)
        · right
          obtain rfl:sp=none:=hspot hp
          exact⟨ab,ao,rfl,by rw[Nat.zero_mul,Nat.add_zero] at r1; exact r1⟩
      · rw[B.slice,B.sum,List.map_map,List.range_eq_range']
        have:(List.map (f ∘ D) (List.range' 0 len)).sum=((List.range' 0 len).map fun q=>f (D q)).sum:=rfl
        omega
structure Rds (P:Program) (f:DataW H→Nat) (g:List (DataW H)→Nat) (fs:List Field) (o n:Nat) {α:Type} (en:α→List AV) (ok:α→Prop) (μ:α→Nat):Prop where
  read:∀ {enc:TypeId × Value→H} {W:World} {fuel:Nat} {cs:List Value} {xs:List (DataW H × List MemPlace)},xs.length=fs.length→o + n≤cs.length →
    (∀ (i:Nat) (fd:Field),fs[i]? = some fd→DataW.trod enc P W 0 (fun _=>true) true fuel fd.type ((cs.drop fd.offset).take (P.cellsOf fd.type))=xs[i]?) →
    ∃ x a,VRels (Kw W) a ((cs.drop o).take n)∧All2 (VLe Rn.nil) (en x) a∧a.all simpC=true∧ok x∧μ x≤g (xs.map (·.1))∧(∀ v∈(cs.drop o).take n,v.oneCell' = true)
theorem Rds.nil (o:Nat):Rds P f g [] o 0 (fun _:Unit=>[]) (fun _=>True) (fun _=>0) where
  read _ _ _:=⟨(),[],by simp[VRels],trivial,rfl,trivial,Nat.zero_le _,by simp⟩
theorem Rds.cons (B:BulkOk f g) {fd:Field} {fs:List Field} {o n1 n2:Nat} {α β:Type} {e1:α→List AV} {ok1:α→Prop} {μ1:α→Nat} {e2:β→List AV} {ok2:β→Prop} {μ2:β→Nat} (R1:Rd P f fd.type n1 e1 ok1 μ1) (R2:Rds P f g fs (o + n1) n2 e2 ok2 μ2) (ho:fd.offset=o) (hn:P.cellsOf fd.type=n1) :
    Rds P f g (fd :: fs) o (n1 + n2) (fun x:α × β=>e1 x.1 ++ e2 x.2) (fun x=>ok1 x.1∧ok2 x.2) (fun x=>μ1 x.1 + μ2 x.2) where
  read {enc W fuel cs xs} hl hc h:=by
    cases xs with
    | nil=>simp at hl
    | cons y xs=>
      have h0:=h 0 fd rfl
      simp only[List.getElem?_cons_zero,ho,hn] at h0
      obtain⟨x1,l1,a1,a0,az,a2,a3,a4,a5⟩:=R1.read (d:=y.1) (pl:=y.2) h0
      obtain⟨x2,l2,b1,b0,bz,b2,b3,b5⟩:=R2.read (enc:=enc) (W:=W) (fuel:=fuel) (cs:=cs) (xs:=xs) (by simpa using hl) (by omega) (fun i fd' h'=>by have:=h (i + 1) fd' (by simpa using h'); simpa using this)
      have e:(cs.drop o).take (n1 + n2)=(cs.drop o).take n1 ++ (cs.drop (o + n1)).take n2:=by rw[List.take_add,List.drop_drop]
      refine⟨(x1,x2),l1 ++ l2,?_,a0.append b0,by rw[List.all_append,az,bz]; rfl,⟨a2,b2⟩,?_,?_⟩
      · rw[e]; exact a1.append b1
      · simp only[List.map_cons]; rw[B.cons]; omega
      · rw[e]
        intro v hv
        rcases List.mem_append.1 hv with hv | hv
        · exact a5 v hv
        · exact b5 v hv
theorem Rd.struct (B:BulkOk f g) {t:TypeId} {fs:Array Field} {n:Nat} {α β:Type} {en:α→List AV} {ok:α→Prop} {μ:α→Nat} (R:Rds P f g fs.toList 0 n en ok μ) (ht:P.underlying t=some (.struct fs)) (hn:P.cellsOf t=n) (mk:α→β) (hs:∀ y,∃ x,mk x=y) {en':β→List AV} (he:∀ x,en' (mk x)=en x) {ok':β→Prop} (hk:∀ x,ok x→ok' (mk x)) {μ':β→Nat} (hm:∀ x,μ' (mk x)≤μ x + 1) :
    Rd P f t n en' ok' μ' where
  read {enc W fuel cs d pl} h:=by
    obtain⟨xs,k,_,e,hl,hx,hf⟩:=DataW.trod_struct ht h
    obtain⟨rfl,rfl⟩:=Prod.mk.inj e
    obtain⟨x,a,h1,h0,hz,h2,h3,h4⟩:=R.read (enc:=enc) (W:=W) (fuel:=k) (cs:=cs) (xs:=xs) (by simpa using hx) (by omega) (fun i fd h'=>hf i fd (by simpa using h'))
    rw[List.drop_zero,List.take_of_length_le (by omega)] at h1 h4
    refine⟨mk x,a,h1,by rw[he]; exact h0,hz,hk x h2,?_,by omega,h4⟩
    rw[B.agg]
    have:=hm x
    omega
theorem Rd.arg1 {t:TypeId} {α:Type} {c:α→AV} {ok:α→Prop} {μ:α→Nat} (R:Rd P f t 1 (fun x=>[c x]) ok μ) {enc:TypeId × Value→H} {W:World} {v:Value} {d:DataW H} {pl:List MemPlace} (hv:v.cells = #[v]) (h:DataW.Trod enc P W 0 (fun _=>true) true t v d pl) :
    ∃ x b,VRel (Kw W) b v∧ok x∧μ x≤f d∧VLe Rn.nil (c x) b∧simpA b=true:=by
  obtain⟨fuel,h⟩:=h
  obtain⟨x,a,h1,h0,hz,h2,h3,_⟩:=R.read h
  rw[hv] at h1
  match a,h0 with
  | [b],h0=>
    simp only[VRels,and_true] at h1
    simp only[List.all_cons,List.all_nil,Bool.and_true] at hz
    refine⟨x,b,h1,h2,h3,h0.1,?_⟩
    unfold simpA
    split
    · cases hz
    · exact hz
  | [],h0=>exact h0.elim
  | _ :: _ :: _,h0=>exact h0.2.elim
theorem cells_int {P:Program} {W:World} {r:Reach} {b:Nat} {t:TypeId} {k:IntKind} {v:Value} (ht:P.underlying t=some (.int k)) (h:Value.okWide P W r b t v):v.cells = #[v]:=by
  unfold Value.okWide Cell.okWide Cell.ok at h
  rw[ht] at h
  cases v <;> first | rfl | simp at h
theorem cells_slice {P:Program} {W:World} {r:Reach} {b:Nat} {t e:TypeId} {v:Value} (ht:P.underlying t=some (.slice e)) (h:Value.okWide P W r b t v):v.cells = #[v]:=by
  unfold Value.okWide Cell.okWide Cell.ok at h
  rw[ht] at h
  cases v <;> first | rfl | simp at h
theorem args_stay {enc:TypeId × Value→H} (hl:laidOutB P=true) {W W':World} (hb:RowKit.Below W.heap.size W W') {sp:Nat→Bool}:∀ {ts:List TypeId} {vs:List Value} {ds:List (DataW H)} {ps:List MemPlace},(∀ t∈ts,P.readableRec t=true∧t < P.types.size)→DataW.TrodAll enc P W 0 (fun _=>true) true ts vs ds ps→(∀ x∈ps,x.block < W.heap.size)→(∀ x∈ps,sp x.block=true) →
    DataW.TrodAll enc P W' 0 sp true ts vs ds ps
  | [],[],[],_,_,h,_,_=>h
  | t :: ts,v :: vs,d :: ds,ps,hr,h,h1,h2=>by
    obtain⟨p,q,h3,h4,rfl⟩:=h
    exact⟨p,q,WideElems.Trod_stays hl (hr t List.mem_cons_self).1 (hr t List.mem_cons_self).2 h3 (fun x hx=>hb.same (h1 x (List.mem_append_left _ hx))) (fun x hx=>h2 x (List.mem_append_left _ hx)),
      args_stay hl hb (fun u hu=>hr u (List.mem_cons_of_mem _ hu)) h4 (fun x hx=>h1 x (List.mem_append_right _ hx)) (fun x hx=>h2 x (List.mem_append_right _ hx)),rfl⟩
  | [],_ :: _,_,_,_,h,_,_=>h.elim
  | [],[],_ :: _,_,_,h,_,_=>h.elim
  | _ :: _,[],_,_,_,h,_,_=>h.elim
  | _ :: _,_ :: _,[],_,_,h,_,_=>h.elim
end
end Go.Vm
/- Plain laws: loops, numbers. -/
namespace Go.Vm
open Go
section
variable {σ τ:Type} {f:σ→Option (Step σ τ)}
theorem loopC_next {x y:σ} (h:f x=some (.next y)):loopC f x=loopC f y:=by rw[loopC_eq,h]; rfl
theorem loopC_done {x:σ} {t:τ} (h:f x=some (.done t)):loopC f x=some t:=by rw[loopC_eq,h]; rfl
theorem loopC_fun (I:σ→Prop) (μ:σ→Nat) (g:σ→τ) (h:∀ x,I x→f x=some (.done (g x))∨∃ y,f x=some (.next y)∧I y∧μ y < μ x∧g y=g x) {x:σ} (hx:I x):loopC f x=some (g x):=by
  have key:∀ n x,I x→μ x≤n→loopC f x=some (g x):=by
    intro n
    induction n with
    | zero=>
      intro x hx hn
      rcases h x hx with h1 | ⟨y,_,_,h3,_⟩
      · exact loopC_done h1
      · omega
    | succ n ih=>
      intro x hx hn
      rcases h x hx with h1 | ⟨y,h1,h2,h3,h4⟩
      · exact loopC_done h1
      · rw[loopC_next h1,ih y h2 (by omega),h4]
  exact key _ x hx (Nat.le_refl _)
theorem loopC_inv (I:σ→Prop) (μ:σ→Nat) (P:τ→Prop) (h:∀ x,I x→(∃ t,f x=some (.done t)∧P t)∨∃ y,f x=some (.next y)∧I y∧μ y < μ x) {x:σ} (hx:I x):∃ t,loopC f x=some t∧P t:=by
  have key:∀ n x,I x→μ x≤n→∃ t,loopC f x=some t∧P t:=by
    intro n
    induction n with
    | zero=>
      intro x hx hn
      rcases h x hx with ⟨t,h1,h2⟩ | ⟨y,_,_,h3⟩
      · exact⟨t,loopC_done h1,h2⟩
      · omega
    | succ n ih=>
      intro x hx hn
      rcases h x hx with ⟨t,h1,h2⟩ | ⟨y,h1,h2,h3⟩
      · exact⟨t,loopC_done h1,h2⟩
      · rw[loopC_next h1]
        exact ih y h2 (by omega)
  exact key _ x hx (Nat.le_refl _)
end
theorem w64_id {x:Int} (h1 : -9223372036854775808≤x) (h2:x≤9223372036854775807):w64 x=x:=i64_id h1 h2
theorem ixl_nat {α:Type} {l:List α} {i:Nat} (h:i < l.length):ixl l (i:Int)=some l[i]:=by
  unfold ixl
  rw[if_pos (by omega),Int.toNat_natCast,List.getElem?_eq_getElem h]
theorem app_ok {α:Type} {b:Nat} {l m:List α} (h1:(l.length + m.length) * b≤140737488355328) (h2:l.length + m.length≤9223372036854775807):app b l m=some (l ++ m):=by
  unfold app; rw[if_pos ⟨h1,h2⟩]
end Go.Vm
/- Plain laws of chapter 26: what follows by units. -/
namespace Go.Vm
open Go
theorem loop2 {σ1 τ1 σ2 τ2:Type} {f1:σ1→Option (Step σ1 τ1)} {f2:σ2→Option (Step σ2 τ2)} (I:σ1→σ2→Prop) (P:τ1→τ2→Prop) (μ:σ1→Nat)
    (h:∀ a b,I a b→(∃ t u,f1 a=some (.done t)∧f2 b=some (.done u)∧P t u)∨∃ a' b',f1 a=some (.next a')∧f2 b=some (.next b')∧I a' b'∧μ a' < μ a) {a:σ1} {b:σ2} (hI:I a b) :
    ∃ t u,loopC f1 a=some t∧loopC f2 b=some u∧P t u:=by
  have key:∀ n a b,I a b→μ a≤n→∃ t u,loopC f1 a=some t∧loopC f2 b=some u∧P t u:=by
    intro n
    induction n with
    | zero=>
      intro a b hI hn
      rcases h a b hI with ⟨t,u,h1,h2,h3⟩ | ⟨a',b',h1,h2,h3,h4⟩
      · exact⟨t,u,loopC_done h1,loopC_done h2,h3⟩
      · omega
    | succ n ih=>
      intro a b hI hn
      rcases h a b hI with ⟨t,u,h1,h2,h3⟩ | ⟨a',b',h1,h2,h3,h4⟩
      · exact⟨t,u,loopC_done h1,loopC_done h2,h3⟩
      · rw[loopC_next h1,loopC_next h2]
        exact ih a' b' h3 (by omega)
  exact key _ a b hI (Nat.le_refl _)
theorem w64_n (i:Nat) (h:i≤9223372036854775806):w64 ((i:Int) + 1)=((i + 1:Nat):Int):=by rw[w64_id (by omega) (by omega)]; rfl
def goodB (x:Int):Bool:=decide (x≠0) && decide (-4096≤x) && decide (x≤4096)
theorem goodB_iff {x:Int}:goodB x=true↔x≠0 ∧ -4096≤x∧x≤4096:=by
  unfold goodB
  simp only[Bool.and_eq_true,decide_eq_true_eq,and_assoc]
theorem goodB_neg {x:Int} (h:goodB x=true):goodB (-x)=true:=by
  rw[goodB_iff] at h ⊢
  omega
theorem literal_eq (x:Int):prop_literal x=some (goodB x):=by
  unfold prop_literal
  congr 1
  rw[Bool.eq_iff_iff,goodB_iff]
  simp only[Bool.and_eq_true,decide_eq_true_eq,bne_iff_ne]
  omega
theorem good_eq (x:Int):ref26_good x=some (goodB x):=by
  unfold ref26_good
  congr 1
  rw[Bool.eq_iff_iff,goodB_iff]
  simp only[Bool.and_eq_true,decide_eq_true_eq,bne_iff_ne]
  omega
theorem size_eq26 {x:Int} (h:goodB x=true):prop_size x=some (x.natAbs:Int):=by
  rw[goodB_iff] at h
  unfold prop_size
  rw[w64_id (x:=0 - x) (by omega) (by omega)]
  congr 1
  split <;> omega
def tV (V:List Int) (x:Int):Int:=if x < 0 then - V.getD x.natAbs 0 else V.getD x.natAbs 0
structure Sheet (V:List Int):Prop where
  len:V.length=4097
  val:∀ k,V.getD k 0=0∨V.getD k 0=1∨V.getD k 0 = -1
theorem tV_neg (V:List Int) {x:Int} (h:x≠0):tV V (-x) = - tV V x:=by
  unfold tV
  rw[Int.natAbs_neg]
  by_cases hx:x < 0
  · rw[if_pos hx,if_neg (by omega)]; omega
  · rw[if_neg hx,if_pos (by omega)]
theorem tV_val {V:List Int} (h:Sheet V) (x:Int):tV V x=0∨tV V x=1∨tV V x = -1:=by
  have:=h.val x.natAbs
  unfold tV
  split <;> omega
theorem ixA_nat {α:Type} {m:Nat} {l:List α} {d:α} {k:Nat} (hl:l.length=m) (hk:k < m):ixA m l (k:Int)=some (l.getD k d):=by
  unfold ixA
  rw[if_pos hl,ixl_nat (by omega)]
  simp[List.getD,show k < l.length by omega]
theorem of_eq {V:List Int} (h:Sheet V) (l:List S_api_Deduced) {x:Int} (hx:goodB x=true):prop_sheet_of V l x=some (tV V x):=by
  unfold prop_sheet_of
  rw[size_eq26 hx]
  rw[goodB_iff] at hx
  simp only[Option.bind_some]
  rw[ixA_nat (d:=0) h.len (by omega)]
  simp only[Option.bind_some]
  have hv:=h.val x.natAbs
  rw[w64_id (x:=V.getD x.natAbs 0) (by omega) (by omega),w64_id (by omega) (by omega)]
  unfold tV
  by_cases hx0:x < 0
  · rw[if_pos (by simpa using hx0),if_pos hx0]; congr 1; omega
  · rw[if_neg (by simpa using hx0),if_neg hx0]
def upV (V:List Int) (x:Int):List Int:=V.set x.natAbs (if x < 0 then -1 else 1)
theorem upV_getD {V:List Int} (h:V.length=4097) {x:Int} (hx:goodB x=true) (k:Nat):(upV V x).getD k 0=if k=x.natAbs then (if x < 0 then -1 else 1) else V.getD k 0:=by
  rw[goodB_iff] at hx
  unfold upV
  rw[List.getD_eq_getElem?_getD,List.getD_eq_getElem?_getD,List.getElem?_set]
  by_cases e:x.natAbs=k
  · rw[if_pos e,if_pos (by omega),if_pos e.symm]; rfl
  · rw[if_neg e,if_neg (fun q=>e q.symm)]
theorem sheet_up {V:List Int} (h:Sheet V) {x:Int} (hx:goodB x=true):Sheet (upV V x):=by
  refine⟨by unfold upV; rw[List.length_set]; exact h.len,fun k=>?_⟩
  rw[upV_getD h.len hx]
  have:=h.val k
  split
  · split <;> omega
  · exact this
theorem tV_up {V:List Int} (h:V.length=4097) {x:Int} (hx:goodB x=true) (y:Int):tV (upV V x) y=if y=x then 1 else if y = -x then -1 else tV V y:=by
  have hx':=goodB_iff.1 hx
  unfold tV
  rw[upV_getD h hx]
  by_cases e1:y=x
  · subst e1
    rw[if_pos rfl,if_pos rfl]
    split <;> omega
  · rw[if_neg e1]
    by_cases e2:y = -x
    · have e3:y.natAbs=x.natAbs:=by omega
      rw[if_pos e2]
      simp only[e3,if_true]
      split <;> split <;> omega
    · have e3:¬ y.natAbs=x.natAbs:=by omega
      rw[if_neg e2]
      simp only[e3,if_false]
theorem set_eq26 {V:List Int} (h:Sheet V) {l:List S_api_Deduced} (hl:l.length≤1048576) {x:Int} (hx:goodB x=true) (r:Int):prop_sheet_set V l x r=some (upV V x,l ++ [⟨x,r⟩]):=by
  unfold prop_sheet_set
  rw[size_eq26 hx]
  have hx':=goodB_iff.1 hx
  simp only[Option.bind_some]
  rw[ixA_nat (d:=0) h.len (by omega)]
  simp only[Option.bind_some,Int.toNat_natCast]
  rw[ixA_nat (d:=0) (by rw[List.length_set]; exact h.len) (by omega)]
  simp only[Option.bind_some,List.set_set]
  have:(if decide (x < 0)=true then some (V.set x.natAbs (-1)) else some (V.set x.natAbs 1):Option (List Int))=some (upV V x):=by
    unfold upV
    by_cases e:x < 0
    · rw[if_pos (by simpa using e),if_pos e]
    · rw[if_neg (by simpa using e),if_neg e]
  rw[this]
  simp only[Option.bind_some]
  have hlen:lenA 4097 (upV V x)=some ():=by
    unfold lenA
    rw[if_pos (sheet_up h hx).len]
  rw[hlen]
  simp only[Option.bind_some]
  rw[app_ok (by simp only[List.length_singleton]; omega) (by simp only[List.length_singleton]; omega)]
  rfl
structure Board (V:List Int) (B:List Bool):Prop where
  len:B.length=8193
  is:∀ x,goodB x=true→B.getD (x + 4096).toNat false=decide (tV V x=1)
theorem is_eq {V:List Int} {B:List Bool} (h:Board V B) (l:List S_api_Deduced) {x:Int} (hx:goodB x=true):ref26_Board_is B l x=some (decide (tV V x=1)):=by
  have hx':=goodB_iff.1 hx
  unfold ref26_Board_is
  rw[w64_id (by omega) (by omega),show x + 4096=(((x + 4096).toNat:Nat):Int) by omega,ixA_nat (d:=false) h.len (by omega),h.is x hx]
  rfl
def upB (B:List Bool) (x:Int):List Bool:=List.set B (Int.toNat (w64 (x + 4096))) true
theorem add_eq {V:List Int} {B:List Bool} (h:Board V B) {l:List S_api_Deduced} (hl:l.length≤1048576) {x:Int} (hx:goodB x=true) (r:Int):ref26_Board_add B l x r=some (l ++ [⟨x,r⟩]):=by
  have hx':=goodB_iff.1 hx
  unfold ref26_Board_add
  rw[w64_id (by omega) (by omega),show x + 4096=(((x + 4096).toNat:Nat):Int) by omega,ixA_nat (d:=false) h.len (by omega)]
  simp only[Option.bind_some]
  rw[app_ok (by simp only[List.length_singleton]; omega) (by simp only[List.length_singleton]; omega)]
  rfl
theorem board_up {V:List Int} {B:List Bool} (hS:Sheet V) (h:Board V B) {x:Int} (hx:goodB x=true) (h0:tV V x=0):Board (upV V x) (upB B x):=by
  have hx':=goodB_iff.1 hx
  have hw:w64 (x + 4096)=x + 4096:=w64_id (by omega) (by omega)
  refine⟨by unfold upB; rw[List.length_set]; exact h.len,fun y hy=>?_⟩
  have hy':=goodB_iff.1 hy
  have e1:(upB B x).getD (y + 4096).toNat false=if y=x then true else B.getD (y + 4096).toNat false:=by
    unfold upB
    rw[hw,List.getD_eq_getElem?_getD,List.getD_eq_getElem?_getD,List.getElem?_set]
    by_cases e:y=x
    · subst e
      have:=h.len
      rw[if_pos rfl,if_pos (by omega),if_pos rfl]; rfl
    · rw[if_neg (by omega),if_neg e]
  rw[e1,tV_up hS.len hx,h.is y hy]
  by_cases e:y=x
  · rw[if_pos e,if_pos e]; rfl
  · rw[if_neg e,if_neg e]
    by_cases e2:y = -x
    · rw[if_pos e2,e2,tV_neg V hx'.1,h0]; rfl
    · rw[if_neg e2]
def scanU (t:Int→Int):Int→List Int→Option Int
  | u,[]=>some u
  | u,x :: c=>if t x=0 then (if u≠0∧u≠x then none else scanU t x c) else scanU t u c
theorem scanU_cons (t:Int→Int) (u x:Int) (c:List Int):scanU t u (x :: c)=if t x=0 then (if u≠0∧u≠x then none else scanU t x c) else scanU t u c:=rfl
def trueB (V:List Int) (c:List Int):Bool:=c.any fun x=>!goodB x || decide (tV V x=1)
def clS (V:List Int) (c:List Int):Option Int:=if trueB V c=true then none else scanU (tV V) 0 c
theorem look_eq {V:List Int} (h:Sheet V) (l:List S_api_Deduced) (c:List Int) (hc:c.length≤1048576):prop_sheet_look V l c=some (match clS V c with | none=>(false,0) | some u=>(u == 0,u)):=by
  unfold prop_sheet_look
  have h1:=loopC_fun (f:=prop_sheet_look_l1 V l c) (fun x=>∃ i:Nat,x=i∧i≤c.length) (fun x=>c.length - x.toNat) (fun x=>cond (trueB V (c.drop x.toNat)) (Sum.inl ()) (Sum.inr ())) (fun x hx=>by
    obtain⟨i,rfl,hi⟩:=hx
    unfold prop_sheet_look_l1
    simp only[Int.toNat_natCast]
    rcases Nat.lt_or_ge i c.length with hlt | hge
    · rw[if_pos (by simpa using hlt),ixl_nat hlt]
      simp only[Option.bind_some,literal_eq]
      rw[List.drop_eq_getElem_cons hlt]
      unfold trueB
      simp only[List.any_cons]
      cases hg:goodB c[i] with
      | false=>
        left
        rfl
      | true=>
        simp only[Bool.not_true,Bool.false_eq_true,if_false,Bool.false_or]
        rw[of_eq h l hg]
        simp only[Option.bind_some]
        have hv:=tV_val h c[i]
        by_cases e:tV V c[i]=1
        · left
          rw[if_pos (by rw[decide_eq_true_eq]; omega),decide_eq_true e]
          rfl
        · right
          rw[if_neg (by rw[decide_eq_true_eq]; omega),decide_eq_false e,w64_n i (by omega)]
          refine⟨_,rfl,⟨i + 1,rfl,hlt⟩,by omega,?_⟩
          simp only[Int.toNat_natCast,Bool.false_or]
    · left
      rw[if_neg (by simp; omega),List.drop_of_length_le hge]
      rfl) (x:=0) ⟨0,rfl,Nat.zero_le _⟩
  rw[h1]
  simp only[Int.toNat_zero,List.drop_zero,Option.bind_some]
  unfold clS
  cases htb:trueB V c with
  | true=>rfl
  | false=>
    simp only[cond_false,Bool.false_eq_true,if_false]
    have hall:∀ x∈c,goodB x=true:=fun x hx=>by
      unfold trueB at htb
      have:=List.any_eq_false.1 htb x hx
      cases hg:goodB x with
      | true=>rfl
      | false=>simp[hg] at this
    have h2:=loopC_fun (f:=prop_sheet_look_l2 V l c) (fun x=>∃ i:Nat,x.2=i∧i≤c.length) (fun x=>c.length - x.2.toNat) (fun x=>(match scanU (tV V) x.1 (c.drop x.2.toNat) with | none=>Sum.inl () | some u=>Sum.inr u:Unit ⊕ Int)) (fun x hx=>by
      obtain⟨u,z⟩:=x
      obtain⟨i,e,hi⟩:=hx
      simp only at e
      subst e
      unfold prop_sheet_look_l2
      simp only[Int.toNat_natCast]
      rcases Nat.lt_or_ge i c.length with hlt | hge
      · rw[if_pos (by simpa using hlt),ixl_nat hlt]
        simp only[Option.bind_some]
        rw[of_eq h l (hall _ (List.getElem_mem _))]
        simp only[Option.bind_some]
        rw[List.drop_eq_getElem_cons hlt,w64_n i (by omega),scanU_cons]
        by_cases e:tV V c[i]=0
        · rw[if_pos e,e]
          by_cases e2:u≠0∧u≠c[i]
          · left
            rw[if_pos e2,if_pos (by simp[e2.1,e2.2])]
            rfl
          · right
            rw[if_neg e2,if_neg (by
              intro q
              simp only[Bool.and_eq_true,bne_iff_ne] at q
              exact e2 ⟨q.1.2,q.2⟩)]
            exact⟨_,rfl,⟨i + 1,rfl,hlt⟩,by simp only[Int.toNat_natCast]; omega,by simp only[Int.toNat_natCast]⟩
        · right
          have eb:(tV V c[i] == 0)=false:=by simpa using e
          rw[if_neg e,eb]
          exact⟨_,rfl,⟨i + 1,rfl,hlt⟩,by simp only[Int.toNat_natCast]; omega,by simp only[Int.toNat_natCast]⟩
      · left
        rw[if_neg (by simp; omega),List.drop_of_length_le hge]
        rfl) (x:=(0,(0:Int))) ⟨0,rfl,Nat.zero_le _⟩
    rw[h2]
    simp only[Int.toNat_zero,List.drop_zero,Option.bind_some]
    cases scanU (tV V) 0 c <;> rfl
def scanR (t:Int→Int):Int→Nat→List Int→Option (Int × Nat)
  | o,n,[]=>some (o,n)
  | o,n,x :: c=>if t x=1 then none else if t x=0∧x≠o then scanR t x (n + 1) c else scanR t o n c
theorem scanR_cons (t:Int→Int) (o:Int) (n:Nat) (x:Int) (c:List Int):scanR t o n (x :: c)=if t x=1 then none else if t x=0∧x≠o then scanR t x (n + 1) c else scanR t o n c:=rfl
theorem clean_eq (c:List Int) (hc:c.length≤1048576):ref26_clean c=some (c.all goodB):=by
  unfold ref26_clean
  have h1:=loopC_fun (f:=ref26_clean_l1 c) (fun x=>∃ i:Nat,x=i∧i≤c.length) (fun x=>c.length - x.toNat) (fun x=>cond ((c.drop x.toNat).all goodB) (Sum.inr ()) (Sum.inl ())) (fun x hx=>by
    obtain⟨i,rfl,hi⟩:=hx
    unfold ref26_clean_l1
    simp only[Int.toNat_natCast]
    rcases Nat.lt_or_ge i c.length with hlt | hge
    · rw[if_pos (by simpa using hlt),ixl_nat hlt]
      simp only[Option.bind_some,good_eq]
      rw[List.drop_eq_getElem_cons hlt]
      simp only[List.all_cons]
      cases hg:goodB c[i] with
      | false=>left; rfl
      | true=>
        right
        rw[w64_n i (by omega)]
        exact⟨_,rfl,⟨i + 1,rfl,hlt⟩,by omega,by simp only[Int.toNat_natCast,Bool.true_and]⟩
    · left
      rw[if_neg (by simp; omega),List.drop_of_length_le hge]
      rfl) (x:=0) ⟨0,rfl,Nat.zero_le _⟩
  rw[h1]
  simp only[Int.toNat_zero,List.drop_zero,Option.bind_some]
  cases c.all goodB <;> rfl
theorem rlook_eq {V:List Int} {B:List Bool} (hS:Sheet V) (h:Board V B) (l:List S_api_Deduced) (c:List Int) (hc:c.length≤1048576) (hall:∀ x∈c,goodB x=true):ref26_Board_look B l c=some (match scanR (tV V) 0 0 c with | none=>(0,0,true) | some (o,n)=>(o,(n:Int),false)):=by
  unfold ref26_Board_look
  have h2:=loopC_fun (f:=ref26_Board_look_l1 B l c) (fun x=>∃ i n:Nat,x.2.2=i∧i≤c.length∧x.2.1=n∧n≤i) (fun x=>c.length - x.2.2.toNat) (fun x=>(match scanR (tV V) x.1 x.2.1.toNat (c.drop x.2.2.toNat) with | none=>Sum.inl () | some (o,n)=>Sum.inr (o,(n:Int)):Unit ⊕ (Int × Int))) (fun x hx=>by
    obtain⟨u,m,z⟩:=x
    obtain⟨i,n,e,hi,e2,hn⟩:=hx
    simp only at e e2
    subst e
    subst e2
    unfold ref26_Board_look_l1
    simp only[Int.toNat_natCast]
    rcases Nat.lt_or_ge i c.length with hlt | hge
    · rw[if_pos (by simpa using hlt),ixl_nat hlt]
      have hg:=hall _ (List.getElem_mem hlt)
      have hg':=goodB_iff.1 hg
      simp only[Option.bind_some]
      rw[is_eq h l hg,w64_id (x:=0 - c[i]) (by omega) (by omega),show 0 - c[i] = -c[i] by omega,is_eq h l (goodB_neg hg),tV_neg V hg'.1]
      simp only[Option.bind_some]
      rw[List.drop_eq_getElem_cons hlt,w64_n i (by omega),w64_n n (by omega)]
      have hv:=tV_val hS c[i]
      by_cases e1:tV V c[i]=1
      · left
        rw[scanR_cons,if_pos e1,if_pos (by simpa using e1)]
        rfl
      · right
        rw[if_neg (by simpa using e1)]
        by_cases e0:tV V c[i]=0
        · by_cases e3:c[i]=u
          · have hsc:scanR (tV V) u n (c[i] :: c.drop (i + 1))=scanR (tV V) u n (c.drop (i + 1)):=by rw[scanR_cons,if_neg e1,if_neg (fun q=>q.2 e3)]
            rw[hsc]
            exact⟨(u,(n:Int),((i + 1:Nat):Int)),by simp[e0,e3],⟨i + 1,n,rfl,hlt,rfl,by omega⟩,by simp only[Int.toNat_natCast]; omega,by simp only[Int.toNat_natCast]⟩
          · have hsc:scanR (tV V) u n (c[i] :: c.drop (i + 1))=scanR (tV V) c[i] (n + 1) (c.drop (i + 1)):=by rw[scanR_cons,if_neg e1,if_pos ⟨e0,e3⟩]
            rw[hsc]
            exact⟨(c[i],((n + 1:Nat):Int),((i + 1:Nat):Int)),by simp[e0,e3],⟨i + 1,n + 1,rfl,hlt,rfl,by omega⟩,by simp only[Int.toNat_natCast]; omega,by simp only[Int.toNat_natCast]⟩
        · have em:tV V c[i] = -1:=by omega
          have hsc:scanR (tV V) u n (c[i] :: c.drop (i + 1))=scanR (tV V) u n (c.drop (i + 1)):=by rw[scanR_cons,if_neg e1,if_neg (fun q=>e0 q.1)]
          rw[hsc]
          exact⟨(u,(n:Int),((i + 1:Nat):Int)),by simp[em],⟨i + 1,n,rfl,hlt,rfl,by omega⟩,by simp only[Int.toNat_natCast]; omega,by simp only[Int.toNat_natCast]⟩
    · left
      rw[if_neg (by simp; omega),List.drop_of_length_le hge]
      rfl) (x:=(0,0,(0:Int))) ⟨0,0,rfl,Nat.zero_le _,rfl,Nat.le_refl _⟩
  rw[h2]
  simp only[Int.toNat_zero,List.drop_zero,Option.bind_some]
  cases scanR (tV V) 0 0 c <;> rfl
theorem scanR_some {t:Int→Int}:∀ (c:List Int) (o:Int) (n:Nat),(∀ x∈c,t x≠1)→∃ o' n',scanR t o n c=some (o',n')∧n≤n'
  | [],o,n,_=>⟨o,n,rfl,Nat.le_refl _⟩
  | x :: c,o,n,h=>by
    rw[scanR_cons,if_neg (h x (List.mem_cons_self ..))]
    have hr:=fun y hy=>h y (List.mem_cons_of_mem x hy)
    split
    · obtain⟨o',n',h1,h2⟩:=scanR_some c x (n + 1) hr
      exact⟨o',n',h1,by omega⟩
    · exact scanR_some c o n hr
theorem scanR_none {t:Int→Int}:∀ (c:List Int) (o:Int) (n:Nat),(∃ x∈c,t x=1)→scanR t o n c=none
  | [],o,n,h=>by obtain⟨x,hx,_⟩:=h; cases hx
  | x :: c,o,n,h=>by
    rw[scanR_cons]
    by_cases e:t x=1
    · rw[if_pos e]
    · rw[if_neg e]
      have hr:∃ y∈c,t y=1:=by
        obtain⟨y,hy,h1⟩:=h
        rcases List.mem_cons.1 hy with rfl | hy
        · exact absurd h1 e
        · exact⟨y,hy,h1⟩
      split
      · exact scanR_none c x (n + 1) hr
      · exact scanR_none c o n hr
theorem scan_one {t:Int→Int}:∀ (c:List Int) (o:Int) (n:Nat),o≠0→(∀ x∈c,t x≠1)→(scanU t o c=some o∧scanR t o n c=some (o,n))∨(scanU t o c=none∧∃ o' n',scanR t o n c=some (o',n')∧n + 1≤n')
  | [],o,n,_,_=>.inl ⟨rfl,rfl⟩
  | x :: c,o,n,ho,h=>by
    rw[scanR_cons,if_neg (h x (List.mem_cons_self ..)),scanU_cons]
    have hr:=fun y hy=>h y (List.mem_cons_of_mem x hy)
    by_cases e:t x=0
    · rw[if_pos e]
      by_cases e2:o=x
      · subst e2
        rw[if_neg (fun q=>q.2 rfl),if_neg (fun q=>q.2 rfl)]
        exact scan_one c o n ho hr
      · rw[if_pos ⟨ho,e2⟩,if_pos ⟨e,fun q=>e2 q.symm⟩]
        obtain⟨o',n',h1,h2⟩:=scanR_some c x (n + 1) hr
        exact .inr ⟨rfl,o',n',h1,h2⟩
    · rw[if_neg e,if_neg (fun q=>e q.1)]
      exact scan_one c o n ho hr
theorem scan_two {t:Int→Int}:∀ (c:List Int),(∀ x∈c,x≠0)→(∀ x∈c,t x≠1)→(scanU t 0 c=some 0∧scanR t 0 0 c=some (0,0))∨(∃ u,u≠0∧u∈c∧t u=0∧scanU t 0 c=some u∧scanR t 0 0 c=some (u,1))∨(scanU t 0 c=none∧∃ o' n',scanR t 0 0 c=some (o',n')∧2≤n')
  | [],_,_=>.inl ⟨rfl,rfl⟩
  | x :: c,hz,h=>by
    rw[scanR_cons,if_neg (h x (List.mem_cons_self ..)),scanU_cons]
    have hr:=fun y hy=>h y (List.mem_cons_of_mem x hy)
    have hx:=hz x (List.mem_cons_self ..)
    by_cases e:t x=0
    · rw[if_pos e,if_neg (fun q=>q.1 rfl),if_pos ⟨e,hx⟩]
      rcases scan_one c x 1 hx hr with ⟨h1,h2⟩ | ⟨h1,h2⟩
      · exact .inr (.inl ⟨x,hx,List.mem_cons_self ..,e,h1,h2⟩)
      · exact .inr (.inr ⟨h1,h2⟩)
    · rw[if_neg e,if_neg (fun q=>e q.1)]
      rcases scan_two c (fun y hy=>hz y (List.mem_cons_of_mem x hy)) hr with h1 | ⟨u,h1,h2,h3⟩ | h1
      · exact .inl h1
      · exact .inr (.inl ⟨u,h1,List.mem_cons_of_mem x h2,h3⟩)
      · exact .inr (.inr h1)
end Go.Vm
/- Plain laws of chapter 26: the two runs are one. -/
namespace Go.Vm
open Go
theorem lenA_ok {α:Type} {m:Nat} {l:List α} (h:l.length=m):lenA m l=some ():=by
  unfold lenA
  rw[if_pos h]
theorem count_up {V:List Int} (h:Sheet V) {x:Int} (hx:goodB x=true) (h0:tV V x=0):(upV V x).count 0 + 1=V.count 0:=by
  have hx':=goodB_iff.1 hx
  have hk:x.natAbs < V.length:=by rw[h.len]; omega
  have hv:V.getD x.natAbs 0=0:=by
    unfold tV at h0
    split at h0 <;> omega
  have hv2:V[x.natAbs]=0:=by
    rw[List.getD_eq_getElem?_getD,List.getElem?_eq_getElem hk] at hv
    exact hv
  have hc:0 < V.count 0:=List.count_pos_iff.2 (hv2 ▸ List.getElem_mem hk)
  unfold upV
  rw[List.count_set hk,hv2]
  have:((if x < 0 then (-1:Int) else 1) == 0)=false:=by split <;> rfl
  rw[this]
  simp
  omega
def okU (V:List Int) (r q:Int):Prop:=r = -1∨(0≤r∧goodB q=true∧tV V q=0)
theorem step_sim {V:List Int} {B:List Bool} (hS:Sheet V) (hB:Board V B) (l:List S_api_Deduced) (cls:List (List Int)) (hn:cls.length≤1048576) (hl:∀ c∈cls,c.length≤1048576) :
    ∃ t u,loopC (prop_Run_l2 cls V l) (0, -1,0)=some t∧loopC (ref26_Board_step_l1 B l cls) (-1,0,0)=some u ∧
      ((∃ (i:Nat) (r q:Int),t=Sum.inl ((i:Int),r,q)∧u=Sum.inl (i:Int))∨∃ r q,t=Sum.inr (r,q)∧u=Sum.inr (r,q)∧okU V r q):=by
  refine loop2 (fun (a b:Int × Int × Int)=>∃ i:Nat,a.1=(i:Int)∧b.2.2=(i:Int)∧i≤cls.length∧a.2.1=b.1∧a.2.2=b.2.1∧okU V a.2.1 a.2.2)
    (fun t u=>(∃ (i:Nat) (r q:Int),t=Sum.inl ((i:Int),r,q)∧u=Sum.inl (i:Int))∨∃ r q,t=Sum.inr (r,q)∧u=Sum.inr (r,q)∧okU V r q)
    (fun a=>cls.length - a.1.toNat) (fun a b hI=>?_) ⟨0,rfl,rfl,Nat.zero_le _,rfl,rfl,.inl rfl⟩
  obtain⟨z,r,q⟩:=a
  obtain⟨r',q',z'⟩:=b
  obtain⟨i,e1,e2,hi,e3,e4,hok⟩:=hI
  simp only at e1 e2 e3 e4 hok
  subst e1 e2 e3 e4
  unfold prop_Run_l2 ref26_Board_step_l1
  simp only[]
  rcases Nat.lt_or_ge i cls.length with hlt | hge
  · rw[if_pos (by simpa using hlt),if_pos (by simpa using hlt),ixl_nat hlt]
    simp only[Option.bind_some]
    have hcl:=hl _ (List.getElem_mem hlt)
    rw[look_eq hS l _ hcl,clean_eq _ hcl,w64_n i (by omega)]
    simp only[Option.bind_some]
    have nxt:(∃ i2:Nat,((i + 1:Nat):Int)=i2∧((i + 1:Nat):Int)=i2∧i2≤cls.length∧r=r∧q=q∧okU V r q)∧cls.length - ((i + 1:Nat):Int).toNat < cls.length - ((i:Nat):Int).toNat:=
      ⟨⟨i + 1,rfl,rfl,hlt,rfl,rfl,hok⟩,by simp only[Int.toNat_natCast]; omega⟩
    cases hall:cls[i].all goodB with
    | false=>
      right
      have hcs:clS V cls[i]=none:=by
        unfold clS
        rw[if_pos]
        unfold trueB
        rw[List.any_eq_true]
        obtain⟨x,hx,hg⟩:=List.all_eq_false.1 hall
        exact⟨x,hx,by simp[hg]⟩
      rw[hcs]
      exact⟨(((i + 1:Nat):Int),r,q),(r,q,((i + 1:Nat):Int)),rfl,rfl,nxt.1,nxt.2⟩
    | true=>
      have hall':∀ x∈cls[i],goodB x=true:=List.all_eq_true.1 hall
      simp only[Bool.not_true,Bool.false_eq_true,if_false]
      rw[rlook_eq hS hB l _ hcl hall']
      by_cases ht:∃ x∈cls[i],tV V x=1
      · right
        have hcs:clS V cls[i]=none:=by
          unfold clS
          rw[if_pos]
          unfold trueB
          rw[List.any_eq_true]
          obtain⟨x,hx,hg⟩:=ht
          exact⟨x,hx,by simp[hg]⟩
        rw[hcs,scanR_none _ _ _ ht]
        exact⟨(((i + 1:Nat):Int),r,q),(r,q,((i + 1:Nat):Int)),rfl,rfl,nxt.1,nxt.2⟩
      · have ht':∀ x∈cls[i],tV V x≠1:=fun x hx e=>ht ⟨x,hx,e⟩
        have hcs:clS V cls[i]=scanU (tV V) 0 cls[i]:=by
          unfold clS
          rw[if_neg]
          unfold trueB
          rw[List.any_eq_true]
          rintro⟨x,hx,hg⟩
          simp[hall' x hx,ht' x hx] at hg
        rw[hcs]
        rcases scan_two cls[i] (fun x hx=>(goodB_iff.1 (hall' x hx)).1) ht' with ⟨s1,s2⟩ | ⟨u,s0,sm,st,s1,s2⟩ | ⟨s1,o',n',s2,s3⟩
        · left
          rw[s1,s2]
          refine⟨Sum.inl ((i:Int),r,q),Sum.inl (i:Int),?_,rfl,.inl ⟨i,r,q,rfl,rfl⟩⟩
          simp only[beq_self_eq_true,Bool.true_or,if_true,lenA_ok hS.len,Option.bind_some]
        · right
          rw[s1,s2]
          have hu:(u == 0)=false:=by simpa using s0
          have hu2:(u != 0)=true:=by simpa using s0
          rcases hok with rfl | ⟨k1,k2,k3⟩
          · refine⟨(((i + 1:Nat):Int),(i:Int),u),((i:Int),u,((i + 1:Nat):Int)),?_,?_,⟨i + 1,rfl,rfl,hlt,rfl,rfl,.inr ⟨Int.natCast_nonneg i,hall' u sm,st⟩⟩,nxt.2⟩
            · simp[hu,hu2]
            · simp
          · refine⟨(((i + 1:Nat):Int),r,q),(r,q,((i + 1:Nat):Int)),?_,?_,nxt.1,nxt.2⟩
            · have:decide (r < 0)=false:=by rw[decide_eq_false_iff_not]; omega
              simp[hu,hu2,this]
            · have:decide (r < 0)=false:=by rw[decide_eq_false_iff_not]; omega
              simp[this]
        · right
          rw[s1,s2]
          refine⟨(((i + 1:Nat):Int),r,q),(r,q,((i + 1:Nat):Int)),rfl,?_,nxt.1,nxt.2⟩
          have h1:(((n':Nat):Int) == 0)=false:=by
            have:((n':Nat):Int)≠0:=by omega
            simpa using this
          have h2:(((n':Nat):Int) == 1)=false:=by
            have:((n':Nat):Int)≠1:=by omega
            simpa using this
          simp only[h1,h2,Bool.not_false,Bool.true_and,Bool.false_eq_true,if_false,Bool.false_and,Bool.and_false,Option.bind_some]
  · left
    rw[if_neg (by simp; omega),if_neg (by simp; omega)]
    exact⟨_,_,rfl,rfl,.inr ⟨r,q,rfl,rfl,hok⟩⟩
structure Bth (V:List Int) (B:List Bool) (l:List S_api_Deduced):Prop where
  s:Sheet V
  b:Board V B
  n:l.length + V.count 0≤4097
theorem Bth.up {V:List Int} {B:List Bool} {l:List S_api_Deduced} (h:Bth V B l) {x r:Int} (hx:goodB x=true) (h0:tV V x=0):Bth (upV V x) (upB B x) (l ++ [⟨x,r⟩]):=
  ⟨sheet_up h.s hx,board_up h.s h.b hx h0,by
    have:=h.n
    have:=count_up h.s hx h0
    simp only[List.length_append,List.length_singleton]
    omega⟩
theorem run_sim (cls:List (List Int)) (hn:cls.length≤1048576) (hl:∀ c∈cls,c.length≤1048576) {V:List Int} {B:List Bool} {l:List S_api_Deduced} (h:Bth V B l) :
    ∃ t u,loopC (prop_Run_l3 cls) (V,l)=some t∧loopC (ref26_Run_l2 cls) (B,l)=some u∧u.1.length≤4097 ∧
      (t=Sum.inl u∨∃ V',t=Sum.inr (V',u.1)∧V'.length=4097∧u.2 = -1):=by
  refine loop2 (fun (a:List Int × List S_api_Deduced) (b:List Bool × List S_api_Deduced)=>a.2=b.2∧Bth a.1 b.1 a.2)
    (fun (t:(List S_api_Deduced × Int) ⊕ (List Int × List S_api_Deduced)) (u:List S_api_Deduced × Int)=>u.1.length≤4097∧(t=Sum.inl u∨∃ V',t=Sum.inr (V',u.1)∧V'.length=4097∧u.2 = -1))
    (fun a=>a.1.count 0) (fun a b hI=>?_) (a:=(V,l)) (b:=(B,l)) ⟨rfl,h⟩
  obtain⟨V,l⟩:=a
  obtain⟨B,l'⟩:=b
  obtain⟨e,hB⟩:=hI
  simp only at e hB
  subst e
  have hn4:=hB.n
  unfold prop_Run_l3 ref26_Run_l2
  simp only[]
  rw[show prop_sheet_counts V l cls=some () from rfl]
  simp only[Option.bind_some]
  unfold ref26_Board_step
  obtain⟨t,u,h1,h2,h3⟩:=step_sim hB.s hB.b l cls hn hl
  rw[h1,h2]
  simp only[Option.bind_some]
  rcases h3 with ⟨i,r,q,rfl,rfl⟩ | ⟨r,q,rfl,rfl,hok⟩
  · left
    refine⟨_,(l,(i:Int)),rfl,?_,by simp only; omega,.inl rfl⟩
    have:((i:Int) != -3)=true:=bne_iff_ne.2 (by omega)
    simp only[Option.bind_some,this,if_true,lenA_ok hB.b.len]
  · rcases hok with rfl | ⟨k1,k2,k3⟩
    · left
      refine⟨_,(l,(-1:Int)),rfl,?_,by simp only; omega,.inr ⟨V,rfl,hB.s.len,rfl⟩⟩
      simp[lenA_ok hB.b.len]
    · right
      have:decide (r < 0)=false:=by rw[decide_eq_false_iff_not]; omega
      simp only[this,Bool.false_eq_true,if_false]
      rw[set_eq26 hB.s (by omega) k2,add_eq hB.b (by omega) k2]
      refine⟨(upV V q,l ++ [⟨q,r⟩]),(upB B q,l ++ [⟨q,r⟩]),rfl,by simp[upB],⟨rfl,hB.up k2 k3⟩,?_⟩
      have:=count_up hB.s k2 k3
      simp only
      omega
theorem assume_sim (a:List Int) (ha:a.length≤1048576) {V:List Int} {B:List Bool} {l:List S_api_Deduced} (h:Bth V B l) :
    ∃ t u,loopC (prop_Run_l1 a) (V,l,0)=some t∧loopC (ref26_Run_l1 a) (B,l,0)=some u ∧
      ((∃ l',t=Sum.inl l'∧u=Sum.inl l'∧l'.length≤4097)∨∃ V' B' l',t=Sum.inr (V',l')∧u=Sum.inr (B',l')∧Bth V' B' l'):=by
  refine loop2 (fun (p:List Int × List S_api_Deduced × Int) (b:List Bool × List S_api_Deduced × Int)=>p.2.1=b.2.1∧Bth p.1 b.1 p.2.1∧∃ i:Nat,p.2.2=(i:Int)∧b.2.2=(i:Int)∧i≤a.length)
    (fun (t:(List S_api_Deduced) ⊕ (List Int × List S_api_Deduced)) (u:(List S_api_Deduced) ⊕ (List Bool × List S_api_Deduced))=>(∃ l',t=Sum.inl l'∧u=Sum.inl l'∧l'.length≤4097)∨∃ V' B' l',t=Sum.inr (V',l')∧u=Sum.inr (B',l')∧Bth V' B' l')
    (fun p=>a.length - p.2.2.toNat) (fun p b hI=>?_) (a:=(V,l,(0:Int))) (b:=(B,l,(0:Int))) ⟨rfl,h,0,rfl,rfl,Nat.zero_le _⟩
  obtain⟨V,l,z⟩:=p
  obtain⟨B,l',z'⟩:=b
  obtain⟨e,hB,i,e1,e2,hi⟩:=hI
  simp only at e hB e1 e2
  subst e e1 e2
  have hn4:=hB.n
  unfold prop_Run_l1 ref26_Run_l1
  simp only[]
  rcases Nat.lt_or_ge i a.length with hlt | hge
  · rw[if_pos (by simpa using hlt),if_pos (by simpa using hlt),ixl_nat hlt]
    simp only[Option.bind_some,literal_eq,good_eq]
    rw[w64_n i (by omega)]
    cases hg:goodB a[i] with
    | false=>
      right
      exact⟨(V,l,((i + 1:Nat):Int)),(B,l,((i + 1:Nat):Int)),rfl,rfl,⟨rfl,hB,i + 1,rfl,rfl,hlt⟩,by simp only[Int.toNat_natCast]; omega⟩
    | true=>
      have hg':=goodB_iff.1 hg
      simp only[Bool.not_true,Bool.false_eq_true,if_false]
      rw[of_eq hB.s l hg,is_eq hB.b l hg,w64_id (x:=0 - a[i]) (by omega) (by omega),show 0 - a[i] = -a[i] by omega,is_eq hB.b l (goodB_neg hg),tV_neg V hg'.1]
      simp only[Option.bind_some]
      rcases tV_val hB.s a[i] with e | e | e
      · right
        rw[e,set_eq26 hB.s (by omega) hg,add_eq hB.b (by omega) hg]
        refine⟨(upV V a[i],l ++ [⟨a[i], -1⟩],((i + 1:Nat):Int)),(upB B a[i],l ++ [⟨a[i], -1⟩],((i + 1:Nat):Int)),rfl,rfl,⟨rfl,hB.up hg e,i + 1,rfl,rfl,hlt⟩,by simp only[Int.toNat_natCast]; omega⟩
      · right
        rw[e]
        exact⟨(V,l,((i + 1:Nat):Int)),(B,l,((i + 1:Nat):Int)),rfl,rfl,⟨rfl,hB,i + 1,rfl,rfl,hlt⟩,by simp only[Int.toNat_natCast]; omega⟩
      · left
        rw[e,lenA_ok hB.s.len,lenA_ok hB.b.len]
        exact⟨Sum.inl l,Sum.inl l,rfl,rfl,.inl ⟨l,rfl,rfl,by omega⟩⟩
  · left
    rw[if_neg (by simp; omega),if_neg (by simp; omega)]
    exact⟨_,_,rfl,rfl,.inr ⟨V,B,l,rfl,rfl,hB⟩⟩
theorem bth0:Bth (List.replicate 4097 0) (List.replicate 8193 false) []:=by
  have hz:∀ k,(List.replicate 4097 (0:Int)).getD k 0=0:=fun k=>by
    rw[List.getD_eq_getElem?_getD,List.getElem?_replicate]
    split <;> rfl
  refine⟨⟨List.length_replicate,fun k=>.inl (hz k)⟩,⟨List.length_replicate,fun x hx=>?_⟩,by rw[List.count_replicate_self]; exact Nat.le_refl _⟩
  rw[List.getD_eq_getElem?_getD,List.getElem?_replicate]
  have:tV (List.replicate 4097 0) x=0:=by
    unfold tV
    rw[hz]
    split <;> rfl
  rw[this]
  split <;> rfl
theorem run_same (cls:List (List Int)) (a:List Int) (hn:cls.length≤1048576) (hl:∀ c∈cls,c.length≤1048576) (ha:a.length≤1048576):∃ r:List S_api_Deduced × Int,prop_Run cls a=some r∧ref26_Run cls a=some r∧r.1.length≤4097:=by
  unfold prop_Run ref26_Run
  obtain⟨t,u,h1,h2,h3⟩:=assume_sim a ha bth0
  rw[h1,h2]
  simp only[Option.bind_some]
  rcases h3 with ⟨l',rfl,rfl,hl'⟩ | ⟨V,B,l,rfl,rfl,hB⟩
  · exact⟨(l', -2),rfl,rfl,hl'⟩
  · simp only[]
    obtain⟨t,u,k1,k2,k3,k4⟩:=run_sim cls hn hl hB
    rw[k1,k2]
    simp only[Option.bind_some]
    rcases k4 with rfl | ⟨V',rfl,k5,k6⟩
    · exact⟨u,rfl,rfl,k3⟩
    · simp only[lenA_ok k5,Option.bind_some]
      exact⟨u,by rw[← k6],rfl,k3⟩
end Go.Vm
/- Plain laws of chapter 26: PropRuns. -/
namespace Go.Vm
open Go
theorem few_eq (a:List (List Int)) (h:a.length≤1048576):law26_few a=some (a.take 60):=by
  unfold law26_few subl
  by_cases e:60 < (a.length:Int)
  · rw[if_pos e,if_pos (by omega)]
    simp
  · rw[if_neg e,if_pos (by omega)]
    simp only[Option.bind_some,Int.toNat_natCast,Int.toNat_zero,List.drop_zero,Nat.sub_zero,List.take_length]
    rw[List.take_of_length_le (by omega)]
theorem row_len {s:List (List Int)} (ms:((s.map fun y=>((y.map fun y=>1).sum + 1)).sum + 1)≤1048576):s.length≤1048576∧∀ c∈s,c.length≤1048576:=by
  have key:∀ s:List (List Int),s.length≤(s.map fun y=>((y.map fun y=>1).sum + 1)).sum∧∀ c∈s,c.length≤(s.map fun y=>((y.map fun y=>1).sum + 1)).sum:=by
    intro s
    induction s with
    | nil=>exact⟨Nat.le_refl _,fun c hc=>by cases hc⟩
    | cons x s ih=>
      have hx:(x.map fun _=>1).sum=x.length:=by simp[List.map_const',List.sum_replicate_nat]
      simp only[List.map_cons,List.sum_cons,List.length_cons,hx]
      refine⟨by have:=ih.1; omega,fun c hc=>?_⟩
      rcases List.mem_cons.1 hc with rfl | hc
      · omega
      · have:=ih.2 c hc
        omega
  obtain⟨h1,h2⟩:=key s
  exact⟨by omega,fun c hc=>by have:=h2 c hc; omega⟩
end Go.Vm
/- Plain laws of chapter 26: what a run tells is true wherever the clauses and what is assumed are. -/
set_option linter.unusedSectionVars false
namespace Go.Vm
open Go
def smallB (x:Int):Prop:=x≠0 ∧ -30≤x∧x≤30
theorem small_good {x:Int} (h:smallB x):goodB x=true:=goodB_iff.2 ⟨h.1,by have:=h.2; omega,by have:=h.2; omega⟩
theorem scanU_all {t:Int→Int}:∀ (c:List Int) (u v:Int),(∀ x∈c,x≠0)→scanU t u c=some v→(u≠0→v=u)∧(∀ x∈c,t x=0→x=v)
  | [],u,v,_,h=>by
    cases h
    exact⟨fun _=>rfl,fun x hx=>by cases hx⟩
  | y :: c,u,v,hz,h=>by
    rw[scanU_cons] at h
    have hr:=fun x hx=>hz x (List.mem_cons_of_mem y hx)
    have hy:=hz y (List.mem_cons_self ..)
    split at h
    · rename_i e
      split at h
      · cases h
      · rename_i e2
        obtain⟨h1,h2⟩:=scanU_all c y v hr h
        have hv:=h1 hy
        refine⟨fun hu=>?_,fun x hx ht=>?_⟩
        · have:u=y:=Classical.byContradiction fun q=>e2 ⟨hu,q⟩
          rw[hv,this]
        · rcases List.mem_cons.1 hx with rfl | hx
          · exact hv.symm
          · exact h2 x hx ht
    · rename_i e
      obtain⟨h1,h2⟩:=scanU_all c u v hr h
      refine⟨h1,fun x hx ht=>?_⟩
      rcases List.mem_cons.1 hx with rfl | hx
      · exact absurd ht e
      · exact h2 x hx ht
section
variable {is:Int→Bool} (hneg:∀ x,smallB x→is (-x) = !is x)
include hneg
def TrueBy (is:Int→Bool) (V:List Int):Prop:=∀ y,goodB y=true→tV V y=1→smallB y∧is y=true
theorem not_false {V:List Int} (hI:TrueBy is V) {y:Int} (hy:smallB y) (h1:is y=true):tV V y ≠ -1:=fun e=>by
  have h2:tV V (-y)=1:=by rw[tV_neg V hy.1,e]; rfl
  have:=(hI (-y) (goodB_neg (small_good hy)) h2).2
  rw[hneg y hy,h1] at this
  cases this
theorem clause_true {V:List Int} (hS:Sheet V) (hI:TrueBy is V) {c:List Int} (hc:∀ x∈c,smallB x) (hs:∃ y∈c,is y=true) {v:Int} (h:clS V c=some v):smallB v∧is v=true∧tV V v=0:=by
  unfold clS at h
  split at h
  · cases h
  · rename_i ht
    obtain⟨y,hy,h1⟩:=hs
    have hsm:=hc y hy
    have hn1:tV V y≠1:=fun e=>ht (by
      unfold trueB
      rw[List.any_eq_true]
      exact⟨y,hy,by simp[e]⟩)
    have hn2:=not_false hneg hI hsm h1
    have h0:tV V y=0:=by
      have:=tV_val hS y
      omega
    have:=(scanU_all c 0 v (fun x hx=>(hc x hx).1) h).2 y hy h0
    rw[← this]
    exact⟨hsm,h1,h0⟩
theorem TrueBy.up {V:List Int} (hS:Sheet V) (hI:TrueBy is V) {x:Int} (hx:smallB x) (h1:is x=true):TrueBy is (upV V x):=fun y hy ht=>by
  rw[tV_up hS.len (small_good hx)] at ht
  split at ht
  · rename_i e; rw[e]; exact⟨hx,h1⟩
  · split at ht
    · omega
    · exact hI y hy ht
theorem step_true {V:List Int} (hS:Sheet V) (hI:TrueBy is V) (l:List S_api_Deduced) (cls:List (List Int)) (hn:cls.length≤1048576) (hl:∀ c∈cls,c.length≤1048576) (hsm:∀ c∈cls,∀ x∈c,smallB x) (hs:∀ c∈cls,∃ y∈c,is y=true) :
    ∃ r q,loopC (prop_Run_l2 cls V l) (0, -1,0)=some (Sum.inr (r,q))∧(r = -1∨(0≤r∧smallB q∧is q=true∧tV V q=0)):=by
  obtain⟨t,h1,r,q,rfl,h2⟩:=loopC_inv (f:=prop_Run_l2 cls V l) (fun x=>∃ i:Nat,x.1=(i:Int)∧i≤cls.length∧(x.2.1 = -1∨(0≤x.2.1∧smallB x.2.2∧is x.2.2=true∧tV V x.2.2=0))) (fun x=>cls.length - x.1.toNat)
    (fun t=>∃ r q,t=Sum.inr (r,q)∧(r = -1∨(0≤r∧smallB q∧is q=true∧tV V q=0))) (fun x hx=>by
    obtain⟨z,r,q⟩:=x
    obtain⟨i,e,hi,hok⟩:=hx
    simp only at e hok
    subst e
    unfold prop_Run_l2
    simp only[]
    rcases Nat.lt_or_ge i cls.length with hlt | hge
    · right
      have hm:=List.getElem_mem hlt
      rw[if_pos (by simpa using hlt),ixl_nat hlt]
      simp only[Option.bind_some]
      rw[look_eq hS l _ (hl _ hm),w64_n i (by omega)]
      cases hcs:clS V cls[i] with
      | none=>exact⟨(((i + 1:Nat):Int),r,q),rfl,⟨i + 1,rfl,hlt,hok⟩,by simp only[Int.toNat_natCast]; omega⟩
      | some v=>
        obtain⟨v1,v2,v3⟩:=clause_true hneg hS hI (hsm _ hm) (hs _ hm) hcs
        have hu:(v == 0)=false:=by simpa using v1.1
        have hu2:(v != 0)=true:=by simpa using v1.1
        simp only[Option.bind_some,hu,hu2,Bool.false_or,if_true,Bool.false_eq_true,if_false]
        rcases hok with rfl | ⟨k1,k2⟩
        · exact⟨(((i + 1:Nat):Int),(i:Int),v),by simp,⟨i + 1,rfl,hlt,.inr ⟨Int.natCast_nonneg i,v1,v2,v3⟩⟩,by simp only[Int.toNat_natCast]; omega⟩
        · have:decide (r < 0)=false:=by rw[decide_eq_false_iff_not]; omega
          exact⟨(((i + 1:Nat):Int),r,q),by simp[this],⟨i + 1,rfl,hlt,.inr ⟨k1,k2⟩⟩,by simp only[Int.toNat_natCast]; omega⟩
    · left
      rw[if_neg (by simp; omega)]
      exact⟨_,rfl,r,q,rfl,hok⟩) (x:=((0:Int),(-1:Int),(0:Int))) ⟨0,rfl,Nat.zero_le _,.inl rfl⟩
  exact⟨r,q,h1,h2⟩
end
end Go.Vm
/- Plain laws of chapter 26: PropSound. -/
namespace Go.Vm
open Go
theorem tV0 (y:Int) (h:tV (List.replicate 4097 0) y=1):False:=by
  have hz:∀ k,(List.replicate 4097 (0:Int)).getD k 0=0:=fun k=>by
    rw[List.getD_eq_getElem?_getD,List.getElem?_replicate]
    split <;> rfl
  have:tV (List.replicate 4097 0) y=0:=by
    unfold tV
    rw[hz]
    split <;> rfl
  rw[this] at h
  exact absurd h (by decide)
theorem run_true {is:Int→Bool} (hneg:∀ x,smallB x→is (-x) = !is x) (cls:List (List Int)) (a:List Int) (hn:cls.length≤1048576) (hl:∀ c∈cls,c.length≤1048576) (ha:a.length≤1048576) (hsm:∀ c∈cls,∀ x∈c,smallB x) (hs:∀ c∈cls,∃ y∈c,is y=true) (am:∀ x∈a,smallB x∧is x=true) :
    ∃ l,prop_Run cls a=some (l, -1)∧l.length≤4097∧∀ d∈l,is d.Lit=true:=by
  have gen:∀ V0,Sheet V0→TrueBy is V0→V0.count 0≤4097→∃ V l,loopC (prop_Run_l1 a) (V0,[],0)=some (Sum.inr (V,l))∧Sheet V∧TrueBy is V∧l.length + V.count 0≤4097∧∀ d∈l,is d.Lit=true:=fun V0 hV1 hV2 hV3=>by
    obtain⟨t,h1,V,l,rfl,h2⟩:=loopC_inv (f:=prop_Run_l1 a) (fun x=>∃ i:Nat,x.2.2=(i:Int)∧i≤a.length∧Sheet x.1∧TrueBy is x.1∧x.2.1.length + x.1.count 0≤4097∧∀ d∈x.2.1,is d.Lit=true) (fun x=>a.length - x.2.2.toNat)
      (fun t=>∃ V l,t=Sum.inr (V,l)∧Sheet V∧TrueBy is V∧l.length + V.count 0≤4097∧∀ d∈l,is d.Lit=true) (fun x hx=>by
      obtain⟨V,l,z⟩:=x
      obtain⟨i,e,hi,hS,hI,hc,hd⟩:=hx
      simp only at e hS hI hc hd
      subst e
      unfold prop_Run_l1
      simp only[]
      rcases Nat.lt_or_ge i a.length with hlt | hge
      · right
        obtain⟨am1,am2⟩:=am _ (List.getElem_mem hlt)
        have hg:=small_good am1
        rw[if_pos (by simpa using hlt),ixl_nat hlt]
        simp only[Option.bind_some,literal_eq,hg,Bool.not_true,Bool.false_eq_true,if_false]
        rw[of_eq hS l hg,w64_n i (by omega)]
        simp only[Option.bind_some]
        have hn2:=not_false hneg hI am1 am2
        rcases tV_val hS a[i] with e | e | e
        · rw[e,set_eq26 hS (by omega) hg]
          refine⟨(upV V a[i],l ++ [⟨a[i], -1⟩],((i + 1:Nat):Int)),rfl,⟨i + 1,rfl,hlt,sheet_up hS hg,TrueBy.up hneg hS hI am1 am2,?_,?_⟩,by simp only[Int.toNat_natCast]; omega⟩
          · have:=count_up hS hg e
            simp only[List.length_append,List.length_singleton]
            omega
          · intro d hd2
            rcases List.mem_append.1 hd2 with hd2 | hd2
            · exact hd d hd2
            · rw[List.mem_singleton.1 hd2]; exact am2
        · rw[e]
          exact⟨(V,l,((i + 1:Nat):Int)),rfl,⟨i + 1,rfl,hlt,hS,hI,hc,hd⟩,by simp only[Int.toNat_natCast]; omega⟩
        · exact absurd e hn2
      · left
        rw[if_neg (by simp; omega)]
        exact⟨_,rfl,V,l,rfl,hS,hI,hc,hd⟩) (x:=(V0,([]:List S_api_Deduced),(0:Int))) ⟨0,rfl,Nat.zero_le _,hV1,hV2,by simp only[List.length_nil,Nat.zero_add]; exact hV3,fun d hd=>by cases hd⟩
    exact⟨V,l,h1,h2⟩
  obtain⟨V,l,h1,hS,hI,hc,hd⟩:=gen _ bth0.s (fun y _ ht=>(tV0 y ht).elim) (by have:=bth0.n; rw[List.length_nil,Nat.zero_add] at this; exact this)
  obtain⟨t,k1,V',l',rfl,k2,k3,k4⟩:=loopC_inv (f:=prop_Run_l3 cls) (fun x=>Sheet x.1∧TrueBy is x.1∧x.2.length + x.1.count 0≤4097∧∀ d∈x.2,is d.Lit=true) (fun x=>x.1.count 0)
    (fun t=>∃ V l,t=Sum.inr (V,l)∧V.length=4097∧l.length≤4097∧∀ d∈l,is d.Lit=true) (fun x hx=>by
    obtain⟨V,l⟩:=x
    obtain⟨hS,hI,hc,hd⟩:=hx
    simp only at hS hI hc hd
    unfold prop_Run_l3
    simp only[]
    rw[show prop_sheet_counts V l cls=some () from rfl]
    simp only[Option.bind_some]
    obtain⟨r,q,h1,h2⟩:=step_true hneg hS hI l cls hn hl hsm hs
    rw[h1]
    simp only[Option.bind_some]
    rcases h2 with rfl | ⟨g1,g2,g3,g4⟩
    · left
      exact⟨_,rfl,V,l,rfl,hS.len,by omega,hd⟩
    · right
      have hg:=small_good g2
      have:decide (r < 0)=false:=by rw[decide_eq_false_iff_not]; omega
      simp only[this,Bool.false_eq_true,if_false]
      rw[set_eq26 hS (by omega) hg]
      have hcu:=count_up hS hg g4
      refine⟨(upV V q,l ++ [⟨q,r⟩]),rfl,⟨sheet_up hS hg,TrueBy.up hneg hS hI g2 g3,?_,?_⟩,by simp only; omega⟩
      · simp only[List.length_append,List.length_singleton]
        omega
      · intro d hd2
        rcases List.mem_append.1 hd2 with hd2 | hd2
        · exact hd d hd2
        · rw[List.mem_singleton.1 hd2]; exact g3) (x:=(V,l)) ⟨hS,hI,hc,hd⟩
  refine⟨l',?_,k3,k4⟩
  unfold prop_Run
  rw[h1]
  simp only[Option.bind_some]
  rw[k1]
  simp only[Option.bind_some,lenA_ok k2]
theorem and1 (s:Int):∃ r,andI .u32 s 1=some r∧(r=0∨r=1):=by
  refine⟨_,rfl,?_⟩
  have h:(BitVec.ofInt IntKind.u32.bits s &&& BitVec.ofInt IntKind.u32.bits 1).toNat=(BitVec.ofInt 32 s).toNat % 2:=by
    show (BitVec.ofInt 32 s &&& 1#32).toNat=_
    rw[BitVec.toNat_and]
    exact Nat.and_one_is_mod _
  rw[h]
  rcases Nat.mod_two_eq_zero_or_one (BitVec.ofInt 32 s).toNat with e | e
  · rw[e]; exact .inl (by decide)
  · rw[e]; exact .inr (by decide)
theorem is_pos (b:Int) {x:Int} (h0:0 < x) (h1:x < 31):∃ r:Int,(r=0∨r=1)∧law26_PropSound_1_sb011 x b=some (r == 1)∧law26_PropSound_1_sb011 (-x) b=some (r == 0):=by
  obtain⟨r,hr,hr2⟩:=and1 (b.fdiv (2 ^ (min x.toNat IntKind.u32.bits)))
  have hsh:shrI .u32 b x=some (b.fdiv (2 ^ (min x.toNat IntKind.u32.bits))):=by
    unfold shrI
    rw[if_neg (by omega)]
  refine⟨r,hr2,?_,?_⟩
  · unfold law26_PropSound_1_sb011
    rw[if_pos (by simp[h0,h1]),hsh]
    simp only[Option.bind_some,hr]
    have hx0:decide (x < 0)=false:=by rw[decide_eq_false_iff_not]; omega
    cases hb:(r == 1) with
    | true=>rfl
    | false=>simp[hx0]
  · unfold law26_PropSound_1_sb011
    rw[if_neg (by simp; omega),w64_id (x:=0 - -x) (by omega) (by omega),show 0 - -x=x by omega,hsh,if_pos (by simp; omega)]
    simp only[Option.bind_some,hr,Bool.false_eq_true,if_false,Bool.false_or]
noncomputable def isB (b x:Int):Bool:=(law26_PropSound_1_sb011 x b).getD false
theorem isB_small (b:Int) {x:Int} (h:smallB x):law26_PropSound_1_sb011 x b=some (isB b x)∧isB b (-x) = !isB b x:=by
  unfold isB
  have key:∀ r:Int,(r=0∨r=1)→(r == 0) = !(r == 1):=by
    rintro r (rfl | rfl) <;> rfl
  obtain⟨h0,h1,h2⟩:=h
  by_cases hp:0 < x
  · obtain⟨r,hr,e1,e2⟩:=is_pos b hp (by omega)
    rw[e1,e2]
    exact⟨rfl,key r hr⟩
  · obtain⟨r,hr,e1,e2⟩:=is_pos b (x:= -x) (by omega) (by omega)
    rw[Int.neg_neg] at e2
    rw[e1,e2]
    refine⟨rfl,?_⟩
    show (r == 1) = !(r == 0)
    rw[key r hr,Bool.not_not]
theorem holds_eq (b:Int) (c:List Int) (hc:c.length≤1048576) (hsm:∀ x∈c,smallB x):law26_PropSound_2_sb1f3 c b=some (c.any (isB b)):=by
  unfold law26_PropSound_2_sb1f3
  have h1:=loopC_fun (f:=law26_PropSound_2_sb1f3_l1 c b) (fun x=>∃ i:Nat,x=i∧i≤c.length) (fun x=>c.length - x.toNat) (fun x=>cond ((c.drop x.toNat).any (isB b)) (Sum.inl ()) (Sum.inr ())) (fun x hx=>by
    obtain⟨i,rfl,hi⟩:=hx
    unfold law26_PropSound_2_sb1f3_l1
    simp only[Int.toNat_natCast]
    rcases Nat.lt_or_ge i c.length with hlt | hge
    · rw[if_pos (by simpa using hlt),ixl_nat hlt]
      simp only[Option.bind_some]
      rw[(isB_small b (hsm _ (List.getElem_mem hlt))).1,List.drop_eq_getElem_cons hlt]
      simp only[Option.bind_some,List.any_cons]
      cases hg:isB b c[i] with
      | true=>left; rfl
      | false=>
        right
        rw[w64_n i (by omega)]
        exact⟨_,rfl,⟨i + 1,rfl,hlt⟩,by omega,by simp only[Int.toNat_natCast,Bool.false_or]⟩
    · left
      rw[if_neg (by simp; omega),List.drop_of_length_le hge]
      rfl) (x:=0) ⟨0,rfl,Nat.zero_le _⟩
  rw[h1]
  simp only[Int.toNat_zero,List.drop_zero,Option.bind_some]
  cases c.any (isB b) <;> rfl
theorem follows_eq (b:Int) (cls:List (List Int)) (c:List Int) (hn:cls.length≤1048576) (hl:∀ c∈cls,c.length≤1048576) (hc:c.length≤1048576) (hsm:∀ c∈cls,∀ x∈c,smallB x) (hs:∀ c∈cls,∃ y∈c,isB b y=true) (hcs:∀ x∈c,smallB x) :
    ∃ r,prop_Follows cls c=some r∧(c.any (isB b)=false→r=false):=by
  unfold prop_Follows
  have h1:=loopC_fun (f:=prop_Follows_l1 c) (fun x=>∃ i:Nat,x.2=(i:Int)∧i≤c.length∧x.1.length=i) (fun x=>c.length - x.2.toNat) (fun x=>(Sum.inr (x.1 ++ (c.drop x.2.toNat).map fun y=> -y):Unit ⊕ List Int)) (fun x hx=>by
    obtain⟨acc,z⟩:=x
    obtain⟨i,e,hi,hacc⟩:=hx
    simp only at e hacc
    subst e
    unfold prop_Follows_l1
    simp only[Int.toNat_natCast]
    rcases Nat.lt_or_ge i c.length with h | h
    · right
      have hsi:=hcs _ (List.getElem_mem h)
      have hsi':=hsi.2
      rw[if_pos (by simpa using h),ixl_nat h]
      simp only[Option.bind_some,literal_eq,small_good hsi,Bool.not_true,Bool.false_eq_true,if_false]
      rw[app_ok (by simp only[List.length_singleton]; omega) (by simp only[List.length_singleton]; omega),w64_n i (by omega),w64_id (x:=0 - c[i]) (by omega) (by omega),show 0 - c[i] = -c[i] by omega]
      refine⟨_,rfl,⟨i + 1,rfl,h,by simp[hacc]⟩,by simp only[Int.toNat_natCast]; omega,?_⟩
      simp only[Int.toNat_natCast]
      rw[List.drop_eq_getElem_cons h,List.map_cons,List.append_assoc]
      rfl
    · left
      rw[if_neg (by simp; omega),List.drop_of_length_le h]
      simp) (x:=(([]:List Int),(0:Int))) ⟨0,rfl,Nat.zero_le _,rfl⟩
  rw[h1]
  simp only[Int.toNat_zero,List.drop_zero,List.nil_append,Option.bind_some]
  rw[show ∀ a,prop_Run_m8296 cls a=prop_Run cls a from fun _=>rfl]
  obtain⟨r,k1,_,_⟩:=run_same cls (c.map fun y=> -y) hn hl (by rw[List.length_map]; exact hc)
  rw[k1]
  refine⟨_,rfl,fun hf=>?_⟩
  obtain⟨l,g1,_,_⟩:=run_true (is:=isB b) (fun x hx=>(isB_small b hx).2) cls (c.map fun y=> -y) hn hl (by rw[List.length_map]; exact hc) hsm hs (fun x hx=>by
    obtain⟨y,hy,rfl⟩:=List.mem_map.1 hx
    have hy2:=hcs y hy
    refine⟨⟨by have:=hy2.1; omega,by have:=hy2.2; omega,by have:=hy2.2; omega⟩,?_⟩
    rw[(isB_small b hy2).2]
    have:=List.any_eq_false.1 hf y hy
    simpa using this)
  rw[k1] at g1
  cases g1
  rfl
end Go.Vm
/- Plain laws of chapter 26: PropSound. -/
namespace Go.Vm
open Go
theorem awake_t:law26_awake=some true:=rfl
theorem sl1 (c:List Int) (hc:c.length≤1048576):loopC (law26_PropSound_l1 c) 0=some (Sum.inl true)∨(loopC (law26_PropSound_l1 c) 0=some (Sum.inr ())∧∀ x∈c,smallB x):=by
  obtain⟨t,h1,h2⟩:=loopC_inv (f:=law26_PropSound_l1 c) (fun x=>∃ i:Nat,x=(i:Int)∧i≤c.length∧∀ y∈c.take i,smallB y) (fun x=>c.length - x.toNat) (fun t=>t=Sum.inl true∨(t=Sum.inr ()∧∀ x∈c,smallB x)) (fun x hx=>by
    obtain⟨i,rfl,hi,hall⟩:=hx
    unfold law26_PropSound_l1
    rcases Nat.lt_or_ge i c.length with h | h
    · rw[if_pos (by simpa using h),ixl_nat h]
      simp only[Option.bind_some,awake_t]
      by_cases e:smallB c[i]
      · right
        obtain⟨e1,e2,e3⟩:=e
        rw[if_neg (by simp[e1]; omega),w64_n i (by omega)]
        refine⟨_,rfl,⟨i + 1,rfl,h,fun y hy=>?_⟩,by omega⟩
        rw[List.take_succ_eq_append_getElem h] at hy
        rcases List.mem_append.1 hy with hy | hy
        · exact hall y hy
        · rw[List.mem_singleton.1 hy]; exact⟨e1,e2,e3⟩
      · left
        rw[if_pos (by
          simp only[Bool.or_eq_true,beq_iff_eq,decide_eq_true_eq]
          unfold smallB at e
          omega)]
        exact⟨_,rfl,.inl rfl⟩
    · left
      have:i=c.length:=by omega
      subst this
      rw[if_neg (by simp)]
      rw[List.take_length] at hall
      exact⟨_,rfl,.inr ⟨rfl,hall⟩⟩) (x:=0) ⟨0,rfl,Nat.zero_le _,by simp⟩
  rcases h2 with rfl | ⟨rfl,h2⟩
  · exact .inl h1
  · exact .inr ⟨h1,h2⟩
theorem walkT {α τ:Type} {ws:List α} {f:Int→Option (Step Int (Bool ⊕ τ))} {u:τ} {P:α→Prop} (hn:ws.length≤1048576)
    (hs:∀ (i:Nat) (h:i < ws.length),f (i:Int)=some (.done (Sum.inl true))∨(f (i:Int)=some (.next ((i + 1:Nat):Int))∧P ws[i])) (he:f (ws.length:Int)=some (.done (Sum.inr u))) :
    loopC f 0=some (Sum.inl true)∨(loopC f 0=some (Sum.inr u)∧∀ x∈ws,P x):=by
  obtain⟨t,h1,h2⟩:=loopC_inv (f:=f) (fun x=>∃ i:Nat,x=(i:Int)∧i≤ws.length∧∀ y∈ws.take i,P y) (fun x=>ws.length - x.toNat) (fun t=>t=Sum.inl true∨(t=Sum.inr u∧∀ x∈ws,P x)) (fun x hx=>by
    obtain⟨i,rfl,hi,hall⟩:=hx
    rcases Nat.lt_or_ge i ws.length with h | h
    · rcases hs i h with e | ⟨e1,e2⟩
      · exact .inl ⟨_,e,.inl rfl⟩
      · refine .inr ⟨_,e1,⟨i + 1,rfl,h,fun y hy=>?_⟩,by omega⟩
        rw[List.take_succ_eq_append_getElem h] at hy
        rcases List.mem_append.1 hy with hy | hy
        · exact hall y hy
        · rw[List.mem_singleton.1 hy]; exact e2
    · have:i=ws.length:=by omega
      subst this
      rw[List.take_length] at hall
      exact .inl ⟨_,he,.inr ⟨rfl,hall⟩⟩) (x:=0) ⟨0,rfl,Nat.zero_le _,by simp⟩
  rcases h2 with rfl | ⟨rfl,h2⟩
  · exact .inl h1
  · exact .inr ⟨h1,h2⟩
theorem PropSound_true (a0:List (List Int)) (a1 a2:List Int) (a3:Int) (_:∀ c∈a0,∀ y∈c,(Lit.int .i64 y).wf=true) (_:∀ y∈a1,(Lit.int .i64 y).wf=true) (_:∀ y∈a2,(Lit.int .i64 y).wf=true) (_:(Lit.int .u32 a3).wf=true)
    (m0:((a0.map fun y=>((y.map fun y=>1).sum + 1)).sum + 1)≤1048576) (m1:((a1.map fun y=>1).sum + 1)≤1048576) (m2:((a2.map fun y=>1).sum + 1)≤1048576):law26_PropSound a0 a1 a2 a3=some true:=by
  obtain⟨l0,c0⟩:=row_len m0
  have l1:a1.length≤1048576:=by simp only[List.map_const',List.sum_replicate_nat] at m1; omega
  have l2:a2.length≤1048576:=by simp only[List.map_const',List.sum_replicate_nat] at m2; omega
  unfold law26_PropSound
  rw[few_eq a0 l0]
  simp only[Option.bind_some]
  have hcl:∀ c∈a0.take 60,c.length≤1048576:=fun c hc=>c0 c (List.mem_of_mem_take hc)
  have hnl:(a0.take 60).length≤60:=by rw[List.length_take]; omega
  generalize a0.take 60=cls at hcl hnl
  rw[app_ok (by simp only[List.length_nil]; omega) (by simp only[List.length_nil]; omega)]
  simp only[Option.bind_some,List.nil_append]
  rw[app_ok (by simp only[List.length_cons,List.length_nil]; omega) (by simp only[List.length_cons,List.length_nil]; omega)]
  simp only[Option.bind_some]
  have hall:∀ c∈cls ++ [a1,a2],c.length≤1048576:=fun c hc=>by
    simp only[List.mem_append,List.mem_cons,List.not_mem_nil,or_false] at hc
    rcases hc with hc | rfl | rfl
    · exact hcl c hc
    · exact l1
    · exact l2
  rcases walkT (ws:=cls ++ [a1,a2]) (f:=law26_PropSound_l2 (cls ++ [a1,a2])) (u:=()) (P:=fun c=>∀ x∈c,smallB x) (by simp only[List.length_append,List.length_cons,List.length_nil]; omega) (fun i h=>by
    unfold law26_PropSound_l2
    rw[if_pos (decide_eq_true (Int.ofNat_lt.2 h)),ixl_nat h]
    simp only[Option.bind_some]
    rcases sl1 _ (hall _ (List.getElem_mem h)) with e | ⟨e,e2⟩
    · rw[e]; exact .inl rfl
    · rw[e,w64_n i (by simp only[List.length_append,List.length_cons,List.length_nil] at h; omega)]; exact .inr ⟨rfl,e2⟩) (by
    unfold law26_PropSound_l2
    rw[if_neg (by simp)]) with e | ⟨e,hsm⟩
  · rw[e]; rfl
  rw[e]
  simp only[Option.bind_some]
  have s1:∀ x∈a1,smallB x:=hsm a1 (by simp)
  have s2:∀ x∈a2,smallB x:=hsm a2 (by simp)
  have s0:∀ c∈cls,∀ x∈c,smallB x:=fun c hc=>hsm c (by simp[hc])
  rcases walkT (ws:=cls) (f:=law26_PropSound_l3 a3 cls) (u:=()) (P:=fun c=>c.any (isB a3)=true) (by omega) (fun i h=>by
    unfold law26_PropSound_l3
    rw[if_pos (by simpa using h),ixl_nat h]
    simp only[Option.bind_some]
    rw[holds_eq a3 _ (hcl _ (List.getElem_mem h)) (s0 _ (List.getElem_mem h)),w64_n i (by omega)]
    simp only[Option.bind_some,awake_t]
    cases hb:cls[i].any (isB a3) with
    | true=>exact .inr ⟨rfl,rfl⟩
    | false=>exact .inl rfl) (by
    unfold law26_PropSound_l3
    rw[if_neg (by simp)]) with e | ⟨e,hh⟩
  · rw[e]; rfl
  rw[e]
  simp only[Option.bind_some]
  have hs:∀ c∈cls,∃ y∈c,isB a3 y=true:=fun c hc=>List.any_eq_true.1 (hh c hc)
  obtain⟨r,f1,f2⟩:=follows_eq a3 cls a2 (by omega) hcl l2 s0 hs s2
  rw[f1,holds_eq a3 a2 l2 s2]
  have hx:(if r=true then Option.bind (some (a2.any (isB a3))) (fun x48=>some (!x48)) else some false:Option Bool)=some false:=by
    cases hb:a2.any (isB a3) with
    | true=>cases r <;> rfl
    | false=>rw[f2 hb]; rfl
  simp only[Option.bind_some] at hx ⊢
  rw[hx]
  simp only[Option.bind_some,Bool.false_eq_true,if_false]
  rcases walkT (ws:=a1) (f:=law26_PropSound_l4 a1 a3) (u:=()) (P:=fun x=>isB a3 x=true) l1 (fun i h=>by
    unfold law26_PropSound_l4
    rw[if_pos (by simpa using h),ixl_nat h]
    simp only[Option.bind_some]
    rw[(isB_small a3 (s1 _ (List.getElem_mem h))).1,w64_n i (by omega)]
    simp only[Option.bind_some,awake_t]
    cases hb:isB a3 a1[i] with
    | true=>exact .inr ⟨rfl,rfl⟩
    | false=>exact .inl rfl) (by
    unfold law26_PropSound_l4
    rw[if_neg (by simp)]) with e | ⟨e,ha⟩
  · rw[e]; rfl
  rw[e]
  simp only[Option.bind_some]
  obtain⟨l,r1,r2,r3⟩:=run_true (is:=isB a3) (fun x hx=>(isB_small a3 hx).2) cls a1 (by omega) hcl l1 s0 hs (fun x hx=>⟨s1 x hx,ha x hx⟩)
  rw[r1]
  simp only[Option.bind_some]
  have h5:=loopC_fun (f:=law26_PropSound_l5 a3 l) (fun x=>∃ i:Nat,x=(i:Int)∧i≤l.length) (fun x=>l.length - x.toNat) (fun _=>(Sum.inr ():Unit ⊕ Unit)) (fun x hx=>by
    obtain⟨i,rfl,hi⟩:=hx
    unfold law26_PropSound_l5
    rcases Nat.lt_or_ge i l.length with h | h
    · right
      rw[if_pos (by simpa using h),ixl_nat h]
      simp only[Option.bind_some]
      have hq:=r3 _ (List.getElem_mem h)
      have hq2:law26_PropSound_1_sb011 l[i].Lit a3=some true:=by
        unfold isB at hq
        cases hv:law26_PropSound_1_sb011 l[i].Lit a3 with
        | none=>rw[hv] at hq; cases hq
        | some v=>rw[hv] at hq; exact congrArg some hq
      rw[hq2,w64_n i (by omega)]
      exact⟨_,rfl,⟨i + 1,rfl,h⟩,by omega,by first | trivial | rfl⟩
    · left
      rw[if_neg (by simp; omega)]) (x:=0) ⟨0,rfl,Nat.zero_le _⟩
  rw[h5]
  rfl
end Go.Vm

/- Calls that change memory, regions whose order is open, and short words for what is printed. -/
import Derived.Test.YthifafijkpkliaaGreatDoorCx5277422d
import Derived.Lib.Join
import Derived.Lib.SlTrimSet
import Derived.Lib.IndexAny
/- Short words for what a program prints. -/
set_option linter.unusedVariables false
namespace Go.Vm
open Go
abbrev lo (d:Nat) (o:Op) (t:TypeId):LO:=⟨some d,o,t,none⟩
abbrev lg (d:Nat) (o:Op) (t:TypeId) (g:Nat) (b:Bool):LO:=⟨some d,o,t,some (g,b)⟩
abbrev ln (o:Op) (t:TypeId):LO:=⟨none,o,t,none⟩
abbrev lm (d s:Nat) (t:TypeId):LO:=⟨some d,.move (.tmp s),t,none⟩
abbrev lmg (d s:Nat) (t:TypeId) (g:Nat) (b:Bool):LO:=⟨some d,.move (.tmp s),t,some (g,b)⟩
abbrev V (i:Nat) (v:AV):Nat × KV:=(i,.av v)
abbrev pt (i n:Nat):AV:=.ptr i 0 n 0
abbrev W (i n:Nat) (r:List AV):Nat × AObj:=(i,.rows n [r])
def keysOf {α:Type}:List (Nat × α)→List Nat
  | []=>[]
  | (i,_) :: l=>i :: keysOf l
section
variable {α β σ τ:Type} {E:Env} {N:Nat} {F:Fx} {lit:Bool} {st:CS} {m:Option α} {Q:α→AX→St→Prop} {a b:LC}
theorem jG {R:List LO} (i k:Nat) (st1:CS) (h2:JR E N F lit m (R.drop (i + k)) st1 Q) (h:(crun E N lit ((R.drop i).take k) st).map (keepC (keysOf st1.K) (keysOf st1.H))=some st1:=by kernel_rfl):JR E N F lit m (R.drop i) st Q:=jr_seg i k _ _ h h2
theorem jR {ops:List LO} (h:JR E N F lit m (ops.drop 0) st (QSeq E b Q)):JC E N F m (.seq (.reg lit ops) b) st Q:=jc_seq (jc_reg h)
theorem jN {R:List LO} {i:Nat} (h:JC E N F m b st Q) (hi:R.drop i=[]:=by rfl):JR E N F lit m (R.drop i) st (QSeq E b Q):=jr_nil hi (jx_seqN h)
theorem jS {R:List LO} (st1:CS) (h2:JC E N F m b st1 Q) (h:(crun E N lit R st).map (keepC (keysOf st1.K) (keysOf st1.H))=some st1:=by kernel_rfl):JC E N F m (.seq (.reg lit R) b) st Q:=
  jR (jr_seg 0 R.length _ _ (by rw[List.drop_zero,List.take_length]; exact h) (jN h2 (by simp)))
theorem jT {R:List LO} (st1:CS) (h2:JX N F m .normal st1 Q) (h:(crun E N lit R st).map (keepC (keysOf st1.K) (keysOf st1.H))=some st1:=by kernel_rfl):JC E N F m (.reg lit R) st Q:=
  jc_reg (jr_seg 0 R.length _ _ (by rw[List.drop_zero,List.take_length]; exact h) (jr_nil (by simp) h2))
theorem jIf {g:Nat} {c:Bool} {m1 m2:Option α} (h1:JC E N F m1 a (litK st g true) Q) (h2:JC E N F m2 b (litK st g false) Q) (hl:lk st.K g=some (.av (bv c)):=by kernel_rfl):JC E N F (if c=true then m1 else m2) (.cond (.tmp g) a b) st Q:=jc_cond hl (fun _=>h1) (fun _=>h2)
theorem jSp (g:Nat) {c:Bool} {m1 m2:Option α} {l:List LO} (h1:JR E N F lit m1 l (litK st g true) Q) (h2:JR E N F lit m2 l (litK st g false) Q) (hl:lk st.K g=some (.av (bv c)):=by kernel_rfl):JR E N F lit (if c=true then m1 else m2) l st Q:=jr_split hl (fun _=>h1) (fun _=>h2)
theorem jK {R:List LO} (i:Nat) {d:Option Tmp} {g:FuncId} {args:Array Operand} {ats:Array TypeId} {ty:TypeId} {gd:Option (Tmp × Bool)} {vs:List AV} {m1:Option β} {er:β→AV} {f:β→Option α} {st1:β→CS} (hc:Ct E g vs m1 er)
    (hk:∀ r,m1=some r→JR E N F lit (f r) (R.drop (i + 1)) (st1 r) Q)
    (ho:R[i]? = some ⟨d,.call ⟨.value (.func g),args,ats⟩,ty,gd⟩:=by rfl) (hg:gOk st.K gd=true:=by rfl) (hp:E.prim g=none:=by rfl) (hpf:E.pf g=true:=by rfl)
    (hv:opnds (tl N st.K none) args.toList=some vs:=by kernel_rfl) (hs:snapL (snapc (hl st.H) depth) vs=some (vs,false):=by kernel_rfl) (hput:∀ r,putD N st d (.av (er r))=some (st1 r):=by exact fun _=>rfl):JR E N F lit (m1.bind f) (R.drop i) st Q:=
  jr_callF ho hg hp hpf hv hs (all2_fle_refl _) hc (fun _=>rfl) hput hk
end
section
variable {f:List (Nat × Option Nat)} {H:List (Nat × AObj)}
theorem hC {i sz:Nat} {rows rows':List (List AV)} (j:Nat) (h1:lk f i=some (some j):=by rfl) (h2:lk H j=some (.rows sz rows):=by rfl) (h4:rensR f rows' = some rows:=by kernel_rfl):HOk f H (i,.rows sz rows'):=.inl ⟨j,_,_,_,h1,h2,rfl,.inl h4⟩
theorem hL {i sz:Nat} {rows rows':List (List AV)} (j:Nat) (hn:NoIdR rows') (h1:lk f i=some (some j):=by rfl) (h2:lk H j=some (.rows sz rows):=by rfl) (h4:rows' = rows:=by rfl):HOk f H (i,.rows sz rows'):=.inl ⟨j,_,_,_,h1,h2,rfl,.inr ⟨h4,h4 ▸ hn⟩⟩
theorem hZ {i sz:Nat} (h1:lk f i=some none:=by rfl):HOk f H (i,.rows sz []):=.inr (.inl ⟨h1,sz,rfl⟩)
end
theorem pc {α:Type} {P:α→Prop} {a:α} {as:List α} (h:P a) (k:AllP P as):AllP P (a :: as):=⟨h,k⟩
theorem wkR {N:Nat} {F:Fx} {st:CS} {K':List (Nat × KV)} {H':List (Nat × AObj)} {n':Nat} (f:List (Nat × Option Nat)) (hF:FixF F f) (hH:AllP (HOk f st.H) H')
    (hb:(allAv K' && injB (inH H' f) && keysLt n' f)=true:=by rfl) (hK:K'.map (fun p=>((lk st.K p.1).bind kvw).map some)=K'.map (fun p=>some ((kvw p.2).bind (ren f))):=by kernel_rfl):Wk N F st ⟨K',H',n'⟩:=wk_ren f hF hb hK hH
end Go.Vm
/- Calls that change what their arguments lead to. -/
set_option linter.unusedSimpArgs false
namespace Go.Vm
open Go
def CtM {α:Type} (E:Env) (g:FuncId) (vs:List AV) (H:List (Nat × AObj)) (k:Nat) (m:Option α) (er:α→AV) (H':α→List (Nat × AObj)) (k':Nat):Prop:=
  ∀ r,m=some r→∀ ρ vs' h n,All2 (VLe ρ) vs vs'→HLe ρ (hl H) k h n→∃ u h1 n1 ρ1,callFn E (rinf E) g vs' h n=some (u,h1,n1)∧VLe ρ1 (er r) u∧HLe ρ1 (hl (H' r)) k' h1 n1∧Fr ρ h n ρ1 h1 n1
def QPostM {α:Type} (E:Env) (rs:List ResultVar) (F:Fx) (er:α→AV) (H':α→List (Nat × AObj)) (k':Nat):α→AX→St→Prop:=fun r x s=>
  (x = .normal∨x = .ret)∧∃ v,resultsOf E.P rs s.t s.h=some v∧∃ ρ1,VLe ρ1 (er r) v∧HLe ρ1 (hl (H' r)) k' s.h s.n∧Fr F.ρ F.h F.n ρ1 s.h s.n
section
variable {α β:Type} {E:Env} {N:Nat} {F:Fx} {lit:Bool} {st:CS} {m:Option α} {Q:α→AX→St→Prop} {L:LC} {x:AX}
theorem jx_retM {rs:List ResultVar} {er:α→AV} {H':α→List (Nat × AObj)} {k':Nat} {r:α} (st':CS) (hx:x = .normal∨x = .ret) (hw:Wk N F st st') (hr:resultsOf E.P rs (tl N st'.K none) (hl st'.H)=some (er r):=by kernel_rfl)
    (hs:keepL (keysOf (H' r)) st'.H=H' r:=by kernel_rfl) (hn:st'.n=k':=by rfl):JX N F (some r) x st (QPostM E rs F er H' k'):=fun s hs2 r2 hr2=>by
  cases hr2
  obtain⟨ρ,hR,hF⟩:=hw s hs2
  obtain⟨v',h1,h2⟩:=resultsOf_sim hR.hle (tl_le hR.len hR.kv (a:=none) (fun q e=>by cases e)) hr
  subst hn
  refine⟨hx,v',h1,ρ,h2,hR.hle.sub fun k o hk=>?_,hF⟩
  rw[← hs] at hk
  exact lk_keepL hk
theorem ctm_intro {g:FuncId} {rs:List ResultVar} {vs:List AV} {H:List (Nat × AObj)} {k:Nat} {er:α→AV} {H':α→List (Nat × AObj)} {k':Nat} (kf:FnOk E g N rs L) (hpf:E.pf g=false) (hN:vs.length≤N)
    (hj:∀ F:Fx,(∀ i m,F.ρ i=some m→i < k)→JC E N F m L ⟨argsK 0 vs,H,k⟩ (QPostM E rs F er H' k')):CtM E g vs H k m er H' k':=fun r hr ρ vs' h n hv hH=>by
  have hat:At N ⟨ρ,h,n⟩ ⟨argsK 0 vs,H,k⟩ ⟨vs' ++ List.replicate (N - vs'.length) (.s undef),h,n⟩:=by
    refine⟨ρ,⟨?_,fun i e hi=>?_,hH⟩,Fr.refl _ _ _⟩
    · have:=hv.length
      simp only[List.length_append,List.length_replicate]
      omega
    · obtain⟨v,k,rfl,rfl,h3⟩:=lk_argsK hi
      obtain⟨v',h4,h5⟩:=hv.get h3
      refine⟨v',?_,h5⟩
      rw[Nat.zero_add]
      show (vs' ++ _)[k]? = _
      rw[List.getElem?_append_left]
      · exact h4
      · rcases Nat.lt_or_ge k vs'.length with hlt | hge
        · exact hlt
        · rw[List.getElem?_eq_none hge] at h4; cases h4
  obtain⟨x,s,⟨hx,v,h4,ρ1,h5,h6,h7⟩,h8⟩:=wp_det L _ _ (hj ⟨ρ,h,n⟩ hH.lt _ hat r hr)
  obtain⟨v2,h2,n2,e1,e2,e3,e4⟩:=fn_nx (Q:=fun v' h' n'=>v' = v∧h' = s.h∧n' = s.n) kf hpf (h8 _ ⟨hx,v,h4,rfl,rfl,rfl⟩)
  subst e2 e3 e4
  exact⟨_,_,_,ρ1,e1,h5,h6,h7⟩
theorem hle_ren {ρ:Rn} {H H':List (Nat × AObj)} {n n' n2:Nat} {h:AHeap} (hle:HLe ρ (hl H) n h n2) (f:List (Nat × Option Nat)) (hb:(injB (inH H' f) && keysLt n' f)=true) (hH:AllP (HOk f H) H'):HLe (renRn f ρ) (hl H') n' h n2:=by
  simp only[Bool.and_eq_true] at hb
  obtain⟨hb2,hb3⟩:=hb
  refine⟨fun i o ho=>?_,fun i j a sh sh' h1 h2 e1 e2=>?_,fun i m e=>?_,fun i a sh e=>?_⟩
  · rcases hH.mem (lk_mem ho) with ⟨j,sz,rows,rows',h1,h2,h3,h4⟩ | h1
    · simp only at h1 h3
      subst h3
      rcases hle.ob j _ h2 with ⟨a,sh,o',g1,g2,pre,mid,post,rfl,g3,g4⟩ | ⟨g1,sz2,g2⟩
      · refine .inl ⟨a,sh,_,by simp only[renRn,h1]; exact g1,g2,pre,mid,post,rfl,g3,?_⟩
        rcases h4 with h4 | ⟨rfl,h4⟩
        · exact rensR_ok h4 g4
        · exact h4.all2 g4
      · cases g2
        refine .inr ⟨by simp only[renRn,h1]; exact g1,sz,?_⟩
        rcases h4 with h4 | ⟨rfl,h4⟩
        · cases rows' with
          | nil=>rfl
          | cons c cs=>
            simp only[rensR] at h4
            split at h4
            · cases h4
            · cases h4
        · rfl
    · rcases h1 with ⟨h1,h2⟩ | ⟨j,R,tm,h1,h2,h3,h4⟩
      · exact .inr ⟨by simp only[renRn,h1],h2⟩
      · simp only at h1 h3
        subst h3
        rcases hle.ob j _ h2 with ⟨a,sh,o',g1,g2,g3,R',rfl,g4,g5,g6,g7⟩ | ⟨_,sz2,g2⟩
        · exact .inl ⟨a,sh,_,by simp only[renRn,h1]; exact g1,g2,g3,R',rfl,g4,g5,rens_ok h4 g6,g7⟩
        · cases g2
  · have key:∀ i a sh,((hl H') i).isSome=true→renRn f ρ i=some (.at a sh)→∃ p,lk f i=some (some p)∧(hl H p).isSome=true∧ρ p=some (.at a sh):=fun i a sh hi e=>by
      obtain⟨o,ho⟩:=Option.isSome_iff_exists.1 hi
      simp only[renRn] at e
      rcases hH.mem (lk_mem ho) with ⟨p,sz,rows,rows',q1,q2,q3,q4⟩ | ⟨q1,q2⟩ | ⟨p,R,tm,q1,q2,q3,q4⟩
      · simp only at q1
        rw[q1] at e
        exact⟨p,q1,by simp only[hl,q2]; rfl,e⟩
      · simp only at q1
        rw[q1] at e
        cases e
      · simp only at q1
        rw[q1] at e
        exact⟨p,q1,by simp only[hl,q2]; rfl,e⟩
    obtain⟨p,p1,p2,p3⟩:=key i a sh h1 e1
    obtain⟨q,q1,q2,q3⟩:=key j a sh' h2 e2
    have:=hle.inj p q a sh sh' p2 q2 p3 q3
    subst this
    exact injB_ok hb2 i j p (inH_mem (lk_mem p1) h1) (inH_mem (lk_mem q1) h2)
  · simp only[renRn] at e
    split at e
    · rename_i j hj; exact keysLt_ok hb3 hj
    · rename_i hj; exact keysLt_ok hb3 hj
    · cases e
  · simp only[renRn] at e
    split at e
    · exact hle.lt' _ _ _ e
    · cases e
    · cases e
def imgIn (H:List (Nat × AObj)):List (Nat × Option Nat)→Bool
  | []=>true
  | (_,some j) :: l=>(lk H j).isSome && imgIn H l
  | (_,none) :: l=>imgIn H l
theorem imgIn_ok {H:List (Nat × AObj)} {i j:Nat}:∀ {f:List (Nat × Option Nat)},imgIn H f=true→(i,some j)∈f→(lk H j).isSome=true
  | (_,some k) :: l,h,hm=>by
    simp only[imgIn,Bool.and_eq_true] at h
    rcases List.mem_cons.1 hm with e | hm
    · cases e; exact h.1
    · exact imgIn_ok h.2 hm
  | (_,none) :: l,h,hm=>by
    rcases List.mem_cons.1 hm with e | hm
    · cases e
    · exact imgIn_ok (f:=l) (by simpa[imgIn] using h) hm
def backOk (f:List (Nat × Option Nat)) (n:Nat):List (Nat × Option Nat)→Bool
  | []=>true
  | (j,some p) :: l=>(Nat.ble n j || (match lk f p with | some (some q)=>Nat.beq q j | _=>false)) && backOk f n l
  | (_,none) :: _=>false
theorem backOk_none {f:List (Nat × Option Nat)} {n j:Nat}:∀ {l:List (Nat × Option Nat)},backOk f n l=true→(j,none)∉l
  | (_,some p) :: l,h,hm=>by
    simp only[backOk,Bool.and_eq_true] at h
    rcases List.mem_cons.1 hm with e | hm
    · cases e
    · exact backOk_none h.2 hm
  | (_,none) :: l,h,hm=>by simp[backOk] at h
  | [],_,hm=>by cases hm
theorem backOk_some {f:List (Nat × Option Nat)} {n j p:Nat}:∀ {l:List (Nat × Option Nat)},backOk f n l=true→(j,some p)∈l→n≤j∨lk f p=some (some j)
  | (k,some q) :: l,h,hm=>by
    simp only[backOk,Bool.and_eq_true,Bool.or_eq_true] at h
    rcases List.mem_cons.1 hm with e | hm
    · cases e
      rcases h.1 with h | h
      · exact .inl (Nat.le_of_ble_eq_true h)
      · right
        split at h
        · rename_i r hr
          rw[hr,beq_eq h]
        · cases h
    · exact backOk_some h.2 hm
  | (_,none) :: l,h,hm=>by simp[backOk] at h
def HBk (f f2:List (Nat × Option Nat)) (H H1:List (Nat × AObj)) (p:Nat × AObj):Prop:=(lk H p.1=some p.2∧imgNot p.1 f=true)∨HOk f2 H1 p
theorem callM_step {d:Option Tmp} {g:FuncId} {args:Array Operand} {ats:Array TypeId} {ty:TypeId} {gd:Option (Tmp × Bool)} {vs0:List AV} {H0:List (Nat × AObj)} {k0 k1:Nat} {m1:Option β} {er:β→AV} {H1:β→List (Nat × AObj)}
    (f f2:List (Nat × Option Nat)) (H2:β→List (Nat × AObj)) (w:β→AV) (n2:Nat) {st1:β→CS} (hc:CtM E g vs0 H0 k0 m1 er H1 k1) (hA:AllP (HOk f st.H) H0) (hB:∀ r,AllP (HBk f f2 st.H (H1 r)) (H2 r))
    (hg:gOk st.K gd=true)
    (hvr:opnds (tl N st.K none) args.toList=rens f vs0) (hvs:(rens f vs0).isSome=true)
    (hf:(injB (inH H0 f) && keysLt k0 f && imgIn st.H f)=true) (hf2:(backOk f st.n f2 && injB f2 && keysLt n2 f2 && Nat.ble st.n n2)=true)
    (hw:∀ r,ren f2 (w r)=some (er r)) (hput:∀ r,putD N ⟨st.K,H2 r,n2⟩ d (.av (w r))=some (st1 r)) {s:St} (hs2:At N F st s) {r:β} (hm:m1=some r) :
    ∃ s2,stepL E lit ⟨d,.call ⟨.value (.func g),args,ats⟩,ty,gd⟩ s=some s2∧At N F (st1 r) s2 ∧
      ∀ a i k z o,lk st.K a=some (.av (.ptr i k z o))→(lk st.H i).isSome=true→imgNot i f=true→∀ v,s.t[a]? = some v→∀ id∈idOf v,s2.h id=s.h id:=by
    obtain⟨ρ,hR,hF⟩:=hs2
    obtain⟨vs,hr⟩:=Option.isSome_iff_exists.1 hvs
    have hv:=hvr.trans hr
    simp only[Bool.and_eq_true] at hf hf2
    obtain⟨⟨f1,f3⟩,f4⟩:=hf
    obtain⟨⟨⟨b1,b2⟩,b3⟩,b4⟩:=hf2
    have b4:=Nat.le_of_ble_eq_true b4
    obtain⟨vs',h1,h2⟩:=opnds_sim (tl_le hR.len hR.kv (a:=none) (fun q e=>by cases e)) hv
    have hle0:=hle_ren hR.hle f (n':=k0) (H':=H0) (by rw[f1,f3]; rfl) hA
    obtain⟨u,hh,n1,ρ1,c1,c2,c3,c4⟩:=hc r hm (renRn f ρ) vs' s.h s.n (rens_ok hr h2) hle0
    -- the numbers behind the call
    let ρ2:Rn:=fun j=>match lk f2 j with | some (some p)=>ρ1 p | _=>ρ j
    have hρ2:∀ {j p},lk f2 j=some (some p)→ρ2 j=ρ1 p:=fun {j p} e=>by simp only[ρ2,e]
    have hρ0:∀ {j},(∀ p,lk f2 j≠some (some p))→ρ2 j=ρ j:=fun {j} e=>by
      simp only[ρ2]
    have ext:Ext ρ ρ2:=fun j mm e=>by
      cases hj:lk f2 j with
      | none=>rw[hρ0 (fun p q=>by rw[hj] at q; cases q)]; exact e
      | some o=>
        cases o with
        | none=>exact absurd (lk_mem hj) (backOk_none b1)
        | some p=>
          rw[hρ2 hj]
          rcases backOk_some b1 (lk_mem hj) with hn | hp
          · have:=hR.hle.lt j mm e; omega
          · exact c4.ext p mm (by simp only[renRn,hp]; exact e)
    have ext2:Ext (renRn f2 ρ1) ρ2:=fun j mm e=>by
      simp only[renRn] at e
      cases hj:lk f2 j with
      | none=>rw[hj] at e; cases e
      | some o=>
        cases o with
        | none=>exact absurd (lk_mem hj) (backOk_none b1)
        | some p=>rw[hj] at e; rw[hρ2 hj]; exact e
    have img:∀ {i0 a sh},renRn f ρ i0=some (.at a sh)→∃ j0,lk f i0=some (some j0)∧ρ j0=some (.at a sh)∧(hl st.H j0).isSome=true:=fun {i0 a sh} e=>by
      simp only[renRn] at e
      cases hj:lk f i0 with
      | none=>rw[hj] at e; cases e
      | some o=>
        cases o with
        | none=>rw[hj] at e; cases e
        | some j0=>rw[hj] at e; exact⟨j0,rfl,e,imgIn_ok f4 (lk_mem hj)⟩
    -- what lies under a number behind the call
    have kind:∀ {j o},lk (H2 r) j=some o→(lk st.H j=some o∧imgNot j f=true)∨HOk f2 (H1 r) (j,o):=fun {j o} e=>(hB r).mem (lk_mem e)
    have kindA:∀ {j a sh},(hl (H2 r) j).isSome=true→ρ2 j=some (.at a sh)→((hl st.H j).isSome=true∧imgNot j f=true∧ρ j=some (.at a sh)∧a < s.n)∨(∃ p,lk f2 j=some (some p)∧ρ1 p=some (.at a sh)∧(hl (H1 r) p).isSome=true):=fun {j a sh} hj e=>by
      obtain⟨o,ho⟩:=Option.isSome_iff_exists.1 hj
      rcases kind ho with ⟨k1,k2⟩ | k1
      · left
        have:∃ mm,ρ j=some mm:=by
          rcases hR.hle.ob j o k1 with ⟨a,sh,o',g1,_⟩ | ⟨g1,_⟩ <;> exact⟨_,g1⟩
        obtain⟨mm,hmm⟩:=this
        have e2:=ext j mm hmm
        rw[e2] at e
        cases e
        exact⟨by simp only[hl,k1]; rfl,k2,hmm,hR.hle.lt' j a sh hmm⟩
      · right
        rcases k1 with ⟨p,sz,rows,rows',q1,q2,q3,q4⟩ | ⟨q1,q2⟩ | ⟨p,R,tm,q1,q2,q3,q4⟩
        · exact⟨p,q1,by rw[← hρ2 q1]; exact e,by simp only[hl,q2]; rfl⟩
        · exact absurd (lk_mem q1) (backOk_none b1)
        · exact⟨p,q1,by rw[← hρ2 q1]; exact e,by simp only[hl,q2]; rfl⟩
    have hle2:HLe ρ2 (hl (H2 r)) n2 hh n1:=by
      refine⟨fun j o ho=>?_,fun j j2 a sh sh' hj hj2 e e2=>?_,fun j mm e=>?_,fun j a sh e=>?_⟩
      · rcases kind ho with ⟨k1,k2⟩ | k1
        · rcases hR.hle.ob j o k1 with ⟨a,sh,o',g1,g2,g3⟩ | ⟨g1,g2⟩
          · refine .inl ⟨a,sh,o',ext j _ g1,?_,g3.ext ext⟩
            rw[c4.same a (hR.hle.lt' j a sh g1) fun i0 sh0 e0=>?_]
            · exact g2
            · obtain⟨j0,i1,i2,i3⟩:=img e0
              have:=hR.hle.inj j j0 a sh sh0 (by simp only[hl,k1]; rfl) i3 g1 i2
              subst this
              exact imgNot_ok k2 i0 (lk_mem i1)
          · exact .inr ⟨ext j _ g1,g2⟩
        · rcases k1 with ⟨p,sz,rows,rows',h1,h2,h3,h4⟩ | ⟨q1,q2⟩ | ⟨p,R,tm,h1,h2,h3,h4⟩
          · simp only at h1 h3
            subst h3
            rcases c3.ob p _ h2 with ⟨a,sh,o',g1,g2,pre,mid,post,rfl,g3,g4⟩ | ⟨g1,sz2,g2⟩
            · refine .inl ⟨a,sh,_,by rw[hρ2 h1]; exact g1,g2,pre,mid,post,rfl,g3,?_⟩
              rcases h4 with h4 | ⟨rfl,h4⟩
              · exact (rensR_ok h4 g4).ext2 ext2
              · exact h4.all2 g4
            · cases g2
              refine .inr ⟨by rw[hρ2 h1]; exact g1,sz,?_⟩
              rcases h4 with h4 | ⟨rfl,h4⟩
              · cases rows' with
                | nil=>rfl
                | cons c cs=>
                  simp only[rensR] at h4
                  split at h4
                  · cases h4
                  · cases h4
              · rfl
          · exact absurd (lk_mem q1) (backOk_none b1)
          · simp only at h1 h3
            subst h3
            rcases c3.ob p _ h2 with ⟨a,sh,o',g1,g2,g3,R',rfl,g4,g5,g6,g7⟩ | ⟨_,sz2,g2⟩
            · exact .inl ⟨a,sh,_,by rw[hρ2 h1]; exact g1,g2,g3,R',rfl,g4,g5,(rens_ok h4 g6).ext ext2,g7⟩
            · cases g2
      · rcases kindA hj e with ⟨x1,x2,x3,x4⟩ | ⟨p,x1,x2,x3⟩ <;> rcases kindA hj2 e2 with ⟨y1,y2,y3,y4⟩ | ⟨p',y1,y2,y3⟩
        · exact hR.hle.inj j j2 a sh sh' x1 y1 x3 y3
        · rcases c4.im p' a sh' y2 with ⟨i0,sh0,e0⟩ | hge
          · obtain⟨j0,i1,i2,i3⟩:=img e0
            have:=hR.hle.inj j j0 a sh sh0 x1 i3 x3 i2
            subst this
            exact absurd (lk_mem i1) (imgNot_ok x2 i0)
          · omega
        · rcases c4.im p a sh x2 with ⟨i0,sh0,e0⟩ | hge
          · obtain⟨j0,i1,i2,i3⟩:=img e0
            have:=hR.hle.inj j2 j0 a sh' sh0 y1 i3 y3 i2
            subst this
            exact absurd (lk_mem i1) (imgNot_ok y2 i0)
          · omega
        · have:=c3.inj p p' a sh sh' x3 y3 x2 y2
          subst this
          exact injB_ok b2 j j2 p (lk_mem x1) (lk_mem y1)
      · cases hj:lk f2 j with
        | none=>
          rw[hρ0 (fun p q=>by rw[hj] at q; cases q)] at e
          have:=hR.hle.lt j mm e
          omega
        | some o=>exact keysLt_ok b3 hj
      · have hn:s.n≤n1:=c4.le
        by_cases hj:∃ p,lk f2 j=some (some p)
        · obtain⟨p,hp⟩:=hj
          rw[hρ2 hp] at e
          exact c3.lt' p a sh e
        · rw[hρ0 fun p hp=>hj ⟨p,hp⟩] at e
          have:=hR.hle.lt' j a sh e
          omega
    have hfr:Fr ρ s.h s.n ρ2 hh n1:=by
      refine⟨c4.le,fun j hj hi=>c4.same j hj fun i0 sh0 e0=>?_,fun j a sh e=>?_,ext⟩
      · obtain⟨j0,_,i2,_⟩:=img e0
        exact hi j0 sh0 i2
      · by_cases hj:∃ p,lk f2 j=some (some p)
        · obtain⟨p,hp⟩:=hj
          rw[hρ2 hp] at e
          rcases c4.im p a sh e with ⟨i0,sh0,e0⟩ | hge
          · obtain⟨j0,_,i2,_⟩:=img e0
            exact .inl ⟨j0,sh0,i2⟩
          · exact .inr hge
        · rw[hρ0 fun p hp=>hj ⟨p,hp⟩] at e
          exact .inl ⟨j,sh,e⟩
    refine⟨⟨putT s.t d u,hh,n1⟩,?_,⟨ρ2,?_,hF.trans hfr⟩,?_⟩
    · rw[gOk_step (o:=⟨d,.call ⟨.value (.func g),args,ats⟩,ty,gd⟩) hR hg]
      unfold stepG
      simp only[callOf,opnd,h1,List.append_nil,c1]
    · exact putD_ok (hput r) ext hR.len hR.kv hle2 (fun i hi=>kok_av (by rw[hR.len]; exact putD_lt (hput r) hi) ((ren_ok (hw r) c2).ext ext2))
    · intro a i k z o e1 hi hn v hv2 id hid
      obtain⟨v',v1,v2⟩:=hR.kv a _ e1
      rw[hv2] at v1
      cases v1
      simp only[VLe] at v2
      obtain⟨A,sh,r1,rfl⟩:=v2
      simp only[idOf,List.mem_singleton] at hid
      subst hid
      refine c4.same _ (hR.hle.lt' i _ sh r1) fun i0 sh0 e0=>?_
      obtain⟨j0,i1,i2,i3⟩:=img e0
      have:=hR.hle.inj i j0 _ sh sh0 hi i3 r1 i2
      subst this
      exact imgNot_ok hn i0 (lk_mem i1)
theorem jr_callM {R:List LO} (i:Nat) {d:Option Tmp} {g:FuncId} {args:Array Operand} {ats:Array TypeId} {ty:TypeId} {gd:Option (Tmp × Bool)} {vs0:List AV} {H0:List (Nat × AObj)} {k0 k1:Nat} {m1:Option β} {er:β→AV} {H1:β→List (Nat × AObj)}
    (f f2:List (Nat × Option Nat)) (H2:β→List (Nat × AObj)) (w:β→AV) (n2:Nat) {st1:β→CS} {q:β→Option α} (hc:CtM E g vs0 H0 k0 m1 er H1 k1) (hA:AllP (HOk f st.H) H0) (hB:∀ r,AllP (HBk f f2 st.H (H1 r)) (H2 r))
    (hk:∀ r,m1=some r→JR E N F lit (q r) (R.drop (i + 1)) (st1 r) Q)
    (ho:R[i]? = some ⟨d,.call ⟨.value (.func g),args,ats⟩,ty,gd⟩:=by rfl) (hg:gOk st.K gd=true:=by rfl)
    (hvr:opnds (tl N st.K none) args.toList=rens f vs0:=by kernel_rfl) (hvs:(rens f vs0).isSome=true:=by kernel_rfl)
    (hf:(injB (inH H0 f) && keysLt k0 f && imgIn st.H f)=true:=by rfl) (hf2:(backOk f st.n f2 && injB f2 && keysLt n2 f2 && Nat.ble st.n n2)=true:=by rfl)
    (hw:∀ r,ren f2 (w r)=some (er r):=by exact fun _=>rfl) (hput:∀ r,putD N ⟨st.K,H2 r,n2⟩ d (.av (w r))=some (st1 r):=by exact fun _=>rfl):JR E N F lit (m1.bind q) (R.drop i) st Q:=fun s hs2 r2 hr2=>by
  cases hm:m1 with
  | none=>rw[hm] at hr2; cases hr2
  | some r=>
    rw[hm] at hr2
    obtain⟨s2,e1,e2,_⟩:=callM_step (lit:=lit) (ty:=ty) (ats:=ats) f f2 H2 w n2 hc hA hB hg hvr hvs hf hf2 hw hput hs2 hm
    rw[drop_of_get ho]
    exact⟨s2,e1,hk r hm s2 e2 r2 hr2⟩
end
end Go.Vm
/- Functions that are taken for known, called with rows. -/
namespace Go.Vm
open Go
section
variable {α β:Type} {E:Env} {N:Nat} {F:Fx} {lit:Bool} {st:CS} {m:Option α} {Q:α→AX→St→Prop}
theorem ct_primG {g:FuncId} {p:List AV→Option AV} (hp:E.prim g=some p) {vs:List AV} {er:α→AV} (hv:∀ r,m=some r→∀ vs',All2 (VLe Rn.nil) vs vs'→p vs' = some (er r)) (her:∀ r,VLe Rn.nil (er r) (er r)):Ct E g vs m er:=fun r hr vs' hv' h n=>
  ⟨er r,prim_spec hp (hv r hr vs' hv'),her r⟩
end
def strsOf:List (List AV)→Option (List Str)
  | []=>some []
  | [.s (.string b)] :: rs=>(strsOf rs).map fun l=>b.data.toList :: l
  | _=>none
theorem strsOf_map:∀ l:List Str,strsOf (l.map cS)=some l
  | []=>rfl
  | x :: l=>by
    simp only[List.map_cons,cS,strsOf,strsOf_map l,Option.map_some,Option.some.injEq,List.cons.injEq,and_true]
theorem rows_s:∀ {l:List Str} {rs:List (List AV)},VLess Rn.nil (l.map cS) rs→rs=l.map cS
  | [],rs,h=>by simpa[VLess] using h
  | x :: l,rs,h=>by
    simp only[List.map_cons,VLess] at h
    obtain⟨d,es,rfl,h1,h2⟩:=h
    rw[rows_s h2]
    simp only[cS,VLes] at h1
    obtain⟨d2,es2,rfl,h3,rfl⟩:=h1
    rw[h3.s_inv]
    rfl
def strRow:AV→Option (List Str)
  | .s (.slice none 0 0)=>some []
  | .esl=>some []
  | .fsl 1 rows=>strsOf rows
  | _=>none
theorem strRow_ok {l:List Str} {v:AV} (h:VLe Rn.nil (.fsl 1 (l.map cS)) v):strRow v=some l:=by
  rcases VLe.fsl_iff.1 h with ⟨rs,rfl,h2⟩ | ⟨h1,rfl | rfl⟩
  · have h3:=VLe.fsl_iff.1 h
    have:rs=l.map cS:=by
      simp only[VLe] at h
      rcases h with ⟨rs',e,h4⟩ | ⟨_,e | e⟩
      · cases e; exact rows_s h4
      · cases e
      · cases e
    subst this
    exact strsOf_map l
  · cases l with
    | nil=>rfl
    | cons x l=>simp at h1
  · cases l with
    | nil=>rfl
    | cons x l=>simp at h1
def asciiB (a:List UInt8):Bool:=a.all fun c=>decide (c.toNat < 128)
def ctaP:List AV→Option AV
  | [.s (.string a),.s (.string b)]=>if (asciiB a.data.toList && asciiB b.data.toList && decide (a.data.toList.length < 4294967281) && decide (b.data.toList.length < 4294967281))=true then some (.s (.bool (Lib.containsAny a.data.toList b.data.toList))) else none
  | _=>none
noncomputable def strings_ContainsAny (a b:Str):Option Bool:=if (asciiB a && asciiB b && decide (a.length < 4294967281) && decide (b.length < 4294967281))=true then some (Lib.containsAny a b) else none
def joinP:List AV→Option AV
  | [x,.s (.string sep)]=>match strRow x with
    | some l=>if l.length≤140737488355328∧(Lib.join l sep.data.toList).length≤140737488355328 then some (.s (.string ⟨(Lib.join l sep.data.toList).toArray⟩)) else none
    | none=>none
  | _=>none
noncomputable def strings_Join (l:List Str) (sep:Str):Option Str:=if l.length≤140737488355328∧(Lib.join l sep).length≤140737488355328 then some (Lib.join l sep) else none
theorem strings_ContainsAny_ct {E:Env} {g:FuncId} (hp:E.prim g=some ctaP) (a b:Str):Ct E g [bs a,bs b] (strings_ContainsAny a b) (fun r:Bool=>bv r):=
  ct_primG hp (fun r hr vs' hv=>by
    have h1:=allS_sim (ws:=vs') (vs:=[bs a,bs b]) rfl hv
    subst h1
    unfold strings_ContainsAny at hr
    unfold ctaP
    split at hr
    · rename_i h
      cases hr
      show (if _ then _ else _)=_
      rw[if_pos h]
    · cases hr) (fun r=>VLe.s_refl _)
theorem strings_Join_ct {E:Env} {g:FuncId} (hp:E.prim g=some joinP) (l:List Str) (sep:Str):Ct E g [.fsl 1 (List.map cS l),bs sep] (strings_Join l sep) (fun r:Str=>bs r):=
  ct_primG hp (fun r hr vs' hv=>by
    match vs',hv with
    | [x,y],hv=>
      have h1:=strRow_ok hv.1
      have h2:=hv.2.1.s_inv
      subst h2
      unfold strings_Join at hr
      split at hr
      · rename_i h
        cases hr
        unfold joinP
        simp only[h1]
        rw[if_pos h]
      · cases hr
    | [],hv=>exact hv.elim
    | [_],hv=>exact hv.2.elim
    | _ :: _ :: _ :: _,hv=>exact hv.2.2.elim) (fun r=>VLe.s_refl _)
theorem ct_primM {E:Env} {α:Type} {m:Option α} {g:FuncId} {p:List AV→AHeap→Nat→Option (AV × AHeap × Nat)} (hp:E.prim g=none) (hm:E.primM g=some p) (hpf:E.pf g=true) {vs:List AV} {er:α→AV}
    (hs:snapL (snapc AHeap.nil depth) vs=some (vs,false)) (hv:∀ r,m=some r→∀ vs',All2 (VLe Rn.nil) vs vs'→p vs' AHeap.nil 0=some (er r,AHeap.nil,0))
    (he:∀ r,∃ q,snap AHeap.nil depth (er r)=some (er r,q)) (her:∀ r,VLe Rn.nil (er r) (er r)):Ct E g vs m er:=fun r hr vs' hv' h n=>by
  obtain⟨w,b',h1,h2,h3⟩:=snapL_sim (f':=snap h depth) (fun x x' u b e hx=>snap_sim (hle_nil h n) e hx) hs hv'
  have hb:b' = false:=by
    cases b' with
    | false=>rfl
    | true=>cases h3 rfl
  subst hb
  have hc:(rinf E).call g w AHeap.nil 0=some (er r,AHeap.nil,0):=rinf_call.2 ⟨1,by
    show callAt E _ g w AHeap.nil 0=_
    unfold callAt
    rw[hm]
    exact hv r hr w h2⟩
  obtain⟨q,hq⟩:=he r
  refine⟨er r,?_,her r⟩
  unfold callFn
  rw[hp]
  simp only[hpf,if_true,h1,hc,hq,Bool.false_and,Bool.false_eq_true,if_false]
def liftM (p:List AV→Option AV):List AV→AHeap→Nat→Option (AV × AHeap × Nat):=fun args h n=>(p args).map fun v=>(v,h,n)
theorem strings_Join_ctM {E:Env} {g:FuncId} (hp:E.prim g=none) (hm:E.primM g=some (liftM joinP)) (hpf:E.pf g=true) (l:List Str) (sep:Str):Ct E g [.fsl 1 (List.map cS l),bs sep] (strings_Join l sep) (fun r:Str=>bs r):=
  ct_primM hp hm hpf rfl (fun r hr vs' hv=>by
    have h0:=strings_Join_ct (E:=⟨E.P,fun _=>some joinP,fun _=>true,fun _=>none⟩) (g:=0) rfl l sep r hr vs' hv AHeap.nil 0
    obtain⟨u,h1,h2⟩:=h0
    unfold callFn at h1
    simp only[Option.map_eq_some_iff,Prod.mk.injEq,and_true,exists_eq_right] at h1
    have h3:=h2.s_inv
    subst h3
    unfold liftM
    rw[h1]
    rfl) (fun r=>⟨false,rfl⟩) (fun r=>VLe.s_refl _)
end Go.Vm
/- Regions in which loads and stores may change places: they go to memory that is apart. -/
namespace Go.Vm
open Go
def regOps:Code→Array Oper
  | .region _ ops _=>ops
  | _=>#[]
def addrOf:Op→Option Nat
  | .load _ (.tmp a)=>some a
  | .store _ (.tmp a) _=>some a
  | _=>none
def noWr (a:Nat):List Oper→Bool
  | []=>true
  | o :: os=>(match o.dst with | some d=>!(Nat.beq d a) | none=>true) && noWr a os
def isLoad:Op→Bool
  | .load ..=>true
  | _=>false
def pairOf (ops:Array Oper) (i j:Nat):Option (List (Nat × Nat)):=
  match ops[i]?,ops[j]? with
  | some o,some p=>match addrOf o.op,addrOf p.op with
    | some a,some b=>cond (noWr a (ops.toList.drop i) && noWr b (ops.toList.drop j)) (cond (isLoad o.op && isLoad p.op) (some []) (some [(a,b)])) none
    | _,_=>none
  | _,_=>none
def pairsI (ops:Array Oper) (an:List Nat) (i:Nat):List Nat→Option (List (Nat × Nat))
  | []=>some []
  | j :: js=>match cond (waits an j i) (some []) (pairOf ops i j),pairsI ops an i js with
    | some x,some y=>some (x ++ y)
    | _,_=>none
def pairsT (ops:Array Oper) (an:List Nat):List Nat→Option (List (Nat × Nat))
  | []=>some []
  | i :: is=>match pairsI ops an i is,pairsT ops an is with
    | some x,some y=>some (x ++ y)
    | _,_=>none
theorem noWr_ok {a:Nat}:∀ {l:List Oper},noWr a l=true→∀ o∈l,o.dst≠some a
  | [],_,p,hp=>by cases hp
  | o :: l,h,p,hp=>by
    simp only[noWr,Bool.and_eq_true] at h
    rcases List.mem_cons.1 hp with rfl | hp
    · intro e
      rw[e] at h
      simp at h
    · exact noWr_ok h.2 p hp
theorem putT_other {t:List AV} {d:Option Tmp} {v:AV} {a:Nat} (h:d≠some a):(putT t d v)[a]? = t[a]?:=by
  cases d with
  | none=>rfl
  | some d=>
    have:d≠a:=fun e=>h (by rw[e])
    simp only[putT]
    rw[List.getElem?_set_ne this]
theorem stepOp_tmp {E:Env} {r:Rec} {dr:Bool} {ops:Array Oper} {o:Oper} {s s':St} (h:stepOp E r dr ops o s=some s') {a:Nat} (ha:o.dst≠some a):s'.t[a]? = s.t[a]?:=by
  unfold stepOp at h
  split at h
  · cases h
  · cases h; exact putT_other ha
  · split at h
    · split at h
      · cases h; exact putT_other ha
      · cases h
    · split at h
      · split at h
        · cases h; exact putT_other ha
        · cases h
      · split at h
        · cases h; exact putT_other ha
        · cases h
    · split at h
      · cases h; exact putT_other ha
      · cases h
theorem trace_tmp {E:Env} {r:Rec} {ops:Array Oper} {a:Nat}:∀ {l:List Nat} {s:St} {q:List (Option Fp) × St},traceOps E r ops l s=some q→(∀ j∈l,∀ p,ops[j]? = some p→p.dst≠some a)→q.2.t[a]? = s.t[a]?
  | [],s,q,h,_=>by cases h; rfl
  | i :: l,s,q,h,hw=>by
    simp only[traceOps] at h
    split at h
    · cases h
    · rename_i o ho
      split at h
      · rename_i s1 h1
        split at h
        · rename_i fps s2 h2
          cases h
          have:=trace_tmp h2 (fun j hj=>hw j (List.mem_cons_of_mem _ hj))
          simp only at this ⊢
          rw[this,stepOp_tmp h1 (hw i (by simp) o ho)]
        · cases h
      · cases h
theorem addr_fp {E:Env} {r:Rec} {ops:Array Oper} {o:Oper} {s s1:St} {a:Nat} (hs:stepOp E r true ops o s=some s1) (ha:addrOf o.op=some a):∃ F:Fp,(match wantedA ops s.t o with | some true=>fpH E r o.op s.t s.h s.n | _=>some fp0)=some F∧F.all=false∧F.mem=none∧(isLoad o.op=true→F.W=[])∧∀ x,(x∈F.R∨x∈F.W)→∃ v,s.t[a]? = some v∧x∈idOf v:=by
  cases hw:wantedA ops s.t o with
  | none=>exact⟨fp0,rfl,rfl,rfl,fun _=>rfl,fun x hx=>by rcases hx with hx | hx <;> cases hx⟩
  | some b=>
    cases b with
    | false=>exact⟨fp0,rfl,rfl,rfl,fun _=>rfl,fun x hx=>by rcases hx with hx | hx <;> cases hx⟩
    | true=>
      simp only
      unfold stepOp at hs
      rw[hw] at hs
      simp only at hs
      unfold addrOf at ha
      split at ha
      · rename_i ty b hop
        cases ha
        rw[hop] at hs ⊢
        unfold fpH
        simp only[fpOf,opnd] at hs ⊢
        cases hv:s.t[a]? with
        | none=>
          exfalso
          unfold aop at hs
          rw[hop] at hs
          simp[opnd,hv] at hs
        | some v=>exact⟨_,rfl,rfl,rfl,fun _=>rfl,fun x hx=>⟨v,rfl,by rcases hx with hx | hx; exact hx; cases hx⟩⟩
      · rename_i ty b y hop
        cases ha
        rw[hop] at hs ⊢
        unfold fpH
        simp only[fpOf,opnd] at hs ⊢
        cases hv:s.t[a]? with
        | none=>
          exfalso
          unfold aop at hs
          rw[hop] at hs
          simp[opnd,hv] at hs
        | some v=>exact⟨_,rfl,rfl,rfl,fun h=>by simp[isLoad] at h,fun x hx=>⟨v,rfl,by rcases hx with hx | hx <;> exact hx⟩⟩
      · cases ha
theorem trace_addr {E:Env} {r:Rec} {ops:Array Oper}:∀ {l:List Nat} {s:St} {q:List (Option Fp) × St},traceOps E r ops l s=some q→∀ (m i:Nat) (o:Oper) (a:Nat),l[m]? = some i→ops[i]? = some o→addrOf o.op=some a→(∀ j∈l.drop m,∀ p,ops[j]? = some p→p.dst≠some a) →
    ∃ F:Fp,q.1[m]? = some (some F)∧F.all=false∧F.mem=none∧(isLoad o.op=true→F.W=[])∧∀ x,(x∈F.R∨x∈F.W)→∃ v,q.2.t[a]? = some v∧x∈idOf v
  | [],s,q,h,m,i,o,a,hm,_,_,_=>by simp at hm
  | k :: l,s,q,h,m,i,o,a,hm,ho,ha,hw=>by
    have h0:=h
    simp only[traceOps] at h
    split at h
    · cases h
    · rename_i ok hok
      split at h
      · rename_i s1 h1
        split at h
        · rename_i fps s2 h2
          cases h
          cases m with
          | zero=>
            simp only[List.getElem?_cons_zero,Option.some.injEq] at hm
            subst hm
            rw[ho] at hok
            cases hok
            obtain⟨F,f1,f2,fm,f3,f4⟩:=addr_fp h1 ha
            refine⟨F,by simp only[List.getElem?_cons_zero]; exact congrArg some f1,f2,fm,f3,fun x hx=>?_⟩
            obtain⟨v,v1,v2⟩:=f4 x hx
            have:=trace_tmp (a:=a) h0 (by simpa using hw)
            exact⟨v,by rw[this]; exact v1,v2⟩
          | succ m=>
            simp only[List.getElem?_cons_succ] at hm
            obtain⟨F,f1,f2⟩:=trace_addr h2 m i o a hm ho ha (by simpa using hw)
            exact⟨F,by simpa using f1,f2⟩
        · cases h
      · cases h
theorem pairsI_ok {ops:Array Oper} {an:List Nat} {i:Nat}:∀ {js:List Nat} {ps:List (Nat × Nat)},pairsI ops an i js=some ps→∀ j∈js,waits an j i=true∨∃ qs,pairOf ops i j=some qs∧∀ q∈qs,q∈ps
  | [],_,_,j,hj=>by cases hj
  | k :: js,ps,h,j,hj=>by
    simp only[pairsI] at h
    split at h
    · rename_i x y hx hy
      cases h
      rcases List.mem_cons.1 hj with rfl | hj
      · cases hw:waits an j i with
        | true=>exact .inl rfl
        | false=>
          rw[hw] at hx
          exact .inr ⟨x,hx,fun q hq=>List.mem_append_left _ hq⟩
      · rcases pairsI_ok hy j hj with h1 | ⟨qs,h1,h2⟩
        · exact .inl h1
        · exact .inr ⟨qs,h1,fun q hq=>List.mem_append_right _ (h2 q hq)⟩
    · cases h
theorem noWr_drop {a:Nat}:∀ {k:Nat} {l:List Oper},noWr a l=true→noWr a (l.drop k)=true
  | 0,_,h=>h
  | _ + 1,[],h=>h
  | k + 1,o :: l,h=>by
    simp only[noWr,Bool.and_eq_true] at h
    exact noWr_drop (k:=k) h.2
theorem pair_ok {ops:Array Oper} {fps:List (Option Fp)} {t:List AV} {i j:Nat} {qs:List (Nat × Nat)}
    (hf:∀ (i:Nat) (o:Oper) (a:Nat),ops[i]? = some o→addrOf o.op=some a→noWr a (ops.toList.drop i)=true→∃ F:Fp,fps[i]? = some (some F)∧F.all=false∧F.mem=none∧(isLoad o.op=true→F.W=[])∧∀ x,(x∈F.R∨x∈F.W)→∃ v,t[a]? = some v∧x∈idOf v)
    (h1:pairOf ops i j=some qs) (hne:∀ a b,(a,b)∈qs→∀ u v x,t[a]? = some u→t[b]? = some v→x∈idOf u→x∉idOf v):mayApart fps[i]? fps[j]? = true:=by
    unfold pairOf at h1
    split at h1
    · rename_i o p ho hp
      split at h1
      · rename_i a b ha hb
        cases hn:(noWr a (ops.toList.drop i) && noWr b (ops.toList.drop j)) with
        | false=>rw[hn] at h1; cases h1
        | true=>
          rw[hn] at h1
          simp only[Bool.and_eq_true] at hn
          obtain⟨A,e1,e2,em,e3,e4⟩:=hf i o a ho ha hn.1
          obtain⟨B,g1,g2,gm,g3,g4⟩:=hf j p b hp hb hn.2
          rw[e1,g1]
          simp only[mayApart,Fp.apart,em,gm,Bool.and_eq_true,List.all_eq_true,Bool.not_eq_true',Bool.or_eq_true,e2,g2]
          cases hl:(isLoad o.op && isLoad p.op) with
          | true=>
            simp only[Bool.and_eq_true] at hl
            rw[e3 hl.1,g3 hl.2]
            simp
          | false=>
            rw[hl] at h1
            simp only[cond_true,cond_false,Option.some.injEq] at h1
            have hab:(a,b)∈qs:=by rw[← h1]; simp
            have key:∀ z,(z∈A.R∨z∈A.W)→(z∈B.R∨z∈B.W)→False:=fun z hz hz'=>by
              obtain⟨u,u1,u2⟩:=e4 z hz
              obtain⟨v,v1,v2⟩:=g4 z hz'
              exact hne a b hab u v z u1 v1 u2 v2
            refine⟨⟨⟨fun z hz=>⟨?_,?_⟩,fun z hz=>?_⟩,.inr trivial⟩,.inr trivial⟩
            · simp only[List.contains_eq_mem,decide_eq_false_iff_not]
              exact fun q=>key z (.inr hz) (.inl q)
            · simp only[List.contains_eq_mem,decide_eq_false_iff_not]
              exact fun q=>key z (.inr hz) (.inr q)
            · simp only[List.contains_eq_mem,decide_eq_false_iff_not]
              exact fun q=>key z (.inl q) (.inr hz)
      · cases h1
    · cases h1
theorem pairsT_ok {ops:Array Oper} {an:List Nat} {fps:List (Option Fp)} {t:List AV}
    (hf:∀ (i:Nat) (o:Oper) (a:Nat),ops[i]? = some o→addrOf o.op=some a→noWr a (ops.toList.drop i)=true→∃ F:Fp,fps[i]? = some (some F)∧F.all=false∧F.mem=none∧(isLoad o.op=true→F.W=[])∧∀ x,(x∈F.R∨x∈F.W)→∃ v,t[a]? = some v∧x∈idOf v) :
    ∀ {l:List Nat} {ps:List (Nat × Nat)},pairsT ops an l=some ps→(∀ a b,(a,b)∈ps→∀ u v x,t[a]? = some u→t[b]? = some v→x∈idOf u→x∉idOf v)→pairsOk an fps l=true
  | [],_,_,_=>rfl
  | i :: is,ps,h,hne=>by
    simp only[pairsT] at h
    split at h
    · rename_i x y hx hy
      cases h
      simp only[pairsOk,Bool.and_eq_true,List.all_eq_true,Bool.or_eq_true]
      refine⟨fun j hj=>?_,pairsT_ok hf hy fun a b hab=>hne a b (List.mem_append_right _ hab)⟩
      rcases pairsI_ok hx j hj with h1 | ⟨qs,h1,h2⟩
      · exact .inl h1
      · right
        exact pair_ok hf h1 (fun a b hab=>hne a b (List.mem_append_left _ (h2 _ hab)))
    · cases h
theorem full_draw {E:Env} {r:Rec} {ops:Array Oper} {ps:List (Nat × Nat)} (hp:pairsT ops (ancs ops) (loudIx ops)=some ps) {s s':St} (h:evalOps E r true ops (List.range ops.size) s=some s')
    (hne:∀ a b,(a,b)∈ps→∀ u v x,s'.t[a]? = some u→s'.t[b]? = some v→x∈idOf u→x∉idOf v):evalDraw E r ops s=some s':=by
  unfold evalDraw
  simp only
  by_cases ha:allOrdered (ancs ops) (loudIx ops)=true
  · rw[if_pos ha]; exact h
  · rw[if_neg ha]
    obtain⟨fps,h1,h2⟩:=eval_trace (fun i hi=>List.mem_range.1 hi) h
    rw[h1]
    simp only
    rw[if_pos (pairsT_ok (t:=s'.t) (fun i o a ho hd hw=>?_) hp hne)]
    have hi:i < ops.size:=by
      rcases Nat.lt_or_ge i ops.size with hlt | hge
      · exact hlt
      · rw[Array.getElem?_eq_none hge] at ho; cases ho
    refine trace_addr h1 i i o a (List.getElem?_range hi) ho hd fun j hj p hp=>?_
    refine noWr_ok hw p ?_
    obtain⟨k,hk,e⟩:=List.mem_iff_getElem.1 hj
    simp only[List.getElem_drop,List.getElem_range] at e
    subst e
    refine List.mem_iff_getElem?.2 ⟨k,?_⟩
    rw[List.getElem?_drop,Array.getElem?_toList]
    exact hp
section
variable {α β:Type} {E:Env} {N:Nat} {F:Fx} {lit:Bool} {st:CS} {m:Option α} {Q:α→AX→St→Prop} {b:LC}
def QFull (ps:List (Nat × Nat)) (Q:α→AX→St→Prop):α→AX→St→Prop:=fun r x s=>x = .normal∧(∀ a b,(a,b)∈ps→∀ u v x,s.t[a]? = some u→s.t[b]? = some v→x∈idOf u→x∉idOf v)∧Q r .normal s
theorem jc_full {ops:Array Oper} (R:List LO) (ps:List (Nat × Nat)) (h:JR E N F true m (R.drop 0) st (QFull ps Q)) (hl:lowOps ops ops.toList=some R:=by kernel_rfl) (hp:pairsT ops (ancs ops) (loudIx ops)=some ps:=by kernel_rfl):JC E N F m (.full ops) st Q:=fun s hs r hr=>by
  obtain⟨s',h1,_,h2,h3⟩:=evalOps_low hl (h s hs r hr)
  exact⟨s',full_draw hp h1 h2,h3⟩
def pairsNe (st:CS):List (Nat × Nat)→Bool
  | []=>true
  | (a,b) :: l=>(match lk st.K a,lk st.K b with
    | some (.av (.ptr i _ _ _)),some (.av (.ptr j _ _ _))=>!(Nat.beq i j) && (lk st.H i).isSome && (lk st.H j).isSome
    | _,_=>false) && pairsNe st l
theorem pairsNe_ok {a b:Nat}:∀ {l:List (Nat × Nat)},pairsNe st l=true→(a,b)∈l→∃ i k s o j k2 s2 o2,lk st.K a=some (.av (.ptr i k s o))∧lk st.K b=some (.av (.ptr j k2 s2 o2))∧i≠j∧(lk st.H i).isSome=true∧(lk st.H j).isSome=true
  | (c,d) :: l,h,hm=>by
    simp only[pairsNe,Bool.and_eq_true] at h
    rcases List.mem_cons.1 hm with e | hm
    · cases e
      have h1:=h.1
      split at h1
      · rename_i i k s o j k2 s2 o2 e1 e2
        simp only[Bool.and_eq_true,Bool.not_eq_true'] at h1
        exact⟨i,k,s,o,j,k2,s2,o2,e1,e2,beq_ne h1.1.1,h1.1.2,h1.2⟩
      · cases h1
    · exact pairsNe_ok h.2 hm
theorem jx_full {ps:List (Nat × Nat)} (h:JX N F m .normal st Q) (hc:pairsNe st ps=true:=by rfl):JX N F m .normal st (QFull ps Q):=fun s hs r hr=>by
  refine⟨rfl,fun a b hab u v x hu hv hx hx'=>?_,h s hs r hr⟩
  obtain⟨ρ,hR,_⟩:=hs
  obtain⟨i,k,z,o,j,k2,z2,o2,e1,e2,hij,hi,hj⟩:=pairsNe_ok hc hab
  obtain⟨u',u1,u2⟩:=hR.kv a _ e1
  obtain⟨v',v1,v2⟩:=hR.kv b _ e2
  rw[hu] at u1
  rw[hv] at v1
  cases u1
  cases v1
  simp only[VLe] at u2 v2
  obtain⟨A,sh,r1,rfl⟩:=u2
  obtain⟨B,sh2,r2,rfl⟩:=v2
  simp only[idOf,List.mem_singleton] at hx hx'
  subst hx
  subst hx'
  exact hij (hR.hle.inj i j _ sh sh2 hi hj r1 r2)
end
end Go.Vm
/- Regions in which a load and a call that changes memory may change places: the call leaves alone what is loaded. -/
namespace Go.Vm
open Go
def pairOfM (ops:Array Oper) (c i j:Nat):Option (List (Nat × Nat) × List Nat):=
  match ops[i]?,ops[j]? with
  | some o,some p=>
    cond (Nat.beq j c) (match o.op with | .load _ (.tmp a)=>cond (noWr a (ops.toList.drop i)) (some ([],[a])) none | _=>none)
      (cond (Nat.beq i c) (match p.op with | .load _ (.tmp a)=>cond (noWr a (ops.toList.drop i)) (some ([],[a])) none | _=>none)
        ((pairOf ops i j).map fun x=>(x,[])))
  | _,_=>none
def pairsIM (ops:Array Oper) (c:Nat) (an:List Nat) (i:Nat):List Nat→Option (List (Nat × Nat) × List Nat)
  | []=>some ([],[])
  | j :: js=>match cond (waits an j i) (some ([],[])) (pairOfM ops c i j),pairsIM ops c an i js with
    | some x,some y=>some (x.1 ++ y.1,x.2 ++ y.2)
    | _,_=>none
def pairsTM (ops:Array Oper) (c:Nat) (an:List Nat):List Nat→Option (List (Nat × Nat) × List Nat)
  | []=>some ([],[])
  | i :: is=>match pairsIM ops c an i is,pairsTM ops c an is with
    | some x,some y=>some (x.1 ++ y.1,x.2 ++ y.2)
    | _,_=>none
theorem pairsIM_ok {ops:Array Oper} {c:Nat} {an:List Nat} {i:Nat}:∀ {js:List Nat} {ps:List (Nat × Nat) × List Nat},pairsIM ops c an i js=some ps→∀ j∈js,waits an j i=true∨∃ qs,pairOfM ops c i j=some qs∧(∀ q∈qs.1,q∈ps.1)∧∀ q∈qs.2,q∈ps.2
  | [],_,_,j,hj=>by cases hj
  | k :: js,ps,h,j,hj=>by
    simp only[pairsIM] at h
    split at h
    · rename_i x y hx hy
      cases h
      rcases List.mem_cons.1 hj with rfl | hj
      · cases hw:waits an j i with
        | true=>exact .inl rfl
        | false=>
          rw[hw] at hx
          exact .inr ⟨x,hx,fun q hq=>List.mem_append_left _ hq,fun q hq=>List.mem_append_left _ hq⟩
      · rcases pairsIM_ok hy j hj with h1 | ⟨qs,h1,h2,h3⟩
        · exact .inl h1
        · exact .inr ⟨qs,h1,fun q hq=>List.mem_append_right _ (h2 q hq),fun q hq=>List.mem_append_right _ (h3 q hq)⟩
    · cases h
theorem call_fp {E:Env} {r:Rec} {ops:Array Oper} {o:Oper} {s s2:St} {g:FuncId} {args:Array Operand} {ats:Array TypeId} (hop:o.op = .call ⟨.value (.func g),args,ats⟩) (hg:o.guard=none) (h:stepOp E r true ops o s=some s2) :
    ∃ F,(match wantedA ops s.t o with | some true=>fpH E r o.op s.t s.h s.n | _=>some fp0)=some F∧F.W=[]∧∀ x y,F.mem=some (x,y)→x=s.h∧y=s2.h:=by
  have hw:wantedA ops s.t o=some true:=by unfold wantedA; rw[hg]
  unfold stepOp at h
  rw[hw,hop] at h
  rw[hw,hop]
  simp only[callOf,opnd] at h ⊢
  cases hvs:opnds s.t args.toList with
  | none=>rw[hvs] at h; cases h
  | some vs=>
    rw[hvs] at h
    simp only[List.append_nil] at h
    cases hc:callFn E r g vs s.h s.n with
    | none=>rw[hc] at h; cases h
    | some q=>
      obtain⟨u,h1,n1⟩:=q
      rw[hc] at h
      cases h
      unfold fpH
      cases hO:fpOf E (.call ⟨.value (.func g),args,ats⟩) s.t s.n with
      | some F=>
        refine⟨F,rfl,?_,fun x y e=>by rw[fpOf_mem hO] at e; cases e⟩
        simp only[fpOf] at hO
        split at hO
        · cases hO; rfl
        · split at hO
          · obtain⟨w,_,e⟩:=Option.map_eq_some_iff.1 hO
            cases e
            split <;> rfl
          · cases hO
      | none=>
        simp only[fpM,hvs,hc]
        exact⟨_,rfl,rfl,fun x y e=>by cases e; exact⟨rfl,rfl⟩⟩
theorem pairsTM_ok {ops:Array Oper} {c:Nat} {an:List Nat} {fps:List (Option Fp)} {t:List AV} {x0 y0:AHeap}
    (hf:∀ (i:Nat) (o:Oper) (a:Nat),ops[i]? = some o→addrOf o.op=some a→noWr a (ops.toList.drop i)=true→∃ F:Fp,fps[i]? = some (some F)∧F.all=false∧F.mem=none∧(isLoad o.op=true→F.W=[])∧∀ x,(x∈F.R∨x∈F.W)→∃ v,t[a]? = some v∧x∈idOf v)
    (hc:∃ F:Fp,fps[c]? = some (some F)∧F.W=[]∧∀ x y,F.mem=some (x,y)→x=x0∧y=y0) :
    ∀ {l:List Nat} {ps:List (Nat × Nat) × List Nat},l.Pairwise (· < ·)→pairsTM ops c an l=some ps→(∀ a b,(a,b)∈ps.1→∀ u v x,t[a]? = some u→t[b]? = some v→x∈idOf u→x∉idOf v)→(∀ a∈ps.2,∀ v,t[a]? = some v→∀ x∈idOf v,y0 x=x0 x)→pairsOk an fps l=true
  | [],_,_,_,_,_=>rfl
  | i :: is,ps,hpw,h,hne,hq=>by
    obtain⟨hlt,hpw2⟩:=List.pairwise_cons.1 hpw
    simp only[pairsTM] at h
    split at h
    · rename_i x y hx hy
      cases h
      simp only[pairsOk,Bool.and_eq_true,List.all_eq_true,Bool.or_eq_true]
      refine⟨fun j hj=>?_,pairsTM_ok hf hc hpw2 hy (fun a b hab=>hne a b (List.mem_append_right _ hab)) (fun a ha=>hq a (List.mem_append_right _ ha))⟩
      have hij:=hlt j hj
      rcases pairsIM_ok hx j hj with h1 | ⟨qs,h1,h2,h3⟩
      · exact .inl h1
      · right
        obtain⟨C,c1,c2,c3⟩:=hc
        unfold pairOfM at h1
        split at h1
        · rename_i o p ho hp
          cases hjc:Nat.beq j c with
          | true=>
            have hjc:=Nat.eq_of_beq_eq_true hjc
            subst hjc
            simp only[Nat.beq_refl,cond_true] at h1
            split at h1
            · rename_i ty a hop
              cases hn:noWr a (ops.toList.drop i) with
              | false=>rw[hn] at h1; cases h1
              | true=>
                rw[hn] at h1
                simp only[cond_true,Option.some.injEq] at h1
                obtain⟨A,e1,e2,em,e3,e4⟩:=hf i o a ho (by rw[hop]; rfl) hn
                have e3:=e3 (by rw[hop]; rfl)
                have ha:=h3 a (by rw[← h1]; simp)
                rw[e1,c1]
                simp only[mayApart,Fp.apart,em]
                cases hm:C.mem with
                | none=>simp[e3,c2]
                | some q=>
                  obtain⟨q1,q2⟩:=q
                  obtain⟨rfl,rfl⟩:=c3 _ _ hm
                  simp only[e3,e2,List.isEmpty_nil,Bool.not_false,Bool.and_self,Bool.true_and,decide_eq_true_eq]
                  intro z hz
                  obtain⟨u,u1,u2⟩:=e4 z (.inl hz)
                  exact hq a (List.mem_append_left _ ha) u u1 z u2
            · cases h1
          | false=>
            rw[hjc] at h1
            simp only[cond_false] at h1
            cases hic:Nat.beq i c with
            | true=>
              have hic:=Nat.eq_of_beq_eq_true hic
              subst hic
              simp only[Nat.beq_refl,cond_true] at h1
              split at h1
              · rename_i ty a hop
                cases hn:noWr a (ops.toList.drop i) with
                | false=>rw[hn] at h1; cases h1
                | true=>
                  rw[hn] at h1
                  simp only[cond_true,Option.some.injEq] at h1
                  have hn2:noWr a (ops.toList.drop j)=true:=by
                    have:ops.toList.drop j=(ops.toList.drop i).drop (j - i):=by rw[List.drop_drop]; congr 1; omega
                    rw[this]
                    exact noWr_drop hn
                  obtain⟨A,e1,e2,em,e3,e4⟩:=hf j p a hp (by rw[hop]; rfl) hn2
                  have e3:=e3 (by rw[hop]; rfl)
                  have ha:=h3 a (by rw[← h1]; simp)
                  rw[e1,c1]
                  simp only[mayApart,Fp.apart,em]
                  cases hm:C.mem with
                  | none=>simp[e3,c2]
                  | some q=>
                    obtain⟨q1,q2⟩:=q
                    obtain⟨rfl,rfl⟩:=c3 _ _ hm
                    simp only[e3,e2,List.isEmpty_nil,Bool.not_false,Bool.and_self,Bool.true_and,decide_eq_true_eq]
                    intro z hz
                    obtain⟨u,u1,u2⟩:=e4 z (.inl hz)
                    exact hq a (List.mem_append_left _ ha) u u1 z u2
              · cases h1
            | false=>
              rw[hic] at h1
              simp only[cond_false] at h1
              obtain⟨qs1,h4,e⟩:=Option.map_eq_some_iff.1 h1
              subst e
              exact pair_ok hf h4 (fun a b hab=>hne a b (List.mem_append_left _ (h2 _ hab)))
        · cases h1
    · cases h
theorem trace_split {E:Env} {ops:Array Oper} {P:St→Prop}:∀ (c:Nat) {l:List Oper} {i:Nat} {s s':St} {L:List LO} {fps:List (Option Fp)},(∀ j,l[j]? = ops[i + j]?)→lowOps ops l=some L→traceOps E (rinf E) ops (List.range' i l.length) s=some (fps,s')→c≤l.length→wpR E true (L.take c) s P →
    ∃ s1,P s1∧traceOps E (rinf E) ops (List.range' (i + c) (l.length - c)) s1=some (fps.drop c,s')
  | 0,l,i,s,s',L,fps,_,_,ht,_,hw=>⟨s,hw,by simpa using ht⟩
  | c + 1,[],i,s,s',L,fps,_,_,_,hc,_=>by simp at hc
  | c + 1,o :: l,i,s,s',L,fps,hi,hL,ht,hc,hw=>by
    simp only[lowOps] at hL
    split at hL
    · rename_i g l2 hg hl
      cases hL
      obtain⟨s1,h1,h2⟩:=hw
      have h0:=hi 0
      simp only[List.getElem?_cons_zero,Nat.add_zero] at h0
      have h3:=stepL_eq hg h1
      rw[List.length_cons,List.range'_succ] at ht
      simp only[traceOps,← h0,h3] at ht
      split at ht
      · rename_i fs s2 ht2
        cases ht
        obtain⟨s3,p1,p2⟩:=trace_split c (i:=i + 1) (fun j=>by have:=hi (j + 1); simp only[List.getElem?_cons_succ] at this; rw[this]; congr 1; omega) hl ht2 (by simpa using hc) h2
        refine⟨s3,p1,?_⟩
        have e1:i + (c + 1)=i + 1 + c:=by omega
        have e2:(o :: l).length - (c + 1)=l.length - c:=by simp only[List.length_cons]; omega
        rw[e1,e2,List.drop_succ_cons]
        exact p2
      · cases ht
    · cases hL
theorem lowOps_get {ops:Array Oper} {lo:LO}:∀ {l:List Oper} {L:List LO} {c:Nat},lowOps ops l=some L→L[c]? = some lo→∃ o g,l[c]? = some o∧lowG ops o=some g∧lo=⟨o.dst,o.op,o.type,g⟩
  | [],L,c,h,hc=>by cases h; simp at hc
  | o :: l,L,c,h,hc=>by
    simp only[lowOps] at h
    split at h
    · rename_i g l2 hg hl
      cases h
      cases c with
      | zero=>
        simp only[List.getElem?_cons_zero,Option.some.injEq] at hc
        exact⟨o,g,rfl,hg,hc.symm⟩
      | succ c=>
        simp only[List.getElem?_cons_succ] at hc ⊢
        exact lowOps_get hl hc
    · cases h
section
variable {α β:Type} {E:Env} {N:Nat} {F:Fx} {lit:Bool} {st st1:CS} {m:Option α} {Q:α→AX→St→Prop} {b:LC}
def qsOk (st:CS) (f:List (Nat × Option Nat)):List Nat→Bool
  | []=>true
  | a :: l=>(match lk st.K a with
    | some (.av (.ptr i _ _ _))=>(lk st.H i).isSome && imgNot i f
    | _=>false) && qsOk st f l
theorem qsOk_ok {f:List (Nat × Option Nat)} {a:Nat}:∀ {l:List Nat},qsOk st f l=true→a∈l→∃ i k z o,lk st.K a=some (.av (.ptr i k z o))∧(lk st.H i).isSome=true∧imgNot i f=true
  | b :: l,h,hm=>by
    simp only[qsOk,Bool.and_eq_true] at h
    rcases List.mem_cons.1 hm with rfl | hm
    · have h1:=h.1
      split at h1
      · rename_i i k z o e
        simp only[Bool.and_eq_true] at h1
        exact⟨i,k,z,o,e,h1.1,h1.2⟩
      · cases h1
    · exact qsOk_ok h.2 hm
theorem jc_fullM {ops:Array Oper} (R:List LO) (ps:List (Nat × Nat)) (qs:List Nat) (c:Nat) (st1:CS) {d:Option Tmp} {g:FuncId} {args:Array Operand} {ats:Array TypeId} {ty:TypeId} {vs0:List AV} {H0:List (Nat × AObj)} {k0 k1:Nat} {m1:Option β} {er:β→AV} {H1:β→List (Nat × AObj)}
    (f f2:List (Nat × Option Nat)) (H2:β→List (Nat × AObj)) (w:β→AV) (n2:Nat) {st2:β→CS} {q:β→Option α} (hc:CtM E g vs0 H0 k0 m1 er H1 k1) (hA:AllP (HOk f st1.H) H0) (hB:∀ r,AllP (HBk f f2 st1.H (H1 r)) (H2 r))
    (hk:∀ r,m1=some r→JR E N F true (q r) (R.drop (c + 1)) (st2 r) (QFull ps Q))
    (hpre:(crun E N true (R.take c) st).map (keepC (keysOf st1.K) (keysOf st1.H))=some st1:=by kernel_rfl)
    (ho:R[c]? = some ⟨d,.call ⟨.value (.func g),args,ats⟩,ty,none⟩:=by rfl)
    (hvr:opnds (tl N st1.K none) args.toList=rens f vs0:=by kernel_rfl) (hvs:(rens f vs0).isSome=true:=by kernel_rfl)
    (hf:(injB (inH H0 f) && keysLt k0 f && imgIn st1.H f)=true:=by rfl) (hf2:(backOk f st1.n f2 && injB f2 && keysLt n2 f2 && Nat.ble st1.n n2)=true:=by rfl)
    (hw:∀ r,ren f2 (w r)=some (er r):=by exact fun _=>rfl) (hput:∀ r,putD N ⟨st1.K,H2 r,n2⟩ d (.av (w r))=some (st2 r):=by exact fun _=>rfl)
    (hq:qsOk st1 f qs=true:=by rfl) (hl:lowOps ops ops.toList=some R:=by kernel_rfl) (hp:pairsTM ops c (ancs ops) (loudIx ops)=some (ps,qs):=by kernel_rfl) (hn:(qs.all fun a=>noWr a (ops.toList.drop c))=true:=by kernel_rfl):JC E N F (m1.bind q) (.full ops) st Q:=fun s hs r2 hr2=>by
  cases hm:m1 with
  | none=>rw[hm] at hr2; cases hr2
  | some r=>
  rw[hm] at hr2
  have hP:wpR E true (R.take c) s fun sA=>At N F st1 sA:=by
    obtain⟨st',p1,p2⟩:=Option.map_eq_some_iff.1 hpre
    obtain⟨ρ,hR,hF⟩:=hs
    have:=crun_sound (l2:=[]) (Q:=fun sA=>At N F st1 sA) hR p1 fun s1 ρ1 h3 h4=>(by
      show At N F st1 s1
      rw[← p2]
      exact⟨ρ1,rf_keep h3,hF.trans h4⟩)
    rw[List.append_nil] at this
    exact this
  have hS:∀ sA,At N F st1 sA→∃ sB,stepL E true ⟨d,.call ⟨.value (.func g),args,ats⟩,ty,none⟩ sA=some sB∧At N F (st2 r) sB ∧
      ∀ a i k z o,lk st1.K a=some (.av (.ptr i k z o))→(lk st1.H i).isSome=true→imgNot i f=true→∀ v,sA.t[a]? = some v→∀ id∈idOf v,sB.h id=sA.h id:=
    fun sA hA2=>callM_step (lit:=true) (ty:=ty) (ats:=ats) (gd:=none) f f2 H2 w n2 hc hA hB rfl hvr hvs hf hf2 hw hput hA2 hm
  have hW:wpR E true R s (QFull ps Q r2 .normal):=by
    refine wpR_cut c _ hP fun sA hA2=>?_
    obtain⟨sB,e1,e2,_⟩:=hS sA hA2
    rw[drop_of_get ho]
    exact⟨sB,e1,hk r hm sB e2 r2 hr2⟩
  obtain⟨s',h1,_,h2,h3⟩:=evalOps_low hl hW
  refine⟨s',?_,h3⟩
  unfold evalDraw
  simp only
  by_cases ha:allOrdered (ancs ops) (loudIx ops)=true
  · rw[if_pos ha]; exact h1
  · rw[if_neg ha]
    obtain⟨fps,t1,t2⟩:=eval_trace (fun i hi=>List.mem_range.1 hi) h1
    obtain⟨o,gd,o1,o2,o3⟩:=lowOps_get hl ho
    have hc2:c < ops.toList.length:=by
      rcases Nat.lt_or_ge c ops.toList.length with hlt | hge
      · exact hlt
      · rw[List.getElem?_eq_none hge] at o1; cases o1
    have o1':ops[c]? = some o:=by rw[← Array.getElem?_toList]; exact o1
    obtain⟨sA,a1,a2⟩:=trace_split (P:=fun sA=>At N F st1 sA) c (l:=ops.toList) (i:=0) (fun j=>by simp) hl (by rw[List.range_eq_range'] at t1; simpa using t1) (by omega) hP
    obtain⟨sB,b1,b2,b3⟩:=hS sA a1
    injection o3 with q1 q2 q3 q4
    subst q4
    rw[q1,q2,q3] at b1
    have b4:=stepL_eq o2 b1
    have hr:List.range' (0 + c) (ops.toList.length - c)=c :: List.range' (c + 1) (ops.toList.length - c - 1):=by
      have:ops.toList.length - c=(ops.toList.length - c - 1) + 1:=by omega
      rw[Nat.zero_add,this,List.range'_succ]; rfl
    have a3:=a2
    rw[hr] at a3
    simp only[traceOps,o1',b4] at a3
    split at a3
    · rename_i fs s4 ht2
      simp only[Option.some.injEq,Prod.mk.injEq] at a3
      have hog:o.guard=none:=by
        unfold lowG at o2
        split at o2
        · rename_i e; exact e
        · split at o2
          · cases o2
          · cases o2
      obtain⟨C,c1,c2,c3⟩:=call_fp (r:=rinf E) q2.symm hog b4
      have hfc:fps[c]? = some (some C):=by
        have:(fps.drop c)[0]? = some (some C):=by rw[← a3.1,List.getElem?_cons_zero]; exact congrArg some c1
        simpa using this
      have hdrop:∀ a,noWr a (ops.toList.drop c)=true→s'.t[a]? = sA.t[a]?:=fun a hna=>by
        refine trace_tmp (a:=a) a2 fun j hj p hp=>noWr_ok hna p ?_
        obtain⟨k,hk,e⟩:=List.mem_iff_getElem.1 hj
        simp only[List.getElem_range',Nat.zero_add,Nat.one_mul] at e
        subst e
        refine List.mem_iff_getElem?.2 ⟨k,?_⟩
        rw[List.getElem?_drop,Array.getElem?_toList]
        exact hp
      have hfp:∀ (i:Nat) (o:Oper) (a:Nat),ops[i]? = some o→addrOf o.op=some a→noWr a (ops.toList.drop i)=true→∃ F:Fp,fps[i]? = some (some F)∧F.all=false∧F.mem=none∧(isLoad o.op=true→F.W=[])∧∀ x,(x∈F.R∨x∈F.W)→∃ v,s'.t[a]? = some v∧x∈idOf v:=by
        intro i o a ho hd hw
        have hi:i < ops.size:=by
          rcases Nat.lt_or_ge i ops.size with hlt | hge
          · exact hlt
          · rw[Array.getElem?_eq_none hge] at ho; cases ho
        refine trace_addr t1 i i o a (List.getElem?_range hi) ho hd fun j hj p hp=>?_
        refine noWr_ok hw p ?_
        obtain⟨k,hk,e⟩:=List.mem_iff_getElem.1 hj
        simp only[List.getElem_drop,List.getElem_range] at e
        subst e
        refine List.mem_iff_getElem?.2 ⟨k,?_⟩
        rw[List.getElem?_drop,Array.getElem?_toList]
        exact hp
      have hqq:∀ a∈qs,∀ v,s'.t[a]? = some v→∀ x∈idOf v,sB.h x=sA.h x:=by
        intro a haq v hv x hx
        obtain⟨i,k,z,oo,e1,e2,e3⟩:=qsOk_ok hq haq
        rw[hdrop a (List.all_eq_true.1 hn a haq)] at hv
        exact b3 a i k z oo e1 e2 e3 v hv x hx
      have hpw:(loudIx ops).Pairwise (· < ·):=List.pairwise_lt_range.filter _
      rw[t1]
      simp only
      rw[if_pos (pairsTM_ok (c:=c) hfp ⟨C,hfc,c2,c3⟩ hpw hp h2 hqq)]
    · cases a3
end
end Go.Vm

/- Calls that change memory, regions whose order is open, and short words for what is printed. -/
import Derived.Test.YtdmndjchojfnnaaDoorCx161fa23a
import Derived.Lib.Join
import Derived.Lib.SlTrimSet
import Derived.Lib.IndexAny
import Derived.Lib.SlicesCompact
/- Short words for what a program prints. -/
set_option linter.unusedVariables false
namespace Go.Vm
open Go
abbrev lo (d:Nat) (o:Op) (t:TypeId):LO:=⟨some d,o,t,none⟩
abbrev lg (d:Nat) (o:Op) (t:TypeId) (g:Nat) (b:Bool):LO:=⟨some d,o,t,some (g,b)⟩
abbrev ln (o:Op) (t:TypeId):LO:=⟨none,o,t,none⟩
abbrev lm (d s:Nat) (t:TypeId):LO:=⟨some d,.move (.tmp s),t,none⟩
abbrev lmg (d s:Nat) (t:TypeId) (g:Nat) (b:Bool):LO:=⟨some d,.move (.tmp s),t,some (g,b)⟩
abbrev V (i:Nat) (v:AV):Nat × KV:=(i,.av v)
abbrev pt (i n:Nat):AV:=.ptr i 0 n 0
abbrev W (i n:Nat) (r:List AV):Nat × AObj:=(i,.rows n [r])
def keysOf {α:Type}:List (Nat × α)→List Nat
  | []=>[]
  | (i,_) :: l=>i :: keysOf l
section
variable {α β σ τ:Type} {E:Env} {N:Nat} {F:Fx} {lit:Bool} {st:CS} {m:Option α} {Q:α→AX→St→Prop} {a b:LC}
theorem jG {R:List LO} (i k:Nat) (st1:CS) (h2:JR E N F lit m (R.drop (i + k)) st1 Q) (h:(crun E N lit ((R.drop i).take k) st).map (keepC (keysOf st1.K) (keysOf st1.H))=some st1:=by kernel_rfl):JR E N F lit m (R.drop i) st Q:=jr_seg i k _ _ h h2
theorem jR {ops:List LO} (h:JR E N F lit m (ops.drop 0) st (QSeq E b Q)):JC E N F m (.seq (.reg lit ops) b) st Q:=jc_seq (jc_reg h)
theorem jN {R:List LO} {i:Nat} (h:JC E N F m b st Q) (hi:R.drop i=[]:=by rfl):JR E N F lit m (R.drop i) st (QSeq E b Q):=jr_nil hi (jx_seqN h)
theorem jS {R:List LO} (st1:CS) (h2:JC E N F m b st1 Q) (h:(crun E N lit R st).map (keepC (keysOf st1.K) (keysOf st1.H))=some st1:=by kernel_rfl):JC E N F m (.seq (.reg lit R) b) st Q:=
  jR (jr_seg 0 R.length _ _ (by rw[List.drop_zero,List.take_length]; exact h) (jN h2 (by simp)))
theorem jT {R:List LO} (st1:CS) (h2:JX N F m .normal st1 Q) (h:(crun E N lit R st).map (keepC (keysOf st1.K) (keysOf st1.H))=some st1:=by kernel_rfl):JC E N F m (.reg lit R) st Q:=
  jc_reg (jr_seg 0 R.length _ _ (by rw[List.drop_zero,List.take_length]; exact h) (jr_nil (by simp) h2))
theorem jIf {g:Nat} {c:Bool} {m1 m2:Option α} (h1:JC E N F m1 a (litK st g true) Q) (h2:JC E N F m2 b (litK st g false) Q) (hl:lk st.K g=some (.av (bv c)):=by kernel_rfl):JC E N F (if c=true then m1 else m2) (.cond (.tmp g) a b) st Q:=jc_cond hl (fun _=>h1) (fun _=>h2)
theorem jSp (g:Nat) {c:Bool} {m1 m2:Option α} {l:List LO} (h1:JR E N F lit m1 l (litK st g true) Q) (h2:JR E N F lit m2 l (litK st g false) Q) (hl:lk st.K g=some (.av (bv c)):=by kernel_rfl):JR E N F lit (if c=true then m1 else m2) l st Q:=jr_split hl (fun _=>h1) (fun _=>h2)
theorem jK {R:List LO} (i:Nat) {d:Option Tmp} {g:FuncId} {args:Array Operand} {ats:Array TypeId} {ty:TypeId} {gd:Option (Tmp × Bool)} {vs:List AV} {m1:Option β} {er:β→AV} {f:β→Option α} {st1:β→CS} (hc:Ct E g vs m1 er)
    (hk:∀ r,m1=some r→JR E N F lit (f r) (R.drop (i + 1)) (st1 r) Q)
    (ho:R[i]? = some ⟨d,.call ⟨.value (.func g),args,ats⟩,ty,gd⟩:=by rfl) (hg:gOk st.K gd=true:=by rfl) (hp:E.prim g=none:=by rfl) (hpf:E.pf g=true:=by rfl)
    (hv:opnds (tl N st.K none) args.toList=some vs:=by kernel_rfl) (hs:snapL (snapc (hl st.H) depth) vs=some (vs,false):=by kernel_rfl) (hput:∀ r,putD N st d (.av (er r))=some (st1 r):=by exact fun _=>rfl):JR E N F lit (m1.bind f) (R.drop i) st Q:=
  jr_callF ho hg hp hpf hv hs (all2_fle_refl _) hc (fun _=>rfl) hput hk
end
section
variable {f:List (Nat × Option Nat)} {H:List (Nat × AObj)}
theorem hC {i sz:Nat} {rows rows':List (List AV)} (j:Nat) (h1:lk f i=some (some j):=by rfl) (h2:lk H j=some (.rows sz rows):=by rfl) (h4:rensR f rows' = some rows:=by kernel_rfl):HOk f H (i,.rows sz rows'):=.inl ⟨j,_,_,_,h1,h2,rfl,.inl h4⟩
theorem hL {i sz:Nat} {rows rows':List (List AV)} (j:Nat) (hn:NoIdR rows') (h1:lk f i=some (some j):=by rfl) (h2:lk H j=some (.rows sz rows):=by rfl) (h4:rows' = rows:=by rfl):HOk f H (i,.rows sz rows'):=.inl ⟨j,_,_,_,h1,h2,rfl,.inr ⟨h4,h4 ▸ hn⟩⟩
theorem hZ {i sz:Nat} (h1:lk f i=some none:=by rfl):HOk f H (i,.rows sz []):=.inr (.inl ⟨h1,sz,rfl⟩)
end
theorem pc {α:Type} {P:α→Prop} {a:α} {as:List α} (h:P a) (k:AllP P as):AllP P (a :: as):=⟨h,k⟩
theorem wkR {N:Nat} {F:Fx} {st:CS} {K':List (Nat × KV)} {H':List (Nat × AObj)} {n':Nat} (f:List (Nat × Option Nat)) (hF:FixF F f) (hH:AllP (HOk f st.H) H')
    (hb:(allAv K' && injB (inH H' f) && keysLt n' f)=true:=by rfl) (hK:K'.map (fun p=>((lk st.K p.1).bind kvw).map some)=K'.map (fun p=>some ((kvw p.2).bind (ren f))):=by kernel_rfl):Wk N F st ⟨K',H',n'⟩:=wk_ren f hF hb hK hH
end Go.Vm
/- Calls that change what their arguments lead to. -/
set_option linter.unusedSimpArgs false
namespace Go.Vm
open Go
def CtM {α:Type} (E:Env) (g:FuncId) (vs:List AV) (H:List (Nat × AObj)) (k:Nat) (m:Option α) (er:α→AV) (H':α→List (Nat × AObj)) (k':Nat):Prop:=
  ∀ r,m=some r→∀ ρ vs' h n,All2 (VLe ρ) vs vs'→HLe ρ (hl H) k h n→∃ u h1 n1 ρ1,callFn E (rinf E) g vs' h n=some (u,h1,n1)∧VLe ρ1 (er r) u∧HLe ρ1 (hl (H' r)) k' h1 n1∧Fr ρ h n ρ1 h1 n1
def QPostM {α:Type} (E:Env) (rs:List ResultVar) (F:Fx) (er:α→AV) (H':α→List (Nat × AObj)) (k':Nat):α→AX→St→Prop:=fun r x s=>
  (x = .normal∨x = .ret)∧∃ v,resultsOf E.P rs s.t s.h=some v∧∃ ρ1,VLe ρ1 (er r) v∧HLe ρ1 (hl (H' r)) k' s.h s.n∧Fr F.ρ F.h F.n ρ1 s.h s.n
section
variable {α β:Type} {E:Env} {N:Nat} {F:Fx} {lit:Bool} {st:CS} {m:Option α} {Q:α→AX→St→Prop} {L:LC} {x:AX}
theorem jx_retM {rs:List ResultVar} {er:α→AV} {H':α→List (Nat × AObj)} {k':Nat} {r:α} (st':CS) (hx:x = .normal∨x = .ret) (hw:Wk N F st st') (hr:resultsOf E.P rs (tl N st'.K none) (hl st'.H)=some (er r):=by kernel_rfl)
    (hs:keepL (keysOf (H' r)) st'.H=H' r:=by kernel_rfl) (hn:st'.n=k':=by rfl):JX N F (some r) x st (QPostM E rs F er H' k'):=fun s hs2 r2 hr2=>by
  cases hr2
  obtain⟨ρ,hR,hF⟩:=hw s hs2
  obtain⟨v',h1,h2⟩:=resultsOf_sim hR.hle (tl_le hR.len hR.kv (a:=none) (fun q e=>by cases e)) hr
  subst hn
  refine⟨hx,v',h1,ρ,h2,hR.hle.sub fun k o hk=>?_,hF⟩
  rw[← hs] at hk
  exact lk_keepL hk
theorem ctm_intro {g:FuncId} {rs:List ResultVar} {vs:List AV} {H:List (Nat × AObj)} {k:Nat} {er:α→AV} {H':α→List (Nat × AObj)} {k':Nat} (kf:FnOk E g N rs L) (hpf:E.pf g=false) (hN:vs.length≤N)
    (hj:∀ F:Fx,(∀ i m,F.ρ i=some m→i < k)→JC E N F m L ⟨argsK 0 vs,H,k⟩ (QPostM E rs F er H' k')):CtM E g vs H k m er H' k':=fun r hr ρ vs' h n hv hH=>by
  have hat:At N ⟨ρ,h,n⟩ ⟨argsK 0 vs,H,k⟩ ⟨vs' ++ List.replicate (N - vs'.length) (.s undef),h,n⟩:=by
    refine⟨ρ,⟨?_,fun i e hi=>?_,hH⟩,Fr.refl _ _ _⟩
    · have:=hv.length
      simp only[List.length_append,List.length_replicate]
      omega
    · obtain⟨v,k,rfl,rfl,h3⟩:=lk_argsK hi
      obtain⟨v',h4,h5⟩:=hv.get h3
      refine⟨v',?_,h5⟩
      rw[Nat.zero_add]
      show (vs' ++ _)[k]? = _
      rw[List.getElem?_append_left]
      · exact h4
      · rcases Nat.lt_or_ge k vs'.length with hlt | hge
        · exact hlt
        · rw[List.getElem?_eq_none hge] at h4; cases h4
  obtain⟨x,s,⟨hx,v,h4,ρ1,h5,h6,h7⟩,h8⟩:=wp_det L _ _ (hj ⟨ρ,h,n⟩ hH.lt _ hat r hr)
  obtain⟨v2,h2,n2,e1,e2,e3,e4⟩:=fn_nx (Q:=fun v' h' n'=>v' = v∧h' = s.h∧n' = s.n) kf hpf (h8 _ ⟨hx,v,h4,rfl,rfl,rfl⟩)
  subst e2 e3 e4
  exact⟨_,_,_,ρ1,e1,h5,h6,h7⟩
theorem hle_ren {ρ:Rn} {H H':List (Nat × AObj)} {n n' n2:Nat} {h:AHeap} (hle:HLe ρ (hl H) n h n2) (f:List (Nat × Option Nat)) (hb:(injB (inH H' f) && keysLt n' f)=true) (hH:AllP (HOk f H) H'):HLe (renRn f ρ) (hl H') n' h n2:=by
  simp only[Bool.and_eq_true] at hb
  obtain⟨hb2,hb3⟩:=hb
  refine⟨fun i o ho=>?_,fun i j a sh sh' h1 h2 e1 e2=>?_,fun i m e=>?_,fun i a sh e=>?_⟩
  · rcases hH.mem (lk_mem ho) with ⟨j,sz,rows,rows',h1,h2,h3,h4⟩ | h1
    · simp only at h1 h3
      subst h3
      rcases hle.ob j _ h2 with ⟨a,sh,o',g1,g2,pre,mid,post,rfl,g3,g4⟩ | ⟨g1,sz2,g2⟩
      · refine .inl ⟨a,sh,_,by simp only[renRn,h1]; exact g1,g2,pre,mid,post,rfl,g3,?_⟩
        rcases h4 with h4 | ⟨rfl,h4⟩
        · exact rensR_ok h4 g4
        · exact h4.all2 g4
      · cases g2
        refine .inr ⟨by simp only[renRn,h1]; exact g1,sz,?_⟩
        rcases h4 with h4 | ⟨rfl,h4⟩
        · cases rows' with
          | nil=>rfl
          | cons c cs=>
            simp only[rensR] at h4
            split at h4
            · cases h4
            · cases h4
        · rfl
    · rcases h1 with ⟨h1,h2⟩ | ⟨j,R,tm,h1,h2,h3,h4⟩
      · exact .inr ⟨by simp only[renRn,h1],h2⟩
      · simp only at h1 h3
        subst h3
        rcases hle.ob j _ h2 with ⟨a,sh,o',g1,g2,g3,R',rfl,g4,g5,g6,g7⟩ | ⟨_,sz2,g2⟩
        · exact .inl ⟨a,sh,_,by simp only[renRn,h1]; exact g1,g2,g3,R',rfl,g4,g5,rens_ok h4 g6,g7⟩
        · cases g2
  · have key:∀ i a sh,((hl H') i).isSome=true→renRn f ρ i=some (.at a sh)→∃ p,lk f i=some (some p)∧(hl H p).isSome=true∧ρ p=some (.at a sh):=fun i a sh hi e=>by
      obtain⟨o,ho⟩:=Option.isSome_iff_exists.1 hi
      simp only[renRn] at e
      rcases hH.mem (lk_mem ho) with ⟨p,sz,rows,rows',q1,q2,q3,q4⟩ | ⟨q1,q2⟩ | ⟨p,R,tm,q1,q2,q3,q4⟩
      · simp only at q1
        rw[q1] at e
        exact⟨p,q1,by simp only[hl,q2]; rfl,e⟩
      · simp only at q1
        rw[q1] at e
        cases e
      · simp only at q1
        rw[q1] at e
        exact⟨p,q1,by simp only[hl,q2]; rfl,e⟩
    obtain⟨p,p1,p2,p3⟩:=key i a sh h1 e1
    obtain⟨q,q1,q2,q3⟩:=key j a sh' h2 e2
    have:=hle.inj p q a sh sh' p2 q2 p3 q3
    subst this
    exact injB_ok hb2 i j p (inH_mem (lk_mem p1) h1) (inH_mem (lk_mem q1) h2)
  · simp only[renRn] at e
    split at e
    · rename_i j hj; exact keysLt_ok hb3 hj
    · rename_i hj; exact keysLt_ok hb3 hj
    · cases e
  · simp only[renRn] at e
    split at e
    · exact hle.lt' _ _ _ e
    · cases e
    · cases e
def imgIn (H:List (Nat × AObj)):List (Nat × Option Nat)→Bool
  | []=>true
  | (_,some j) :: l=>(lk H j).isSome && imgIn H l
  | (_,none) :: l=>imgIn H l
theorem imgIn_ok {H:List (Nat × AObj)} {i j:Nat}:∀ {f:List (Nat × Option Nat)},imgIn H f=true→(i,some j)∈f→(lk H j).isSome=true
  | (_,some k) :: l,h,hm=>by
    simp only[imgIn,Bool.and_eq_true] at h
    rcases List.mem_cons.1 hm with e | hm
    · cases e; exact h.1
    · exact imgIn_ok h.2 hm
  | (_,none) :: l,h,hm=>by
    rcases List.mem_cons.1 hm with e | hm
    · cases e
    · exact imgIn_ok (f:=l) (by simpa[imgIn] using h) hm
def backOk (f:List (Nat × Option Nat)) (n:Nat):List (Nat × Option Nat)→Bool
  | []=>true
  | (j,some p) :: l=>(Nat.ble n j || (match lk f p with | some (some q)=>Nat.beq q j | _=>false)) && backOk f n l
  | (_,none) :: _=>false
theorem backOk_none {f:List (Nat × Option Nat)} {n j:Nat}:∀ {l:List (Nat × Option Nat)},backOk f n l=true→(j,none)∉l
  | (_,some p) :: l,h,hm=>by
    simp only[backOk,Bool.and_eq_true] at h
    rcases List.mem_cons.1 hm with e | hm
    · cases e
    · exact backOk_none h.2 hm
  | (_,none) :: l,h,hm=>by simp[backOk] at h
  | [],_,hm=>by cases hm
theorem backOk_some {f:List (Nat × Option Nat)} {n j p:Nat}:∀ {l:List (Nat × Option Nat)},backOk f n l=true→(j,some p)∈l→n≤j∨lk f p=some (some j)
  | (k,some q) :: l,h,hm=>by
    simp only[backOk,Bool.and_eq_true,Bool.or_eq_true] at h
    rcases List.mem_cons.1 hm with e | hm
    · cases e
      rcases h.1 with h | h
      · exact .inl (Nat.le_of_ble_eq_true h)
      · right
        split at h
        · rename_i r hr
          rw[hr,beq_eq h]
        · cases h
    · exact backOk_some h.2 hm
  | (_,none) :: l,h,hm=>by simp[backOk] at h
def HBk (f f2:List (Nat × Option Nat)) (H H1:List (Nat × AObj)) (p:Nat × AObj):Prop:=(lk H p.1=some p.2∧imgNot p.1 f=true)∨HOk f2 H1 p
theorem callM_step {d:Option Tmp} {g:FuncId} {args:Array Operand} {ats:Array TypeId} {ty:TypeId} {gd:Option (Tmp × Bool)} {vs0:List AV} {H0:List (Nat × AObj)} {k0 k1:Nat} {m1:Option β} {er:β→AV} {H1:β→List (Nat × AObj)}
    (f f2:List (Nat × Option Nat)) (H2:β→List (Nat × AObj)) (w:β→AV) (n2:Nat) {st1:β→CS} (hc:CtM E g vs0 H0 k0 m1 er H1 k1) (hA:AllP (HOk f st.H) H0) (hB:∀ r,AllP (HBk f f2 st.H (H1 r)) (H2 r))
    (hg:gOk st.K gd=true)
    (hvr:opnds (tl N st.K none) args.toList=rens f vs0) (hvs:(rens f vs0).isSome=true)
    (hf:(injB (inH H0 f) && keysLt k0 f && imgIn st.H f)=true) (hf2:(backOk f st.n f2 && injB f2 && keysLt n2 f2 && Nat.ble st.n n2)=true)
    (hw:∀ r,ren f2 (w r)=some (er r)) (hput:∀ r,putD N ⟨st.K,H2 r,n2⟩ d (.av (w r))=some (st1 r)) {s:St} (hs2:At N F st s) {r:β} (hm:m1=some r) :
    ∃ s2,stepL E lit ⟨d,.call ⟨.value (.func g),args,ats⟩,ty,gd⟩ s=some s2∧At N F (st1 r) s2 ∧
      ∀ a i k z o,lk st.K a=some (.av (.ptr i k z o))→(lk st.H i).isSome=true→imgNot i f=true→∀ v,s.t[a]? = some v→∀ id∈idOf v,s2.h id=s.h id:=by
    obtain⟨ρ,hR,hF⟩:=hs2
    obtain⟨vs,hr⟩:=Option.isSome_iff_exists.1 hvs
    have hv:=hvr.trans hr
    simp only[Bool.and_eq_true] at hf hf2
    obtain⟨⟨f1,f3⟩,f4⟩:=hf
    obtain⟨⟨⟨b1,b2⟩,b3⟩,b4⟩:=hf2
    have b4:=Nat.le_of_ble_eq_true b4
    obtain⟨vs',h1,h2⟩:=opnds_sim (tl_le hR.len hR.kv (a:=none) (fun q e=>by cases e)) hv
    have hle0:=hle_ren hR.hle f (n':=k0) (H':=H0) (by rw[f1,f3]; rfl) hA
    obtain⟨u,hh,n1,ρ1,c1,c2,c3,c4⟩:=hc r hm (renRn f ρ) vs' s.h s.n (rens_ok hr h2) hle0
    -- the numbers behind the call
    let ρ2:Rn:=fun j=>match lk f2 j with | some (some p)=>ρ1 p | _=>ρ j
    have hρ2:∀ {j p},lk f2 j=some (some p)→ρ2 j=ρ1 p:=fun {j p} e=>by simp only[ρ2,e]
    have hρ0:∀ {j},(∀ p,lk f2 j≠some (some p))→ρ2 j=ρ j:=fun {j} e=>by
      simp only[ρ2]
    have ext:Ext ρ ρ2:=fun j mm e=>by
      cases hj:lk f2 j with
      | none=>rw[hρ0 (fun p q=>by rw[hj] at q; cases q)]; exact e
      | some o=>
        cases o with
        | none=>exact absurd (lk_mem hj) (backOk_none b1)
        | some p=>
          rw[hρ2 hj]
          rcases backOk_some b1 (lk_mem hj) with hn | hp
          · have:=hR.hle.lt j mm e; omega
          · exact c4.ext p mm (by simp only[renRn,hp]; exact e)
    have ext2:Ext (renRn f2 ρ1) ρ2:=fun j mm e=>by
      simp only[renRn] at e
      cases hj:lk f2 j with
      | none=>rw[hj] at e; cases e
      | some o=>
        cases o with
        | none=>exact absurd (lk_mem hj) (backOk_none b1)
        | some p=>rw[hj] at e; rw[hρ2 hj]; exact e
    have img:∀ {i0 a sh},renRn f ρ i0=some (.at a sh)→∃ j0,lk f i0=some (some j0)∧ρ j0=some (.at a sh)∧(hl st.H j0).isSome=true:=fun {i0 a sh} e=>by
      simp only[renRn] at e
      cases hj:lk f i0 with
      | none=>rw[hj] at e; cases e
      | some o=>
        cases o with
        | none=>rw[hj] at e; cases e
        | some j0=>rw[hj] at e; exact⟨j0,rfl,e,imgIn_ok f4 (lk_mem hj)⟩
    -- what lies under a number behind the call
    have kind:∀ {j o},lk (H2 r) j=some o→(lk st.H j=some o∧imgNot j f=true)∨HOk f2 (H1 r) (j,o):=fun {j o} e=>(hB r).mem (lk_mem e)
    have kindA:∀ {j a sh},(hl (H2 r) j).isSome=true→ρ2 j=some (.at a sh)→((hl st.H j).isSome=true∧imgNot j f=true∧ρ j=some (.at a sh)∧a < s.n)∨(∃ p,lk f2 j=some (some p)∧ρ1 p=some (.at a sh)∧(hl (H1 r) p).isSome=true):=fun {j a sh} hj e=>by
      obtain⟨o,ho⟩:=Option.isSome_iff_exists.1 hj
      rcases kind ho with ⟨k1,k2⟩ | k1
      · left
        have:∃ mm,ρ j=some mm:=by
          rcases hR.hle.ob j o k1 with ⟨a,sh,o',g1,_⟩ | ⟨g1,_⟩ <;> exact⟨_,g1⟩
        obtain⟨mm,hmm⟩:=this
        have e2:=ext j mm hmm
        rw[e2] at e
        cases e
        exact⟨by simp only[hl,k1]; rfl,k2,hmm,hR.hle.lt' j a sh hmm⟩
      · right
        rcases k1 with ⟨p,sz,rows,rows',q1,q2,q3,q4⟩ | ⟨q1,q2⟩ | ⟨p,R,tm,q1,q2,q3,q4⟩
        · exact⟨p,q1,by rw[← hρ2 q1]; exact e,by simp only[hl,q2]; rfl⟩
        · exact absurd (lk_mem q1) (backOk_none b1)
        · exact⟨p,q1,by rw[← hρ2 q1]; exact e,by simp only[hl,q2]; rfl⟩
    have hle2:HLe ρ2 (hl (H2 r)) n2 hh n1:=by
      refine⟨fun j o ho=>?_,fun j j2 a sh sh' hj hj2 e e2=>?_,fun j mm e=>?_,fun j a sh e=>?_⟩
      · rcases kind ho with ⟨k1,k2⟩ | k1
        · rcases hR.hle.ob j o k1 with ⟨a,sh,o',g1,g2,g3⟩ | ⟨g1,g2⟩
          · refine .inl ⟨a,sh,o',ext j _ g1,?_,g3.ext ext⟩
            rw[c4.same a (hR.hle.lt' j a sh g1) fun i0 sh0 e0=>?_]
            · exact g2
            · obtain⟨j0,i1,i2,i3⟩:=img e0
              have:=hR.hle.inj j j0 a sh sh0 (by simp only[hl,k1]; rfl) i3 g1 i2
              subst this
              exact imgNot_ok k2 i0 (lk_mem i1)
          · exact .inr ⟨ext j _ g1,g2⟩
        · rcases k1 with ⟨p,sz,rows,rows',h1,h2,h3,h4⟩ | ⟨q1,q2⟩ | ⟨p,R,tm,h1,h2,h3,h4⟩
          · simp only at h1 h3
            subst h3
            rcases c3.ob p _ h2 with ⟨a,sh,o',g1,g2,pre,mid,post,rfl,g3,g4⟩ | ⟨g1,sz2,g2⟩
            · refine .inl ⟨a,sh,_,by rw[hρ2 h1]; exact g1,g2,pre,mid,post,rfl,g3,?_⟩
              rcases h4 with h4 | ⟨rfl,h4⟩
              · exact (rensR_ok h4 g4).ext2 ext2
              · exact h4.all2 g4
            · cases g2
              refine .inr ⟨by rw[hρ2 h1]; exact g1,sz,?_⟩
              rcases h4 with h4 | ⟨rfl,h4⟩
              · cases rows' with
                | nil=>rfl
                | cons c cs=>
                  simp only[rensR] at h4
                  split at h4
                  · cases h4
                  · cases h4
              · rfl
          · exact absurd (lk_mem q1) (backOk_none b1)
          · simp only at h1 h3
            subst h3
            rcases c3.ob p _ h2 with ⟨a,sh,o',g1,g2,g3,R',rfl,g4,g5,g6,g7⟩ | ⟨_,sz2,g2⟩
            · exact .inl ⟨a,sh,_,by rw[hρ2 h1]; exact g1,g2,g3,R',rfl,g4,g5,(rens_ok h4 g6).ext ext2,g7⟩
            · cases g2
      · rcases kindA hj e with ⟨x1,x2,x3,x4⟩ | ⟨p,x1,x2,x3⟩ <;> rcases kindA hj2 e2 with ⟨y1,y2,y3,y4⟩ | ⟨p',y1,y2,y3⟩
        · exact hR.hle.inj j j2 a sh sh' x1 y1 x3 y3
        · rcases c4.im p' a sh' y2 with ⟨i0,sh0,e0⟩ | hge
          · obtain⟨j0,i1,i2,i3⟩:=img e0
            have:=hR.hle.inj j j0 a sh sh0 x1 i3 x3 i2
            subst this
            exact absurd (lk_mem i1) (imgNot_ok x2 i0)
          · omega
        · rcases c4.im p a sh x2 with ⟨i0,sh0,e0⟩ | hge
          · obtain⟨j0,i1,i2,i3⟩:=img e0
            have:=hR.hle.inj j2 j0 a sh' sh0 y1 i3 y3 i2
            subst this
            exact absurd (lk_mem i1) (imgNot_ok y2 i0)
          · omega
        · have:=c3.inj p p' a sh sh' x3 y3 x2 y2
          subst this
          exact injB_ok b2 j j2 p (lk_mem x1) (lk_mem y1)
      · cases hj:lk f2 j with
        | none=>
          rw[hρ0 (fun p q=>by rw[hj] at q; cases q)] at e
          have:=hR.hle.lt j mm e
          omega
        | some o=>exact keysLt_ok b3 hj
      · have hn:s.n≤n1:=c4.le
        by_cases hj:∃ p,lk f2 j=some (some p)
        · obtain⟨p,hp⟩:=hj
          rw[hρ2 hp] at e
          exact c3.lt' p a sh e
        · rw[hρ0 fun p hp=>hj ⟨p,hp⟩] at e
          have:=hR.hle.lt' j a sh e
          omega
    have hfr:Fr ρ s.h s.n ρ2 hh n1:=by
      refine⟨c4.le,fun j hj hi=>c4.same j hj fun i0 sh0 e0=>?_,fun j a sh e=>?_,ext⟩
      · obtain⟨j0,_,i2,_⟩:=img e0
        exact hi j0 sh0 i2
      · by_cases hj:∃ p,lk f2 j=some (some p)
        · obtain⟨p,hp⟩:=hj
          rw[hρ2 hp] at e
          rcases c4.im p a sh e with ⟨i0,sh0,e0⟩ | hge
          · obtain⟨j0,_,i2,_⟩:=img e0
            exact .inl ⟨j0,sh0,i2⟩
          · exact .inr hge
        · rw[hρ0 fun p hp=>hj ⟨p,hp⟩] at e
          exact .inl ⟨j,sh,e⟩
    refine⟨⟨putT s.t d u,hh,n1⟩,?_,⟨ρ2,?_,hF.trans hfr⟩,?_⟩
    · rw[gOk_step (o:=⟨d,.call ⟨.value (.func g),args,ats⟩,ty,gd⟩) hR hg]
      unfold stepG
      simp only[callOf,opnd,h1,List.append_nil,c1]
    · exact putD_ok (hput r) ext hR.len hR.kv hle2 (fun i hi=>kok_av (by rw[hR.len]; exact putD_lt (hput r) hi) ((ren_ok (hw r) c2).ext ext2))
    · intro a i k z o e1 hi hn v hv2 id hid
      obtain⟨v',v1,v2⟩:=hR.kv a _ e1
      rw[hv2] at v1
      cases v1
      simp only[VLe] at v2
      obtain⟨A,sh,r1,rfl⟩:=v2
      simp only[idOf,List.mem_singleton] at hid
      subst hid
      refine c4.same _ (hR.hle.lt' i _ sh r1) fun i0 sh0 e0=>?_
      obtain⟨j0,i1,i2,i3⟩:=img e0
      have:=hR.hle.inj i j0 _ sh sh0 hi i3 r1 i2
      subst this
      exact imgNot_ok hn i0 (lk_mem i1)
theorem jr_callM {R:List LO} (i:Nat) {d:Option Tmp} {g:FuncId} {args:Array Operand} {ats:Array TypeId} {ty:TypeId} {gd:Option (Tmp × Bool)} {vs0:List AV} {H0:List (Nat × AObj)} {k0 k1:Nat} {m1:Option β} {er:β→AV} {H1:β→List (Nat × AObj)}
    (f f2:List (Nat × Option Nat)) (H2:β→List (Nat × AObj)) (w:β→AV) (n2:Nat) {st1:β→CS} {q:β→Option α} (hc:CtM E g vs0 H0 k0 m1 er H1 k1) (hA:AllP (HOk f st.H) H0) (hB:∀ r,AllP (HBk f f2 st.H (H1 r)) (H2 r))
    (hk:∀ r,m1=some r→JR E N F lit (q r) (R.drop (i + 1)) (st1 r) Q)
    (ho:R[i]? = some ⟨d,.call ⟨.value (.func g),args,ats⟩,ty,gd⟩:=by rfl) (hg:gOk st.K gd=true:=by rfl)
    (hvr:opnds (tl N st.K none) args.toList=rens f vs0:=by kernel_rfl) (hvs:(rens f vs0).isSome=true:=by kernel_rfl)
    (hf:(injB (inH H0 f) && keysLt k0 f && imgIn st.H f)=true:=by rfl) (hf2:(backOk f st.n f2 && injB f2 && keysLt n2 f2 && Nat.ble st.n n2)=true:=by rfl)
    (hw:∀ r,ren f2 (w r)=some (er r):=by exact fun _=>rfl) (hput:∀ r,putD N ⟨st.K,H2 r,n2⟩ d (.av (w r))=some (st1 r):=by exact fun _=>rfl):JR E N F lit (m1.bind q) (R.drop i) st Q:=fun s hs2 r2 hr2=>by
  cases hm:m1 with
  | none=>rw[hm] at hr2; cases hr2
  | some r=>
    rw[hm] at hr2
    obtain⟨s2,e1,e2,_⟩:=callM_step (lit:=lit) (ty:=ty) (ats:=ats) f f2 H2 w n2 hc hA hB hg hvr hvs hf hf2 hw hput hs2 hm
    rw[drop_of_get ho]
    exact⟨s2,e1,hk r hm s2 e2 r2 hr2⟩
end
end Go.Vm
/- Appending rows that may be empty. -/
namespace Go.Vm
open Go
theorem appendOf_same {P:Program} {h:AHeap} {n:Nat} {α:Type} {e:TypeId} {sz b:Nat} {x y:AV} {m:List α} {c:α→List AV} (he:elOk P e sz b=true) (hx:x=nilS∨x = .esl∨∃ i o l s,x = .osl i o l s) (hy:rowsOf h sz y=some (m.map c)) (hm:m=[]):appendOf P h n e x y=some (x,[]):=by
  obtain⟨h1,h2,⟨z,h3,h4⟩,h5⟩:=elOk_iff he
  unfold appendOf
  simp only[h1,h2,hy,h3,Option.bind_eq_bind,Option.bind_some]
  rw[if_neg (by omega),if_pos (by simpa using hm)]
  rcases hx with rfl | rfl | ⟨i,o,l,s,rfl⟩ <;> rfl
section
variable {α β:Type} {E:Env} {N:Nat} {F:Fx} {lit:Bool} {st:CS} {Q:α→AX→St→Prop}
theorem jr_two {R:List LO} {i:Nat} {o:LO} {mo:Option β} {f:β→Option α} {C:Prop} {v1:β→AV} {us1:β→Ups} {v2:β→AV} {sA sB st1:β→CS} (ho:R[i]? = some o) (hg:gOk st.K o.g=true) (hc:(isCallV o.op || (lit && isLit o.op))=false) (hn:noShut o.op=true)
    (h1:¬C→∀ a,mo=some a→aop E.P o.oper (tl N st.K none) (hl st.H) st.n=some (v1 a,us1 a)) (h2:C→∀ a,mo=some a→aop E.P o.oper (tl N st.K none) (hl st.H) st.n=some (v2 a,[]))
    (hp1:∀ a,putD N ⟨st.K,updH st.H (us1 a),st.n + kN o.op⟩ o.dst (.av (v1 a))=some (sA a)) (hp2:∀ a,putD N ⟨st.K,st.H,st.n + kN o.op⟩ o.dst (.av (v2 a))=some (sB a))
    (w1:∀ a,Wk N F (sA a) (st1 a)) (w2:C→∀ a,mo=some a→Wk N F (sB a) (st1 a))
    (hk:∀ a,mo=some a→JR E N F lit (f a) (R.drop (i + 1)) (st1 a) Q):JR E N F lit (mo.bind f) (R.drop i) st Q:=fun s hs r hr=>by
  cases hm:mo with
  | none=>rw[hm] at hr; cases hr
  | some a=>
    rw[hm] at hr
    by_cases hC:C
    · exact jr_aop (us:=[]) (drop_of_get ho) hg hc hn (h2 hC a hm) (hp2 a) (fun s hs r hr=>hk a hm s (w2 hC a hm s hs) r hr) s hs r hr
    · exact jr_aop (drop_of_get ho) hg hc hn (h1 hC a hm) (hp1 a) (fun s hs r hr=>hk a hm s (w1 a s hs) r hr) s hs r hr
end
theorem app_same {α:Type} {b:Nat} {l m r:List α} (hm:m=[]) (h:app b l m=some r):r=l:=by
  obtain⟨_,rfl⟩:=app_iff h
  rw[hm,List.append_nil]
end Go.Vm
/- Functions that are taken for known, called with rows. -/
namespace Go.Vm
open Go
section
variable {α β:Type} {E:Env} {N:Nat} {F:Fx} {lit:Bool} {st:CS} {m:Option α} {Q:α→AX→St→Prop}
theorem ct_primG {g:FuncId} {p:List AV→Option AV} (hp:E.prim g=some p) {vs:List AV} {er:α→AV} (hv:∀ r,m=some r→∀ vs',All2 (VLe Rn.nil) vs vs'→p vs' = some (er r)) (her:∀ r,VLe Rn.nil (er r) (er r)):Ct E g vs m er:=fun r hr vs' hv' h n=>
  ⟨er r,prim_spec hp (hv r hr vs' hv'),her r⟩
end
def strsOf:List (List AV)→Option (List Str)
  | []=>some []
  | [.s (.string b)] :: rs=>(strsOf rs).map fun l=>b.data.toList :: l
  | _=>none
theorem strsOf_map:∀ l:List Str,strsOf (l.map cS)=some l
  | []=>rfl
  | x :: l=>by
    simp only[List.map_cons,cS,strsOf,strsOf_map l,Option.map_some,Option.some.injEq,List.cons.injEq,and_true]
theorem rows_s:∀ {l:List Str} {rs:List (List AV)},VLess Rn.nil (l.map cS) rs→rs=l.map cS
  | [],rs,h=>by simpa[VLess] using h
  | x :: l,rs,h=>by
    simp only[List.map_cons,VLess] at h
    obtain⟨d,es,rfl,h1,h2⟩:=h
    rw[rows_s h2]
    simp only[cS,VLes] at h1
    obtain⟨d2,es2,rfl,h3,rfl⟩:=h1
    rw[h3.s_inv]
    rfl
def strRow:AV→Option (List Str)
  | .s (.slice none 0 0)=>some []
  | .esl=>some []
  | .fsl 1 rows=>strsOf rows
  | _=>none
theorem strRow_ok {l:List Str} {v:AV} (h:VLe Rn.nil (.fsl 1 (l.map cS)) v):strRow v=some l:=by
  rcases VLe.fsl_iff.1 h with ⟨rs,rfl,h2⟩ | ⟨h1,rfl | rfl⟩
  · have h3:=VLe.fsl_iff.1 h
    have:rs=l.map cS:=by
      simp only[VLe] at h
      rcases h with ⟨rs',e,h4⟩ | ⟨_,e | e⟩
      · cases e; exact rows_s h4
      · cases e
      · cases e
    subst this
    exact strsOf_map l
  · cases l with
    | nil=>rfl
    | cons x l=>simp at h1
  · cases l with
    | nil=>rfl
    | cons x l=>simp at h1
def joinP:List AV→Option AV
  | [x,.s (.string sep)]=>match strRow x with
    | some l=>if l.length≤140737488355328∧(Lib.join l sep.data.toList).length≤140737488355328 then some (.s (.string ⟨(Lib.join l sep.data.toList).toArray⟩)) else none
    | none=>none
  | _=>none
noncomputable def strings_Join (l:List Str) (sep:Str):Option Str:=if l.length≤140737488355328∧(Lib.join l sep).length≤140737488355328 then some (Lib.join l sep) else none
theorem strings_Join_ct {E:Env} {g:FuncId} (hp:E.prim g=some joinP) (l:List Str) (sep:Str):Ct E g [.fsl 1 (List.map cS l),bs sep] (strings_Join l sep) (fun r:Str=>bs r):=
  ct_primG hp (fun r hr vs' hv=>by
    match vs',hv with
    | [x,y],hv=>
      have h1:=strRow_ok hv.1
      have h2:=hv.2.1.s_inv
      subst h2
      unfold strings_Join at hr
      split at hr
      · rename_i h
        cases hr
        unfold joinP
        simp only[h1]
        rw[if_pos h]
      · cases hr
    | [],hv=>exact hv.elim
    | [_],hv=>exact hv.2.elim
    | _ :: _ :: _ :: _,hv=>exact hv.2.2.elim) (fun r=>VLe.s_refl _)
theorem ct_primM {E:Env} {α:Type} {m:Option α} {g:FuncId} {p:List AV→AHeap→Nat→Option (AV × AHeap × Nat)} (hp:E.prim g=none) (hm:E.primM g=some p) (hpf:E.pf g=true) {vs:List AV} {er:α→AV}
    (hs:snapL (snapc AHeap.nil depth) vs=some (vs,false)) (hv:∀ r,m=some r→∀ vs',All2 (VLe Rn.nil) vs vs'→p vs' AHeap.nil 0=some (er r,AHeap.nil,0))
    (he:∀ r,∃ q,snap AHeap.nil depth (er r)=some (er r,q)) (her:∀ r,VLe Rn.nil (er r) (er r)):Ct E g vs m er:=fun r hr vs' hv' h n=>by
  obtain⟨w,b',h1,h2,h3⟩:=snapL_sim (f':=snap h depth) (fun x x' u b e hx=>snap_sim (hle_nil h n) e hx) hs hv'
  have hb:b' = false:=by
    cases b' with
    | false=>rfl
    | true=>cases h3 rfl
  subst hb
  have hc:(rinf E).call g w AHeap.nil 0=some (er r,AHeap.nil,0):=rinf_call.2 ⟨1,by
    show callAt E _ g w AHeap.nil 0=_
    unfold callAt
    rw[hm]
    exact hv r hr w h2⟩
  obtain⟨q,hq⟩:=he r
  refine⟨er r,?_,her r⟩
  unfold callFn
  rw[hp]
  simp only[hpf,if_true,h1,hc,hq,Bool.false_and,Bool.false_eq_true,if_false]
def liftM (p:List AV→Option AV):List AV→AHeap→Nat→Option (AV × AHeap × Nat):=fun args h n=>(p args).map fun v=>(v,h,n)
theorem strings_Join_ctM {E:Env} {g:FuncId} (hp:E.prim g=none) (hm:E.primM g=some (liftM joinP)) (hpf:E.pf g=true) (l:List Str) (sep:Str):Ct E g [.fsl 1 (List.map cS l),bs sep] (strings_Join l sep) (fun r:Str=>bs r):=
  ct_primM hp hm hpf rfl (fun r hr vs' hv=>by
    have h0:=strings_Join_ct (E:=⟨E.P,fun _=>some joinP,fun _=>true,fun _=>none,fun _ _ _=>false⟩) (g:=0) rfl l sep r hr vs' hv AHeap.nil 0
    obtain⟨u,h1,h2⟩:=h0
    unfold callFn at h1
    simp only[Option.map_eq_some_iff,Prod.mk.injEq,and_true,exists_eq_right] at h1
    have h3:=h2.s_inv
    subst h3
    unfold liftM
    rw[h1]
    rfl) (fun r=>⟨false,rfl⟩) (fun r=>VLe.s_refl _)
end Go.Vm
/- Regions in which loads and stores may change places: they go to memory that is apart. -/
namespace Go.Vm
open Go
def regOps:Code→Array Oper
  | .region _ ops _=>ops
  | _=>#[]
def noWr (a:Nat):List Oper→Bool
  | []=>true
  | o :: os=>(match o.dst with | some d=>!(Nat.beq d a) | none=>true) && noWr a os
def isLoad:Op→Bool
  | .load ..=>true
  | _=>false
def addrD (o:Oper):Option (Nat × Nat):=
  match o.op with
  | .alloc _=>match o.dst with
    | some d=>some (d,1)
    | none=>none
  | .load _ (.tmp a)=>some (a,0)
  | .store _ (.tmp a) _=>some (a,0)
  | _=>none
def pairOf (ops:Array Oper) (i j:Nat):Option (List (Nat × Nat)):=
  match ops[i]?,ops[j]? with
  | some o,some p=>match addrD o,addrD p with
    | some (a,k),some (b,m)=>cond (noWr a (ops.toList.drop (i + k)) && noWr b (ops.toList.drop (j + m))) (cond (isLoad o.op && isLoad p.op) (some []) (some [(a,b)])) none
    | _,_=>none
  | _,_=>none
def pairsI (ops:Array Oper) (an:List Nat) (i:Nat):List Nat→Option (List (Nat × Nat))
  | []=>some []
  | j :: js=>match cond (waits an j i) (some []) (pairOf ops i j),pairsI ops an i js with
    | some x,some y=>some (x ++ y)
    | _,_=>none
def pairsT (ops:Array Oper) (an:List Nat):List Nat→Option (List (Nat × Nat))
  | []=>some []
  | i :: is=>match pairsI ops an i is,pairsT ops an is with
    | some x,some y=>some (x ++ y)
    | _,_=>none
theorem noWr_ok {a:Nat}:∀ {l:List Oper},noWr a l=true→∀ o∈l,o.dst≠some a
  | [],_,p,hp=>by cases hp
  | o :: l,h,p,hp=>by
    simp only[noWr,Bool.and_eq_true] at h
    rcases List.mem_cons.1 hp with rfl | hp
    · intro e
      rw[e] at h
      simp at h
    · exact noWr_ok h.2 p hp
theorem putT_other {t:List AV} {d:Option Tmp} {v:AV} {a:Nat} (h:d≠some a):(putT t d v)[a]? = t[a]?:=by
  cases d with
  | none=>rfl
  | some d=>
    have:d≠a:=fun e=>h (by rw[e])
    simp only[putT]
    rw[List.getElem?_set_ne this]
theorem stepOp_tmp {E:Env} {r:Rec} {dr:Bool} {ops:Array Oper} {o:Oper} {s s':St} (h:stepOp E r dr ops o s=some s') {a:Nat} (ha:o.dst≠some a):s'.t[a]? = s.t[a]?:=by
  unfold stepOp at h
  split at h
  · cases h
  · cases h; exact putT_other ha
  · split at h
    · split at h
      · cases h; exact putT_other ha
      · cases h
    · split at h
      · split at h
        · cases h; exact putT_other ha
        · cases h
      · split at h
        · cases h; exact putT_other ha
        · cases h
    · split at h
      · split at h
        · cases h; exact putT_other ha
        · cases h
      · split at h
        · cases h; exact putT_other ha
        · cases h
    · split at h
      · cases h; exact putT_other ha
      · cases h
theorem trace_tmp {E:Env} {r:Rec} {ops:Array Oper} {a:Nat}:∀ {l:List Nat} {s:St} {q:List (Option Fp) × St},traceOps E r ops l s=some q→(∀ j∈l,∀ p,ops[j]? = some p→p.dst≠some a)→q.2.t[a]? = s.t[a]?
  | [],s,q,h,_=>by cases h; rfl
  | i :: l,s,q,h,hw=>by
    simp only[traceOps] at h
    split at h
    · cases h
    · rename_i o ho
      split at h
      · rename_i s1 h1
        split at h
        · rename_i fps s2 h2
          cases h
          have:=trace_tmp h2 (fun j hj=>hw j (List.mem_cons_of_mem _ hj))
          simp only at this ⊢
          rw[this,stepOp_tmp h1 (hw i (by simp) o ho)]
        · cases h
      · cases h
theorem addr_fp {E:Env} {r:Rec} {ops:Array Oper} {o:Oper} {s s1:St} {a k:Nat} (hs:stepOp E r true ops o s=some s1) (ha:addrD o=some (a,k)):∃ F:Fp,(match wantedA ops s.t o with | some true=>fpH E r o.op s.t s.h s.n | _=>some fp0)=some F∧F.all=false∧F.mem=none∧(isLoad o.op=true→F.W=[])∧((k=0∧∀ x,(x∈F.R∨x∈F.W)→∀ v,s.t[a]? = some v→x∈idOf v)∨(k=1∧∀ x,(x∈F.R∨x∈F.W)→∀ v,s1.t[a]? = some v→x∈idOf v)):=by
  have hk:k=0∨k=1:=by
    unfold addrD at ha
    split at ha
    · split at ha
      · cases ha; exact .inr rfl
      · cases ha
    · cases ha; exact .inl rfl
    · cases ha; exact .inl rfl
    · cases ha
  have triv:((k=0∧∀ x,(x∈fp0.R∨x∈fp0.W)→∀ v,s.t[a]? = some v→x∈idOf v)∨(k=1∧∀ x,(x∈fp0.R∨x∈fp0.W)→∀ v,s1.t[a]? = some v→x∈idOf v)):=by
    rcases hk with hk | hk
    · exact .inl ⟨hk,fun x hx=>by rcases hx with hx | hx <;> cases hx⟩
    · exact .inr ⟨hk,fun x hx=>by rcases hx with hx | hx <;> cases hx⟩
  cases hw:wantedA ops s.t o with
  | none=>exact⟨fp0,rfl,rfl,rfl,fun _=>rfl,triv⟩
  | some b=>
    cases b with
    | false=>exact⟨fp0,rfl,rfl,rfl,fun _=>rfl,triv⟩
    | true=>
      simp only
      unfold stepOp at hs
      rw[hw] at hs
      simp only at hs
      unfold addrD at ha
      split at ha
      · rename_i ty hop
        split at ha
        · rename_i d hd
          cases ha
          rw[hop] at hs ⊢
          unfold fpH
          simp only[fpOf]
          refine⟨_,rfl,rfl,rfl,fun h=>by simp[isLoad] at h,.inr ⟨by first | trivial | rfl,fun x hx v hv=>?_⟩⟩
          have hx:x=s.n:=by
            rcases hx with hx | hx
            · cases hx
            · simpa using hx
          subst hx
          simp only at hs
          cases hz:aop E.P o s.t s.h s.n with
          | none=>rw[hz] at hs; cases hs
          | some q=>
            rw[hz] at hs
            obtain⟨u,us⟩:=q
            simp only[Option.some.injEq] at hs
            subst hs
            unfold aop at hz
            rw[hop] at hz
            simp only at hz
            split at hz
            · rename_i cs hcs
              cases hz
              rw[hd] at hv
              simp only[putT] at hv
              rw[List.getElem?_set_self'] at hv
              cases hg:s.t[a]? with
              | none=>rw[hg] at hv; cases hv
              | some w=>
                rw[hg] at hv
                have hv:v = .ptr s.n 0 cs.length 0:=by
                  first
                    | (cases hv; rfl)
                    | (simp at hv; exact hv.symm)
                rw[hv]
                simp[idOf]
            · cases hz
        · cases ha
      · rename_i ty b hop
        cases ha
        rw[hop] at hs ⊢
        unfold fpH
        simp only[fpOf,opnd] at hs ⊢
        cases hv:s.t[a]? with
        | none=>
          exfalso
          unfold aop at hs
          rw[hop] at hs
          simp[opnd,hv] at hs
        | some v=>exact⟨_,rfl,rfl,rfl,fun _=>rfl,.inl ⟨by first | trivial | rfl,fun x hx v' hv'=>by cases hv'; rcases hx with hx | hx; exact hx; cases hx⟩⟩
      · rename_i ty b y hop
        cases ha
        rw[hop] at hs ⊢
        unfold fpH
        simp only[fpOf,opnd] at hs ⊢
        cases hv:s.t[a]? with
        | none=>
          exfalso
          unfold aop at hs
          rw[hop] at hs
          simp[opnd,hv] at hs
        | some v=>exact⟨_,rfl,rfl,rfl,fun h=>by simp[isLoad] at h,.inl ⟨by first | trivial | rfl,fun x hx v' hv'=>by cases hv'; rcases hx with hx | hx <;> exact hx⟩⟩
      · cases ha
theorem trace_addr {E:Env} {r:Rec} {ops:Array Oper}:∀ {l:List Nat} {s:St} {q:List (Option Fp) × St},traceOps E r ops l s=some q→∀ (m i:Nat) (o:Oper) (a k:Nat),l[m]? = some i→ops[i]? = some o→addrD o=some (a,k)→(∀ j∈l.drop (m + k),∀ p,ops[j]? = some p→p.dst≠some a) →
    ∃ F:Fp,q.1[m]? = some (some F)∧F.all=false∧F.mem=none∧(isLoad o.op=true→F.W=[])∧∀ x,(x∈F.R∨x∈F.W)→∀ v,q.2.t[a]? = some v→x∈idOf v
  | [],s,q,h,m,i,o,a,k,hm,_,_,_=>by simp at hm
  | k :: l,s,q,h,m,i,o,a,kk,hm,ho,ha,hw=>by
    have h0:=h
    simp only[traceOps] at h
    split at h
    · cases h
    · rename_i ok hok
      split at h
      · rename_i s1 h1
        split at h
        · rename_i fps s2 h2
          cases h
          cases m with
          | zero=>
            simp only[List.getElem?_cons_zero,Option.some.injEq] at hm
            subst hm
            rw[ho] at hok
            cases hok
            obtain⟨F,f1,f2,fm,f3,f4⟩:=addr_fp h1 ha
            refine⟨F,by simp only[List.getElem?_cons_zero]; exact congrArg some f1,f2,fm,f3,fun x hx v hv=>?_⟩
            rcases f4 with ⟨rfl,f4⟩ | ⟨rfl,f4⟩
            · have:=trace_tmp (a:=a) h0 (by simpa using hw)
              exact f4 x hx v (by rw[← this]; exact hv)
            · have:=trace_tmp (a:=a) h2 (by simpa using hw)
              exact f4 x hx v (by rw[← this]; exact hv)
          | succ m=>
            simp only[List.getElem?_cons_succ] at hm
            obtain⟨F,f1,f2⟩:=trace_addr h2 m i o a kk hm ho ha (by
              have e:m + 1 + kk=(m + kk) + 1:=by omega
              rw[e] at hw
              simpa using hw)
            exact⟨F,by simpa using f1,f2⟩
        · cases h
      · cases h
theorem pairsI_ok {ops:Array Oper} {an:List Nat} {i:Nat}:∀ {js:List Nat} {ps:List (Nat × Nat)},pairsI ops an i js=some ps→∀ j∈js,waits an j i=true∨∃ qs,pairOf ops i j=some qs∧∀ q∈qs,q∈ps
  | [],_,_,j,hj=>by cases hj
  | k :: js,ps,h,j,hj=>by
    simp only[pairsI] at h
    split at h
    · rename_i x y hx hy
      cases h
      rcases List.mem_cons.1 hj with rfl | hj
      · cases hw:waits an j i with
        | true=>exact .inl rfl
        | false=>
          rw[hw] at hx
          exact .inr ⟨x,hx,fun q hq=>List.mem_append_left _ hq⟩
      · rcases pairsI_ok hy j hj with h1 | ⟨qs,h1,h2⟩
        · exact .inl h1
        · exact .inr ⟨qs,h1,fun q hq=>List.mem_append_right _ (h2 q hq)⟩
    · cases h
theorem pair_ok {ops:Array Oper} {fps:List (Option Fp)} {t:List AV} {i j:Nat} {qs:List (Nat × Nat)}
    (hf:∀ (i:Nat) (o:Oper) (a k:Nat),ops[i]? = some o→addrD o=some (a,k)→noWr a (ops.toList.drop (i + k))=true→∃ F:Fp,fps[i]? = some (some F)∧F.all=false∧F.mem=none∧(isLoad o.op=true→F.W=[])∧∀ x,(x∈F.R∨x∈F.W)→∀ v,t[a]? = some v→x∈idOf v)
    (h1:pairOf ops i j=some qs) (hne:∀ a b,(a,b)∈qs→∃ u v,t[a]? = some u∧t[b]? = some v∧∀ x,x∈idOf u→x∉idOf v):mayApart fps[i]? fps[j]? = true:=by
    unfold pairOf at h1
    split at h1
    · rename_i o p ho hp
      split at h1
      · rename_i a ka b kb ha hb
        cases hn:(noWr a (ops.toList.drop (i + ka)) && noWr b (ops.toList.drop (j + kb))) with
        | false=>rw[hn] at h1; cases h1
        | true=>
          rw[hn] at h1
          simp only[Bool.and_eq_true] at hn
          obtain⟨A,e1,e2,em,e3,e4⟩:=hf i o a ka ho ha hn.1
          obtain⟨B,g1,g2,gm,g3,g4⟩:=hf j p b kb hp hb hn.2
          rw[e1,g1]
          simp only[mayApart,Fp.apart,em,gm,Bool.and_eq_true,List.all_eq_true,Bool.not_eq_true',Bool.or_eq_true,e2,g2]
          cases hl:(isLoad o.op && isLoad p.op) with
          | true=>
            simp only[Bool.and_eq_true] at hl
            rw[e3 hl.1,g3 hl.2]
            simp
          | false=>
            rw[hl] at h1
            simp only[cond_true,cond_false,Option.some.injEq] at h1
            have hab:(a,b)∈qs:=by rw[← h1]; simp
            have key:∀ z,(z∈A.R∨z∈A.W)→(z∈B.R∨z∈B.W)→False:=fun z hz hz'=>by
              obtain⟨u,v,u1,v1,hx⟩:=hne a b hab
              exact hx z (e4 z hz u u1) (g4 z hz' v v1)
            refine⟨⟨⟨fun z hz=>⟨?_,?_⟩,fun z hz=>?_⟩,.inr trivial⟩,.inr trivial⟩
            · simp only[List.contains_eq_mem,decide_eq_false_iff_not]
              exact fun q=>key z (.inr hz) (.inl q)
            · simp only[List.contains_eq_mem,decide_eq_false_iff_not]
              exact fun q=>key z (.inr hz) (.inr q)
            · simp only[List.contains_eq_mem,decide_eq_false_iff_not]
              exact fun q=>key z (.inl q) (.inr hz)
      · cases h1
    · cases h1
theorem pairsT_ok {ops:Array Oper} {an:List Nat} {fps:List (Option Fp)} {t:List AV}
    (hf:∀ (i:Nat) (o:Oper) (a k:Nat),ops[i]? = some o→addrD o=some (a,k)→noWr a (ops.toList.drop (i + k))=true→∃ F:Fp,fps[i]? = some (some F)∧F.all=false∧F.mem=none∧(isLoad o.op=true→F.W=[])∧∀ x,(x∈F.R∨x∈F.W)→∀ v,t[a]? = some v→x∈idOf v) :
    ∀ {l:List Nat} {ps:List (Nat × Nat)},pairsT ops an l=some ps→(∀ a b,(a,b)∈ps→∃ u v,t[a]? = some u∧t[b]? = some v∧∀ x,x∈idOf u→x∉idOf v)→pairsOk an fps l=true
  | [],_,_,_=>rfl
  | i :: is,ps,h,hne=>by
    simp only[pairsT] at h
    split at h
    · rename_i x y hx hy
      cases h
      simp only[pairsOk,Bool.and_eq_true,List.all_eq_true,Bool.or_eq_true]
      refine⟨fun j hj=>?_,pairsT_ok hf hy fun a b hab=>hne a b (List.mem_append_right _ hab)⟩
      rcases pairsI_ok hx j hj with h1 | ⟨qs,h1,h2⟩
      · exact .inl h1
      · right
        exact pair_ok hf h1 (fun a b hab=>hne a b (List.mem_append_left _ (h2 _ hab)))
    · cases h
theorem full_draw {E:Env} {r:Rec} {ops:Array Oper} {ps:List (Nat × Nat)} (hp:pairsT ops (ancs ops) (loudIx ops)=some ps) {s s':St} (h:evalOps E r true ops (List.range ops.size) s=some s')
    (hne:∀ a b,(a,b)∈ps→∃ u v,s'.t[a]? = some u∧s'.t[b]? = some v∧∀ x,x∈idOf u→x∉idOf v):evalDraw E r ops s=some s':=by
  unfold evalDraw
  simp only
  by_cases ha:allOrdered (ancs ops) (loudIx ops)=true
  · rw[if_pos ha]; exact h
  · rw[if_neg ha]
    obtain⟨fps,h1,h2⟩:=eval_trace (fun i hi=>List.mem_range.1 hi) h
    rw[h1]
    simp only
    rw[if_pos (pairsT_ok (t:=s'.t) (fun i o a ka ho hd hw=>?_) hp hne)]
    have hi:i < ops.size:=by
      rcases Nat.lt_or_ge i ops.size with hlt | hge
      · exact hlt
      · rw[Array.getElem?_eq_none hge] at ho; cases ho
    refine trace_addr h1 i i o a ka (List.getElem?_range hi) ho hd fun j hj p hp=>?_
    refine noWr_ok hw p ?_
    obtain⟨k,hk,e⟩:=List.mem_iff_getElem.1 hj
    simp only[List.getElem_drop,List.getElem_range] at e
    subst e
    refine List.mem_iff_getElem?.2 ⟨k,?_⟩
    rw[List.getElem?_drop,Array.getElem?_toList]
    exact hp
section
variable {α β:Type} {E:Env} {N:Nat} {F:Fx} {lit:Bool} {st:CS} {m:Option α} {Q:α→AX→St→Prop} {b:LC}
def QFull (ps:List (Nat × Nat)) (Q:α→AX→St→Prop):α→AX→St→Prop:=fun r x s=>x = .normal∧(∀ a b,(a,b)∈ps→∃ u v,s.t[a]? = some u∧s.t[b]? = some v∧∀ x,x∈idOf u→x∉idOf v)∧Q r .normal s
theorem jc_full {ops:Array Oper} (R:List LO) (ps:List (Nat × Nat)) (h:JR E N F true m (R.drop 0) st (QFull ps Q)) (hl:lowOps ops ops.toList=some R:=by kernel_rfl) (hp:pairsT ops (ancs ops) (loudIx ops)=some ps:=by kernel_rfl):JC E N F m (.full ops) st Q:=fun s hs r hr=>by
  obtain⟨s',h1,_,h2,h3⟩:=evalOps_low hl (h s hs r hr)
  exact⟨s',full_draw hp h1 h2,h3⟩
def pairsNe (st:CS):List (Nat × Nat)→Bool
  | []=>true
  | (a,b) :: l=>(match lk st.K a,lk st.K b with
    | some (.av (.ptr i _ _ _)),some (.av (.ptr j _ _ _))=>!(Nat.beq i j) && (lk st.H i).isSome && (lk st.H j).isSome
    | _,_=>false) && pairsNe st l
theorem pairsNe_ok {a b:Nat}:∀ {l:List (Nat × Nat)},pairsNe st l=true→(a,b)∈l→∃ i k s o j k2 s2 o2,lk st.K a=some (.av (.ptr i k s o))∧lk st.K b=some (.av (.ptr j k2 s2 o2))∧i≠j∧(lk st.H i).isSome=true∧(lk st.H j).isSome=true
  | (c,d) :: l,h,hm=>by
    simp only[pairsNe,Bool.and_eq_true] at h
    rcases List.mem_cons.1 hm with e | hm
    · cases e
      have h1:=h.1
      split at h1
      · rename_i i k s o j k2 s2 o2 e1 e2
        simp only[Bool.and_eq_true,Bool.not_eq_true'] at h1
        exact⟨i,k,s,o,j,k2,s2,o2,e1,e2,beq_ne h1.1.1,h1.1.2,h1.2⟩
      · cases h1
    · exact pairsNe_ok h.2 hm
theorem jx_full {ps:List (Nat × Nat)} (h:JX N F m .normal st Q) (hc:pairsNe st ps=true:=by rfl):JX N F m .normal st (QFull ps Q):=fun s hs r hr=>by
  refine⟨rfl,fun a b hab=>?_,h s hs r hr⟩
  obtain⟨ρ,hR,_⟩:=hs
  obtain⟨i,k,z,o,j,k2,z2,o2,e1,e2,hij,hi,hj⟩:=pairsNe_ok hc hab
  obtain⟨u',u1,u2⟩:=hR.kv a _ e1
  obtain⟨v',v1,v2⟩:=hR.kv b _ e2
  refine⟨u',v',u1,v1,fun x hx hx'=>?_⟩
  simp only[VLe] at u2 v2
  obtain⟨A,sh,r1,rfl⟩:=u2
  obtain⟨B,sh2,r2,rfl⟩:=v2
  simp only[idOf,List.mem_singleton] at hx hx'
  subst hx
  subst hx'
  exact hij (hR.hle.inj i j _ sh sh2 hi hj r1 r2)
end
end Go.Vm
/- Rows that the library sorts: known functions that change memory, and their contracts. -/
namespace Go.Vm
open Go
section
variable {α:Type}
def rowsD (dec:AV→Option α):List (List AV)→Option (List α)
  | []=>some []
  | [c] :: rs=>match dec c,rowsD dec rs with
    | some x,some xs=>some (x :: xs)
    | _,_=>none
  | _=>none
theorem rowsD_ok {dec:AV→Option α} {enc:α→Value} (hd:∀ c x,dec c=some x→c = .s (enc x)):∀ {rows:List (List AV)} {zs:List α},rowsD dec rows=some zs→rows=zs.map fun x=>[AV.s (enc x)]
  | [],zs,h=>by cases h; rfl
  | [c] :: rs,zs,h=>by
    unfold rowsD at h
    split at h
    · rename_i x xs h1 h2
      cases h
      rw[hd _ _ h1,rowsD_ok hd h2]
      rfl
    · cases h
  | [] :: rs,zs,h=>by cases h
  | (_ :: _ :: _) :: rs,zs,h=>by cases h
def sortM (dec:AV→Option α) (enc:α→Value) (srt:List α→List α) (args:List AV) (h:AHeap) (n:Nat):Option (AV × AHeap × Nat):=
  match args with
  | [.osl id off len 1]=>
    if len=0 then some (.tup [],h,n) else
    match h id with
    | some (.rows 1 R)=>match rowsD dec ((R.drop off).take len) with
      | some zs=>if zs.length=len∧len < 4611686018427387904 then some (.tup [],h.put id (some (.rows 1 (R.take off ++ ((srt zs).map fun x=>[AV.s (enc x)]) ++ R.drop (off + len)))),n) else none
      | none=>none
    | _=>none
  | [.s (.slice none 0 0)]=>some (.tup [],h,n)
  | [.esl]=>some (.tup [],h,n)
  | _=>none
theorem rowsD_map {dec:AV→Option α} {enc:α→Value} (hd:∀ x,dec (.s (enc x))=some x):∀ l:List α,rowsD dec (l.map fun x=>[AV.s (enc x)])=some l
  | []=>rfl
  | x :: l=>by simp only[List.map_cons,rowsD,hd,rowsD_map hd l]
theorem all2_s {ρ:Rn} {enc:α→Value}:∀ {l:List α} {mid:List (List AV)},All2 (All2 (VLe ρ)) (l.map fun x=>[AV.s (enc x)]) mid→mid=l.map fun x=>[AV.s (enc x)]
  | [],[],_=>rfl
  | x :: l,r :: mid,h=>by
    rw[List.map_cons]
    have h1:=h.1
    match r,h1 with
    | [c],h1=>
      have h2:c=AV.s (enc x):=h1.1.s_inv
      rw[h2,all2_s h.2]
    | [],h1=>exact h1.elim
    | _ :: _ :: _,h1=>exact h1.2.elim
  | [],_ :: _,h=>h.elim
  | _ :: _,[],h=>h.elim
theorem all2_sr {ρ:Rn} {enc:α→Value}:∀ (l:List α),All2 (All2 (VLe ρ)) (l.map fun x=>[AV.s (enc x)]) (l.map fun x=>[AV.s (enc x)])
  | []=>trivial
  | x :: l=>⟨⟨VLe.s_refl _,trivial⟩,all2_sr l⟩
noncomputable def srtO (srt:List α→List α) (l:List α):Option (List α):=if l.length < 4611686018427387904 then some (srt l) else none
theorem ctm_sort {E:Env} {g:FuncId} {dec:AV→Option α} {enc:α→Value} {srt:List α→List α} (hd:∀ x,dec (.s (enc x))=some x) (hl:∀ zs,(srt zs).length=zs.length) (hp:E.prim g=none) (hm:E.primM g=some (sortM dec enc srt)) (hpf:E.pf g=false) (l:List α) :
    CtM E g [.osl 0 0 l.length 1] [(0,.rows 1 (l.map fun x=>[AV.s (enc x)]))] 1 (srtO srt l) (fun r:List α=>.tup []) (fun r=>[(0,.rows 1 (r.map fun x=>[AV.s (enc x)]))]) 1:=fun r hr ρ vs' h n hv H=>by
  unfold srtO at hr
  split at hr
  case isFalse=>cases hr
  rename_i hlen
  cases hr
  have key:∀ {v h1 n1},sortM dec enc srt vs' h n=some (v,h1,n1)→callFn E (rinf E) g vs' h n=some (v,h1,n1):=fun {v h1 n1} e=>by
    unfold callFn
    rw[hp]
    simp only[hpf,if_false,Bool.false_eq_true]
    refine rinf_call.2 ⟨1,?_⟩
    show callAt E _ g vs' h n=_
    unfold callAt
    rw[hm]
    exact e
  have conv:∀ {h1:AHeap} {o2:AObj},HLe ρ ((Go.Vm.hl [(0,.rows 1 (l.map fun x=>[AV.s (enc x)]))]).put 0 (some o2)) 1 h1 n→HLe ρ (Go.Vm.hl [(0,o2)]) 1 h1 n:=fun {h1 o2} H=>by
    refine HLe.sub H fun k o ho=>?_
    simp only[Go.Vm.hl,lk] at ho
    cases e:Nat.beq 0 k with
    | true=>
      have:=beq_eq e
      subst this
      rw[e] at ho
      cases ho
      rfl
    | false=>rw[e] at ho; cases ho
  match vs',hv with
  | [w],hv=>
    have h1:=hv.1
    simp only[VLe] at h1
    have nil0:l.length=0→sortM dec enc srt [w] h n=some (.tup [],h,n)→∃ u h1 n1 ρ1,callFn E (rinf E) g [w] h n=some (u,h1,n1)∧VLe ρ1 (.tup []) u∧HLe ρ1 (Go.Vm.hl [(0,.rows 1 ((srt l).map fun x=>[AV.s (enc x)]))]) 1 h1 n1∧Fr ρ h n ρ1 h1 n1:=fun e hw=>by
      have e0:l=[]:=List.eq_nil_of_length_eq_zero e
      have e1:srt l=l:=by
        have:=hl l
        rw[e0] at this ⊢
        exact List.eq_nil_of_length_eq_zero this
      refine⟨.tup [],h,n,ρ,key hw,by simp[VLe,VLes],?_,Fr.refl _ _ _⟩
      rw[e1]
      exact H
    rcases h1 with ⟨a,sh,e1,rfl⟩ | ⟨e1, -,e2,e3⟩
    · rw[Nat.add_zero]
      rcases H.ob 0 _ rfl with ⟨a',sh',o',g1,g2,pre,mid,post,rfl,g3,g4⟩ | ⟨g1,_⟩
      · rw[e1] at g1
        cases g1
        have hmid:=all2_s g4
        subst hmid
        by_cases hz:l.length=0
        · exact nil0 hz (by simp only[sortM,if_pos hz])
        · have hcut:(((pre ++ (l.map fun x=>[AV.s (enc x)]) ++ post).drop sh).take l.length)=l.map fun x=>[AV.s (enc x)]:=by
            rw[List.append_assoc,← g3,List.drop_left,List.take_append_of_le_length (by simp),List.take_of_length_le (by simp)]
          have hpre:(pre ++ (l.map fun x=>[AV.s (enc x)]) ++ post).take sh=pre:=by
            rw[List.append_assoc,← g3,List.take_left]
          have hpost:(pre ++ (l.map fun x=>[AV.s (enc x)]) ++ post).drop (sh + l.length)=post:=by
            have:sh + l.length=(pre ++ (l.map fun x=>[AV.s (enc x)])).length:=by simp[g3]
            rw[this,List.drop_left]
          obtain⟨q1,q2⟩:=H.set (o2:=.rows 1 ((srt l).map fun x=>[AV.s (enc x)])) (o2':=.rows 1 (pre ++ ((srt l).map fun x=>[AV.s (enc x)]) ++ post)) (by rfl) e1 ⟨pre,_,post,rfl,g3,all2_sr _⟩
          refine⟨.tup [],_,n,ρ,key ?_,by simp[VLe,VLes],conv q1,q2⟩
          simp only[sortM,if_neg hz,Nat.add_zero,g2,hcut,rowsD_map hd,hlen,and_self,if_true,hpre,hpost]
      · rw[e1] at g1; cases g1
    · exact nil0 e2 (by rcases e3 with rfl | rfl <;> rfl)
  | [],hv=>exact hv.elim
  | _ :: _ :: _,hv=>exact hv.2.elim
end
def decI:AV→Option Int
  | .s (.int .i64 z)=>some z
  | _=>none
theorem decI_ok (c:AV) (x:Int) (h:decI c=some x):c = .s (.int .i64 x):=by
  unfold decI at h
  split at h
  · cases h; rfl
  · cases h
def insI (x:Int):List Int→List Int
  | []=>[x]
  | y :: l=>if x≤y then x :: y :: l else y :: insI x l
def sortI:List Int→List Int
  | []=>[]
  | x :: l=>insI x (sortI l)
theorem insI_perm (x:Int):∀ l:List Int,(insI x l).Perm (x :: l)
  | []=>List.Perm.refl _
  | y :: l=>by
    unfold insI
    split
    · exact List.Perm.refl _
    · exact ((insI_perm x l).cons y).trans (List.Perm.swap x y l)
theorem sortI_perm:∀ l:List Int,(sortI l).Perm l
  | []=>List.Perm.refl _
  | x :: l=>(insI_perm x _).trans ((sortI_perm l).cons x)
theorem sortI_len (l:List Int):(sortI l).length=l.length:=(sortI_perm l).length_eq
theorem insI_pw (x:Int):∀ {l:List Int},l.Pairwise (· ≤ ·)→(insI x l).Pairwise (· ≤ ·)
  | [],_=>List.pairwise_singleton _ _
  | y :: l,h=>by
    obtain⟨h1,h2⟩:=List.pairwise_cons.1 h
    unfold insI
    split
    · rename_i hxy
      exact List.pairwise_cons.2 ⟨fun z hz=>by
        rcases List.mem_cons.1 hz with rfl | hz
        · exact hxy
        · exact Int.le_trans hxy (h1 z hz),h⟩
    · rename_i hxy
      refine List.pairwise_cons.2 ⟨fun z hz=>?_,insI_pw x h2⟩
      rcases List.mem_cons.1 ((insI_perm x l).mem_iff.1 hz) with rfl | hz
      · omega
      · exact h1 z hz
theorem sortI_pw:∀ l:List Int,(sortI l).Pairwise (· ≤ ·)
  | []=>List.Pairwise.nil
  | x :: l=>insI_pw x (sortI_pw l)
theorem sortI_eq (l:List Int):(l.mergeSort fun x y=>decide (x≤y))=sortI l:=by
  refine List.Perm.eq_of_pairwise (le:=(· ≤ ·)) (fun a b _ _ h1 h2=>Int.le_antisymm h1 h2) ?_ (sortI_pw l) ((List.mergeSort_perm l _).trans (sortI_perm l).symm)
  have:=List.pairwise_mergeSort (le:=fun x y:Int=>decide (x≤y)) (fun a b c h1 h2=>by simp only[decide_eq_true_eq] at *; omega) (fun a b=>by simp only[Bool.or_eq_true,decide_eq_true_eq]; omega) l
  exact this.imp fun h=>by simpa using h
def sortIM:=sortM decI (Value.int .i64) sortI
noncomputable def slices_SortI (l:List Int):Option (List Int):=srtO sortI l
theorem slices_SortI_len {l r:List Int} (h:slices_SortI l=some r):r.length=l.length:=by
  unfold slices_SortI srtO at h
  split at h
  · cases h; exact sortI_len l
  · cases h
theorem slices_SortI_ct {E:Env} {g:FuncId} (hp:E.prim g=none) (hm:E.primM g=some sortIM) (hpf:E.pf g=false) (l:List Int):CtM E g [.osl 0 0 l.length 1] [(0,.rows 1 (l.map cI))] 1 (slices_SortI l) (fun r:List Int=>.tup []) (fun r=>[(0,.rows 1 (r.map cI))]) 1:=
  ctm_sort (fun _=>rfl) sortI_len hp hm hpf l
end Go.Vm
/- Rows that the library compacts, and that are cleared: known functions that change memory, and their contracts. -/
namespace Go.Vm
open Go
section
variable {α:Type}
def zfill (z:α) (cpt:List α→List α) (l:List α):List α:=cpt l ++ List.replicate (l.length - (cpt l).length) z
theorem zfill_len {z:α} {cpt:List α→List α} (hl:∀ zs,(cpt zs).length≤zs.length) (l:List α):(zfill z cpt l).length=l.length:=by
  have:=hl l
  simp only[zfill,List.length_append,List.length_replicate]
  omega
def cptM (dec:AV→Option α) (enc:α→Value) (z:α) (cpt:List α→List α) (args:List AV) (h:AHeap) (n:Nat):Option (AV × AHeap × Nat):=
  match args with
  | [.osl id off len 1]=>
    if len=0 then some (.osl id off 0 1,h,n) else
    match h id with
    | some (.rows 1 R)=>match rowsD dec ((R.drop off).take len) with
      | some zs=>if zs.length=len∧len < 4611686018427387904 then some (.osl id off (cpt zs).length 1,h.put id (some (.rows 1 (R.take off ++ ((zfill z cpt zs).map fun x=>[AV.s (enc x)]) ++ R.drop (off + len)))),n) else none
      | none=>none
    | _=>none
  | [.s (.slice none 0 0)]=>some (.s (.slice none 0 0),h,n)
  | [.esl]=>some (.esl,h,n)
  | _=>none
noncomputable def cptO (cpt:List α→List α) (l:List α):Option (List α):=if l.length < 4611686018427387904 then some (cpt l) else none
theorem ctm_cpt {E:Env} {g:FuncId} {dec:AV→Option α} {enc:α→Value} {z:α} {cpt:List α→List α} (hd:∀ x,dec (.s (enc x))=some x) (hl:∀ zs,(cpt zs).length≤zs.length) (hp:E.prim g=none) (hm:E.primM g=some (cptM dec enc z cpt)) (hpf:E.pf g=false) (l:List α) :
    CtM E g [.osl 0 0 l.length 1] [(0,.rows 1 (l.map fun x=>[AV.s (enc x)]))] 1 (cptO cpt l) (fun r:List α=>.osl 0 0 r.length 1) (fun r=>[(0,.rows 1 (r.map fun x=>[AV.s (enc x)]))]) 1:=fun r hr ρ vs' h n hv H=>by
  unfold cptO at hr
  split at hr
  case isFalse=>cases hr
  rename_i hlen
  cases hr
  have key:∀ {v h1 n1},cptM dec enc z cpt vs' h n=some (v,h1,n1)→callFn E (rinf E) g vs' h n=some (v,h1,n1):=fun {v h1 n1} e=>by
    unfold callFn
    rw[hp]
    simp only[hpf,if_false,Bool.false_eq_true]
    refine rinf_call.2 ⟨1,?_⟩
    show callAt E _ g vs' h n=_
    unfold callAt
    rw[hm]
    exact e
  have conv:∀ {h1:AHeap} {o2:AObj},HLe ρ ((Go.Vm.hl [(0,.rows 1 (l.map fun x=>[AV.s (enc x)]))]).put 0 (some o2)) 1 h1 n→HLe ρ (Go.Vm.hl [(0,o2)]) 1 h1 n:=fun {h1 o2} H=>by
    refine HLe.sub H fun k o ho=>?_
    simp only[Go.Vm.hl,lk] at ho
    cases e:Nat.beq 0 k with
    | true=>
      have:=beq_eq e
      subst this
      rw[e] at ho
      cases ho
      rfl
    | false=>rw[e] at ho; cases ho
  have nil0:l.length=0→cpt l=l:=fun e=>by
    have e0:l=[]:=List.eq_nil_of_length_eq_zero e
    have:=hl l
    rw[e0] at this ⊢
    exact List.eq_nil_of_length_eq_zero (by simpa using this)
  match vs',hv with
  | [w],hv=>
    have h1:=hv.1
    simp only[VLe] at h1
    rcases h1 with ⟨a,sh,e1,rfl⟩ | ⟨e1, -,e2,e3⟩
    · rw[Nat.add_zero]
      rcases H.ob 0 _ rfl with ⟨a',sh',o',g1,g2,pre,mid,post,rfl,g3,g4⟩ | ⟨g1,_⟩
      · rw[e1] at g1
        cases g1
        have hmid:=all2_s g4
        subst hmid
        by_cases hz:l.length=0
        · refine⟨.osl a sh 0 1,h,n,ρ,key (by simp only[cptM,if_pos hz,Nat.add_zero]),?_,?_,Fr.refl _ _ _⟩
          · rw[nil0 hz]
            show VLe ρ (.osl 0 0 l.length 1) _
            rw[hz]
            simp only[VLe]
            exact .inl ⟨a,sh,e1,rfl⟩
          · rw[nil0 hz]; exact H
        · have hcut:(((pre ++ (l.map fun x=>[AV.s (enc x)]) ++ post).drop sh).take l.length)=l.map fun x=>[AV.s (enc x)]:=by
            rw[List.append_assoc,← g3,List.drop_left,List.take_append_of_le_length (by simp),List.take_of_length_le (by simp)]
          have hpre:(pre ++ (l.map fun x=>[AV.s (enc x)]) ++ post).take sh=pre:=by
            rw[List.append_assoc,← g3,List.take_left]
          have hpost:(pre ++ (l.map fun x=>[AV.s (enc x)]) ++ post).drop (sh + l.length)=post:=by
            have:sh + l.length=(pre ++ (l.map fun x=>[AV.s (enc x)])).length:=by simp[g3]
            rw[this,List.drop_left]
          have hsp:pre ++ ((zfill z cpt l).map fun x=>[AV.s (enc x)]) ++ post=pre ++ ((cpt l).map fun x=>[AV.s (enc x)]) ++ (((List.replicate (l.length - (cpt l).length) z).map fun x=>[AV.s (enc x)]) ++ post):=by
            simp only[zfill,List.map_append,List.append_assoc]
          obtain⟨q1,q2⟩:=H.set (o2:=.rows 1 ((cpt l).map fun x=>[AV.s (enc x)])) (o2':=.rows 1 (pre ++ ((zfill z cpt l).map fun x=>[AV.s (enc x)]) ++ post)) (by rfl) e1 ⟨pre,_,_,by rw[hsp],g3,all2_sr _⟩
          refine⟨.osl a sh (cpt l).length 1,_,n,ρ,key ?_,by simp only[VLe]; exact .inl ⟨a,sh,e1,rfl⟩,conv q1,q2⟩
          simp only[cptM,if_neg hz,Nat.add_zero,g2,hcut,rowsD_map hd,hlen,and_self,if_true,hpre,hpost]
      · rw[e1] at g1; cases g1
    · refine⟨w,h,n,ρ,key (by rcases e3 with rfl | rfl <;> rfl),?_,?_,Fr.refl _ _ _⟩
      · rw[nil0 e2]
        simp only[VLe]
        exact .inr ⟨e1,trivial,e2,e3⟩
      · rw[nil0 e2]; exact H
  | [],hv=>exact hv.elim
  | _ :: _ :: _,hv=>exact hv.2.elim
end
def cptIM:=cptM decI (Value.int .i64) 0 Lib.compact
theorem compact_le (zs:List Int):(Lib.compact zs).length≤zs.length:=by
  unfold Lib.compact Lib.compactUpTo
  rw[List.length_map]
  refine Nat.le_trans (List.length_filter_le _ _) ?_
  simp
noncomputable def slices_CompactI (l:List Int):Option (List Int):=cptO Lib.compact l
theorem slices_CompactI_ct {E:Env} {g:FuncId} (hp:E.prim g=none) (hm:E.primM g=some cptIM) (hpf:E.pf g=false) (l:List Int):CtM E g [.osl 0 0 l.length 1] [(0,.rows 1 (l.map cI))] 1 (slices_CompactI l) (fun r:List Int=>.osl 0 0 r.length 1) (fun r=>[(0,.rows 1 (r.map cI))]) 1:=
  ctm_cpt (fun _=>rfl) compact_le hp hm hpf l
theorem jr_none {α:Type} {E:Env} {N:Nat} {F:Fx} {lit:Bool} {st:CS} {Q:α→AX→St→Prop} {l:List LO}:JR E N F lit (none:Option α) l st Q:=fun s hs r hr=>by cases hr
def growO {α:Type} (b:Nat) (z:α) (m:Int):Option (List α):=if 1≤m∧m≤9223372036854775807∧m.toNat * b≤140737488355328 then some (List.replicate m.toNat z) else none
theorem aop_grow {α:Type} {P:Program} {t:List AV} {h:AHeap} {n:Nat} {d:Option Tmp} {ty:TypeId} {gd:Option (Tmp × Bool)} {tx ty2 e:TypeId} {x y:Operand} {k kk:IntKind} {m:Int} {c:α→List AV} {zv:α} {sz b:Nat} {r:List α} (hx:opnd t x=some nilS) (hy:opnd t y=some (.s (.int k m))) (he:elemT P tx=some e) (ht:P.underlying ty2=some (.int kk))
    (hs:sizeT P e=some sz) (hb:bytesT P e=some b) (hz:zeroT P e=some (c zv)) (hl:(Nat.beq (c zv).length sz && !(Nat.beq sz 0))=true) (hc:growO b zv m=some r) :
    aop P (LO.oper ⟨d,.call ⟨.builtin .append,#[x,y],#[tx,ty2]⟩,ty,gd⟩) t h n=some (.osl n 0 r.length sz,[(n,some (.rows sz (r.map c)))]):=by
  simp only[Bool.and_eq_true,Bool.not_eq_true'] at hl
  have hl1:=Nat.eq_of_beq_eq_true hl.1
  have hl2:sz≠0:=fun e=>by rw[e] at hl; simp at hl
  unfold growO at hc
  split at hc
  case isFalse=>cases hc
  rename_i hm
  cases hc
  unfold aop
  simp only[LO.oper,hx,hy,he,ht,growOf,hs,hb,hz]
  rw[if_neg (by rintro (q | q | q); exact hl2 q; exact q hl1; exact q hm)]
  simp only[newRows,List.length_replicate,List.map_replicate]
end Go.Vm
/- Numbers as texts: a known function that reads a table. -/
namespace Go.Vm
open Go
def itoaP:List AV→Option AV
  | [.s (.int .i64 n)]=>if -9223372036854775808≤n∧n≤9223372036854775807 then some (.s (.string ⟨(Lib.itoa n).toArray⟩)) else none
  | _=>none
def strconv_Itoa (n:Int):Option Str:=if -9223372036854775808≤n∧n≤9223372036854775807 then some (Lib.itoa n) else none
theorem strconv_Itoa_ct {E:Env} {g:FuncId} (hp:E.prim g=some itoaP) (n:Int):Ct E g [iv n] (strconv_Itoa n) (fun r:Str=>bs r):=
  ct_prim hp rfl (fun r hr=>by
    unfold strconv_Itoa at hr
    split at hr
    · rename_i h
      cases hr
      show (if -9223372036854775808≤n∧n≤9223372036854775807 then _ else _)=_
      rw[if_pos h]
    · cases hr) (fun r=>VLe.s_refl _)
end Go.Vm

/- Calls that change memory, regions whose order is open, and short words for what is printed. -/
import Derived.Test.YtgkpnkfbhhfonaaDoorCx8a517398
import Derived.Lib.Join
import Derived.Lib.SlTrimSet
import Derived.Lib.IndexAny
import Derived.Lib.SlicesCompact
import Derived.Lib.ItoaNum
import Derived.Lib.AtoiAll
set_option linter.unusedVariables false
set_option linter.unusedSimpArgs false
/- Short words for what a program prints. -/
set_option linter.unusedVariables false
namespace Go.Vm
open Go
abbrev lo (d:Nat) (o:Op) (t:TypeId):LO:=⟨some d,o,t,none⟩
abbrev lg (d:Nat) (o:Op) (t:TypeId) (g:Nat) (b:Bool):LO:=⟨some d,o,t,some (g,b)⟩
abbrev ln (o:Op) (t:TypeId):LO:=⟨none,o,t,none⟩
abbrev lm (d s:Nat) (t:TypeId):LO:=⟨some d,.move (.tmp s),t,none⟩
abbrev lmg (d s:Nat) (t:TypeId) (g:Nat) (b:Bool):LO:=⟨some d,.move (.tmp s),t,some (g,b)⟩
abbrev V (i:Nat) (v:AV):Nat × KV:=(i,.av v)
abbrev pt (i n:Nat):AV:=.ptr i 0 n 0
abbrev W (i n:Nat) (r:List AV):Nat × AObj:=(i,.rows n [r])
def keysOf {α:Type}:List (Nat × α)→List Nat
  | []=>[]
  | (i,_) :: l=>i :: keysOf l
section
variable {α β σ τ:Type} {E:Env} {N:Nat} {F:Fx} {lit:Bool} {st:CS} {m:Option α} {Q:α→AX→St→Prop} {a b:LC}
theorem jG {R:List LO} (i k:Nat) (st1:CS) (h2:JR E N F lit m (R.drop (i + k)) st1 Q) (h:(crun E N lit ((R.drop i).take k) st).map (keepC (keysOf st1.K) (keysOf st1.H))=some st1:=by kernel_rfl):JR E N F lit m (R.drop i) st Q:=jr_seg i k _ _ h h2
theorem jR {ops:List LO} (h:JR E N F lit m (ops.drop 0) st (QSeq E b Q)):JC E N F m (.seq (.reg lit ops) b) st Q:=jc_seq (jc_reg h)
theorem jN {R:List LO} {i:Nat} (h:JC E N F m b st Q) (hi:R.drop i=[]:=by rfl):JR E N F lit m (R.drop i) st (QSeq E b Q):=jr_nil hi (jx_seqN h)
theorem jS {R:List LO} (st1:CS) (h2:JC E N F m b st1 Q) (h:(crun E N lit R st).map (keepC (keysOf st1.K) (keysOf st1.H))=some st1:=by kernel_rfl):JC E N F m (.seq (.reg lit R) b) st Q:=
  jR (jr_seg 0 R.length _ _ (by rw[List.drop_zero,List.take_length]; exact h) (jN h2 (by simp)))
theorem jT {R:List LO} (st1:CS) (h2:JX N F m .normal st1 Q) (h:(crun E N lit R st).map (keepC (keysOf st1.K) (keysOf st1.H))=some st1:=by kernel_rfl):JC E N F m (.reg lit R) st Q:=
  jc_reg (jr_seg 0 R.length _ _ (by rw[List.drop_zero,List.take_length]; exact h) (jr_nil (by simp) h2))
theorem jIf {g:Nat} {c:Bool} {m1 m2:Option α} (h1:JC E N F m1 a (litK st g true) Q) (h2:JC E N F m2 b (litK st g false) Q) (hl:lk st.K g=some (.av (bv c)):=by kernel_rfl):JC E N F (if c=true then m1 else m2) (.cond (.tmp g) a b) st Q:=jc_cond hl (fun _=>h1) (fun _=>h2)
theorem jSp (g:Nat) {c:Bool} {m1 m2:Option α} {l:List LO} (h1:JR E N F lit m1 l (litK st g true) Q) (h2:JR E N F lit m2 l (litK st g false) Q) (hl:lk st.K g=some (.av (bv c)):=by kernel_rfl):JR E N F lit (if c=true then m1 else m2) l st Q:=jr_split hl (fun _=>h1) (fun _=>h2)
theorem jK {R:List LO} (i:Nat) {d:Option Tmp} {g:FuncId} {args:Array Operand} {ats:Array TypeId} {ty:TypeId} {gd:Option (Tmp × Bool)} {vs:List AV} {m1:Option β} {er:β→AV} {f:β→Option α} {st1:β→CS} (hc:Ct E g vs m1 er)
    (hk:∀ r,m1=some r→JR E N F lit (f r) (R.drop (i + 1)) (st1 r) Q)
    (ho:R[i]? = some ⟨d,.call ⟨.value (.func g),args,ats⟩,ty,gd⟩:=by rfl) (hg:gOk st.K gd=true:=by rfl) (hp:E.prim g=none:=by rfl) (hpf:E.pf g=true:=by rfl)
    (hv:opnds (tl N st.K none) args.toList=some vs:=by kernel_rfl) (hs:snapL (snapc (hl st.H) depth) vs=some (vs,false):=by kernel_rfl) (hput:∀ r,putD N st d (.av (er r))=some (st1 r):=by exact fun _=>rfl):JR E N F lit (m1.bind f) (R.drop i) st Q:=
  jr_callF ho hg hp hpf hv hs (all2_fle_refl _) hc (fun _=>rfl) hput hk
end
section
variable {f:List (Nat × Option Nat)} {H:List (Nat × AObj)}
theorem hC {i sz:Nat} {rows rows':List (List AV)} (j:Nat) (h1:lk f i=some (some j):=by rfl) (h2:lk H j=some (.rows sz rows):=by rfl) (h4:rensR f rows' = some rows:=by kernel_rfl):HOk f H (i,.rows sz rows'):=.inl ⟨j,_,_,_,h1,h2,rfl,.inl h4⟩
theorem hL {i sz:Nat} {rows rows':List (List AV)} (j:Nat) (hn:NoIdR rows') (h1:lk f i=some (some j):=by rfl) (h2:lk H j=some (.rows sz rows):=by rfl) (h4:rows' = rows:=by rfl):HOk f H (i,.rows sz rows'):=.inl ⟨j,_,_,_,h1,h2,rfl,.inr ⟨h4,h4 ▸ hn⟩⟩
theorem hZ {i sz:Nat} (h1:lk f i=some none:=by rfl):HOk f H (i,.rows sz []):=.inr (.inl ⟨h1,sz,rfl⟩)
end
theorem pc {α:Type} {P:α→Prop} {a:α} {as:List α} (h:P a) (k:AllP P as):AllP P (a :: as):=⟨h,k⟩
theorem wkR {N:Nat} {F:Fx} {st:CS} {K':List (Nat × KV)} {H':List (Nat × AObj)} {n':Nat} (f:List (Nat × Option Nat)) (hF:FixF F f) (hH:AllP (HOk f st.H) H')
    (hb:(allAv K' && injB (inH H' f) && keysLt n' f)=true:=by rfl) (hK:K'.map (fun p=>((lk st.K p.1).bind kvw).map some)=K'.map (fun p=>some ((kvw p.2).bind (ren f))):=by kernel_rfl):Wk N F st ⟨K',H',n'⟩:=wk_ren f hF hb hK hH
end Go.Vm
/- Calls that change what their arguments lead to. -/
set_option linter.unusedSimpArgs false
namespace Go.Vm
open Go
def CtM {α:Type} (E:Env) (g:FuncId) (vs:List AV) (H:List (Nat × AObj)) (k:Nat) (m:Option α) (er:α→AV) (H':α→List (Nat × AObj)) (k':Nat):Prop:=
  ∀ r,m=some r→∀ ρ vs' h n,All2 (VLe ρ) vs vs'→HLe ρ (hl H) k h n→∃ u h1 n1 ρ1,callFn E (rinf E) g vs' h n=some (u,h1,n1)∧VLe ρ1 (er r) u∧HLe ρ1 (hl (H' r)) k' h1 n1∧Fr ρ h n ρ1 h1 n1
def QPostM {α:Type} (E:Env) (rs:List ResultVar) (F:Fx) (er:α→AV) (H':α→List (Nat × AObj)) (k':Nat):α→AX→St→Prop:=fun r x s=>
  (x = .normal∨x = .ret)∧∃ v,resultsOf E.P rs s.t s.h=some v∧∃ ρ1,VLe ρ1 (er r) v∧HLe ρ1 (hl (H' r)) k' s.h s.n∧Fr F.ρ F.h F.n ρ1 s.h s.n
section
variable {α β:Type} {E:Env} {N:Nat} {F:Fx} {lit:Bool} {st:CS} {m:Option α} {Q:α→AX→St→Prop} {L:LC} {x:AX}
theorem jx_retM {rs:List ResultVar} {er:α→AV} {H':α→List (Nat × AObj)} {k':Nat} {r:α} (st':CS) (hx:x = .normal∨x = .ret) (hw:Wk N F st st') (hr:resultsOf E.P rs (tl N st'.K none) (hl st'.H)=some (er r):=by kernel_rfl)
    (hs:keepL (keysOf (H' r)) st'.H=H' r:=by kernel_rfl) (hn:st'.n=k':=by rfl):JX N F (some r) x st (QPostM E rs F er H' k'):=fun s hs2 r2 hr2=>by
  cases hr2
  obtain⟨ρ,hR,hF⟩:=hw s hs2
  obtain⟨v',h1,h2⟩:=resultsOf_sim hR.hle (tl_le hR.len hR.kv (a:=none) (fun q e=>by cases e)) hr
  subst hn
  refine⟨hx,v',h1,ρ,h2,hR.hle.sub fun k o hk=>?_,hF⟩
  rw[← hs] at hk
  exact lk_keepL hk
theorem ctm_intro {g:FuncId} {rs:List ResultVar} {vs:List AV} {H:List (Nat × AObj)} {k:Nat} {er:α→AV} {H':α→List (Nat × AObj)} {k':Nat} (kf:FnOk E g N rs L) (hpf:E.pf g=false) (hN:vs.length≤N)
    (hj:∀ F:Fx,(∀ i m,F.ρ i=some m→i < k)→JC E N F m L ⟨argsK 0 vs,H,k⟩ (QPostM E rs F er H' k')):CtM E g vs H k m er H' k':=fun r hr ρ vs' h n hv hH=>by
  have hat:At N ⟨ρ,h,n⟩ ⟨argsK 0 vs,H,k⟩ ⟨vs' ++ List.replicate (N - vs'.length) (.s undef),h,n⟩:=by
    refine⟨ρ,⟨?_,fun i e hi=>?_,hH⟩,Fr.refl _ _ _⟩
    · have:=hv.length
      simp only[List.length_append,List.length_replicate]
      omega
    · obtain⟨v,k,rfl,rfl,h3⟩:=lk_argsK hi
      obtain⟨v',h4,h5⟩:=hv.get h3
      refine⟨v',?_,h5⟩
      rw[Nat.zero_add]
      show (vs' ++ _)[k]? = _
      rw[List.getElem?_append_left]
      · exact h4
      · rcases Nat.lt_or_ge k vs'.length with hlt | hge
        · exact hlt
        · rw[List.getElem?_eq_none hge] at h4; cases h4
  obtain⟨x,s,⟨hx,v,h4,ρ1,h5,h6,h7⟩,h8⟩:=wp_det L _ _ (hj ⟨ρ,h,n⟩ hH.lt _ hat r hr)
  obtain⟨v2,h2,n2,e1,e2,e3,e4⟩:=fn_nx (Q:=fun v' h' n'=>v' = v∧h' = s.h∧n' = s.n) kf hpf (h8 _ ⟨hx,v,h4,rfl,rfl,rfl⟩)
  subst e2 e3 e4
  exact⟨_,_,_,ρ1,e1,h5,h6,h7⟩
theorem hle_ren {ρ:Rn} {H H':List (Nat × AObj)} {n n' n2:Nat} {h:AHeap} (hle:HLe ρ (hl H) n h n2) (f:List (Nat × Option Nat)) (hb:(injB (inH H' f) && keysLt n' f)=true) (hH:AllP (HOk f H) H'):HLe (renRn f ρ) (hl H') n' h n2:=by
  simp only[Bool.and_eq_true] at hb
  obtain⟨hb2,hb3⟩:=hb
  refine⟨fun i o ho=>?_,fun i j a sh sh' h1 h2 e1 e2=>?_,fun i m e=>?_,fun i a sh e=>?_⟩
  · rcases hH.mem (lk_mem ho) with ⟨j,sz,rows,rows',h1,h2,h3,h4⟩ | h1
    · simp only at h1 h3
      subst h3
      rcases hle.ob j _ h2 with ⟨a,sh,o',g1,g2,pre,mid,post,rfl,g3,g4⟩ | ⟨g1,sz2,g2⟩
      · refine .inl ⟨a,sh,_,by simp only[renRn,h1]; exact g1,g2,pre,mid,post,rfl,g3,?_⟩
        rcases h4 with h4 | ⟨rfl,h4⟩
        · exact rensR_ok h4 g4
        · exact h4.all2 g4
      · cases g2
        refine .inr ⟨by simp only[renRn,h1]; exact g1,sz,?_⟩
        rcases h4 with h4 | ⟨rfl,h4⟩
        · cases rows' with
          | nil=>rfl
          | cons c cs=>
            simp only[rensR] at h4
            split at h4
            · cases h4
            · cases h4
        · rfl
    · rcases h1 with ⟨h1,h2⟩ | ⟨j,R,tm,h1,h2,h3,h4⟩ | ⟨j,es,h1,h2,h3,h4⟩
      · exact .inr ⟨by simp only[renRn,h1],h2⟩
      · simp only at h1 h3
        subst h3
        rcases hle.ob j _ h2 with ⟨a,sh,o',g1,g2,g3,R',rfl,g4,g5,g6,g7⟩ | ⟨_,sz2,g2⟩
        · exact .inl ⟨a,sh,_,by simp only[renRn,h1]; exact g1,g2,g3,R',rfl,g4,g5,rens_ok h4 g6,g7⟩
        · cases g2
      · simp only at h1 h3
        subst h3
        rcases hle.ob j _ h2 with ⟨a,sh,o',g1,g2,g3,es',rfl,g4,g5⟩ | ⟨_,sz2,g2⟩
        · exact .inl ⟨a,sh,_,by simp only[renRn,h1]; exact g1,g2,g3,es',rfl,g4,h4.all2 g5⟩
        · cases g2
  · have key:∀ i a sh,((hl H') i).isSome=true→renRn f ρ i=some (.at a sh)→∃ p,lk f i=some (some p)∧(hl H p).isSome=true∧ρ p=some (.at a sh):=fun i a sh hi e=>by
      obtain⟨o,ho⟩:=Option.isSome_iff_exists.1 hi
      simp only[renRn] at e
      rcases hH.mem (lk_mem ho) with ⟨p,sz,rows,rows',q1,q2,q3,q4⟩ | ⟨q1,q2⟩ | ⟨p,R,tm,q1,q2,q3,q4⟩ | ⟨p,es,q1,q2,q3,q4⟩
      · simp only at q1
        rw[q1] at e
        exact⟨p,q1,by simp only[hl,q2]; rfl,e⟩
      · simp only at q1
        rw[q1] at e
        cases e
      · simp only at q1
        rw[q1] at e
        exact⟨p,q1,by simp only[hl,q2]; rfl,e⟩
      · simp only at q1
        rw[q1] at e
        exact⟨p,q1,by simp only[hl,q2]; rfl,e⟩
    obtain⟨p,p1,p2,p3⟩:=key i a sh h1 e1
    obtain⟨q,q1,q2,q3⟩:=key j a sh' h2 e2
    have:=hle.inj p q a sh sh' p2 q2 p3 q3
    subst this
    exact injB_ok hb2 i j p (inH_mem (lk_mem p1) h1) (inH_mem (lk_mem q1) h2)
  · simp only[renRn] at e
    split at e
    · rename_i j hj; exact keysLt_ok hb3 hj
    · rename_i hj; exact keysLt_ok hb3 hj
    · cases e
  · simp only[renRn] at e
    split at e
    · exact hle.lt' _ _ _ e
    · cases e
    · cases e
def imgIn (H:List (Nat × AObj)):List (Nat × Option Nat)→Bool
  | []=>true
  | (_,some j) :: l=>(lk H j).isSome && imgIn H l
  | (_,none) :: l=>imgIn H l
theorem imgIn_ok {H:List (Nat × AObj)} {i j:Nat}:∀ {f:List (Nat × Option Nat)},imgIn H f=true→(i,some j)∈f→(lk H j).isSome=true
  | (_,some k) :: l,h,hm=>by
    simp only[imgIn,Bool.and_eq_true] at h
    rcases List.mem_cons.1 hm with e | hm
    · cases e; exact h.1
    · exact imgIn_ok h.2 hm
  | (_,none) :: l,h,hm=>by
    rcases List.mem_cons.1 hm with e | hm
    · cases e
    · exact imgIn_ok (f:=l) (by simpa[imgIn] using h) hm
def backOk (f:List (Nat × Option Nat)) (n:Nat):List (Nat × Option Nat)→Bool
  | []=>true
  | (j,some p) :: l=>(Nat.ble n j || (match lk f p with | some (some q)=>Nat.beq q j | _=>false)) && backOk f n l
  | (_,none) :: _=>false
theorem backOk_none {f:List (Nat × Option Nat)} {n j:Nat}:∀ {l:List (Nat × Option Nat)},backOk f n l=true→(j,none)∉l
  | (_,some p) :: l,h,hm=>by
    simp only[backOk,Bool.and_eq_true] at h
    rcases List.mem_cons.1 hm with e | hm
    · cases e
    · exact backOk_none h.2 hm
  | (_,none) :: l,h,hm=>by simp[backOk] at h
  | [],_,hm=>by cases hm
theorem backOk_some {f:List (Nat × Option Nat)} {n j p:Nat}:∀ {l:List (Nat × Option Nat)},backOk f n l=true→(j,some p)∈l→n≤j∨lk f p=some (some j)
  | (k,some q) :: l,h,hm=>by
    simp only[backOk,Bool.and_eq_true,Bool.or_eq_true] at h
    rcases List.mem_cons.1 hm with e | hm
    · cases e
      rcases h.1 with h | h
      · exact .inl (Nat.le_of_ble_eq_true h)
      · right
        split at h
        · rename_i r hr
          rw[hr,beq_eq h]
        · cases h
    · exact backOk_some h.2 hm
  | (_,none) :: l,h,hm=>by simp[backOk] at h
def HBk (f f2:List (Nat × Option Nat)) (H H1:List (Nat × AObj)) (p:Nat × AObj):Prop:=(lk H p.1=some p.2∧imgNot p.1 f=true)∨HOk f2 H1 p
theorem callMV_step {d:Option Tmp} {fo:Operand} {caps avs:List AV} {g:FuncId} {args:Array Operand} {ats:Array TypeId} {ty:TypeId} {gd:Option (Tmp × Bool)} {vs0:List AV} {H0:List (Nat × AObj)} {k0 k1:Nat} {m1:Option β} {er:β→AV} {H1:β→List (Nat × AObj)}
    (f f2:List (Nat × Option Nat)) (H2:β→List (Nat × AObj)) (w:β→AV) (n2:Nat) {st1:β→CS} (hc:CtM E g vs0 H0 k0 m1 er H1 k1) (hA:AllP (HOk f st.H) H0) (hB:∀ r,AllP (HBk f f2 st.H (H1 r)) (H2 r))
    (hg:gOk st.K gd=true)
    (hfo:opnd (tl N st.K none) fo=some (.fn g caps)) (hav:opnds (tl N st.K none) args.toList=some avs) (hvr:some (avs ++ caps)=rens f vs0)
    (hf:(injB (inH H0 f) && keysLt k0 f && imgIn st.H f)=true) (hf2:(backOk f st.n f2 && injB f2 && keysLt n2 f2 && Nat.ble st.n n2)=true)
    (hw:∀ r,ren f2 (w r)=some (er r)) (hput:∀ r,putD N ⟨st.K,H2 r,n2⟩ d (.av (w r))=some (st1 r)) {s:St} (hs2:At N F st s) {r:β} (hm:m1=some r) :
    ∃ s2,stepL E lit ⟨d,.call ⟨.value fo,args,ats⟩,ty,gd⟩ s=some s2∧At N F (st1 r) s2 ∧
      ∀ a i k z o,lk st.K a=some (.av (.ptr i k z o))→(lk st.H i).isSome=true→imgNot i f=true→∀ v,s.t[a]? = some v→∀ id∈idOf v,s2.h id=s.h id:=by
    obtain⟨ρ,hR,hF⟩:=hs2
    have hr:=hvr.symm
    simp only[Bool.and_eq_true] at hf hf2
    obtain⟨⟨f1,f3⟩,f4⟩:=hf
    obtain⟨⟨⟨b1,b2⟩,b3⟩,b4⟩:=hf2
    have b4:=Nat.le_of_ble_eq_true b4
    obtain⟨avs',h1,h2a⟩:=opnds_sim (tl_le hR.len hR.kv (a:=none) (fun q e=>by cases e)) hav
    obtain⟨fv,h9,h10⟩:=opnd_sim (tl_le hR.len hR.kv (a:=none) (fun q e=>by cases e)) hfo
    obtain⟨caps',rfl,h11⟩:=VLe.fn_iff.1 h10
    have h2:=h2a.append h11
    have hle0:=hle_ren hR.hle f (n':=k0) (H':=H0) (by rw[f1,f3]; rfl) hA
    obtain⟨u,hh,n1,ρ1,c1,c2,c3,c4⟩:=hc r hm (renRn f ρ) (avs' ++ caps') s.h s.n (rens_ok hr h2) hle0
    -- the numbers behind the call
    let ρ2:Rn:=fun j=>match lk f2 j with | some (some p)=>ρ1 p | _=>ρ j
    have hρ2:∀ {j p},lk f2 j=some (some p)→ρ2 j=ρ1 p:=fun {j p} e=>by simp only[ρ2,e]
    have hρ0:∀ {j},(∀ p,lk f2 j≠some (some p))→ρ2 j=ρ j:=fun {j} e=>by
      simp only[ρ2]
    have ext:Ext ρ ρ2:=fun j mm e=>by
      cases hj:lk f2 j with
      | none=>rw[hρ0 (fun p q=>by rw[hj] at q; cases q)]; exact e
      | some o=>
        cases o with
        | none=>exact absurd (lk_mem hj) (backOk_none b1)
        | some p=>
          rw[hρ2 hj]
          rcases backOk_some b1 (lk_mem hj) with hn | hp
          · have:=hR.hle.lt j mm e; omega
          · exact c4.ext p mm (by simp only[renRn,hp]; exact e)
    have ext2:Ext (renRn f2 ρ1) ρ2:=fun j mm e=>by
      simp only[renRn] at e
      cases hj:lk f2 j with
      | none=>rw[hj] at e; cases e
      | some o=>
        cases o with
        | none=>exact absurd (lk_mem hj) (backOk_none b1)
        | some p=>rw[hj] at e; rw[hρ2 hj]; exact e
    have img:∀ {i0 a sh},renRn f ρ i0=some (.at a sh)→∃ j0,lk f i0=some (some j0)∧ρ j0=some (.at a sh)∧(hl st.H j0).isSome=true:=fun {i0 a sh} e=>by
      simp only[renRn] at e
      cases hj:lk f i0 with
      | none=>rw[hj] at e; cases e
      | some o=>
        cases o with
        | none=>rw[hj] at e; cases e
        | some j0=>rw[hj] at e; exact⟨j0,rfl,e,imgIn_ok f4 (lk_mem hj)⟩
    -- what lies under a number behind the call
    have kind:∀ {j o},lk (H2 r) j=some o→(lk st.H j=some o∧imgNot j f=true)∨HOk f2 (H1 r) (j,o):=fun {j o} e=>(hB r).mem (lk_mem e)
    have kindA:∀ {j a sh},(hl (H2 r) j).isSome=true→ρ2 j=some (.at a sh)→((hl st.H j).isSome=true∧imgNot j f=true∧ρ j=some (.at a sh)∧a < s.n)∨(∃ p,lk f2 j=some (some p)∧ρ1 p=some (.at a sh)∧(hl (H1 r) p).isSome=true):=fun {j a sh} hj e=>by
      obtain⟨o,ho⟩:=Option.isSome_iff_exists.1 hj
      rcases kind ho with ⟨k1,k2⟩ | k1
      · left
        have:∃ mm,ρ j=some mm:=by
          rcases hR.hle.ob j o k1 with ⟨a,sh,o',g1,_⟩ | ⟨g1,_⟩ <;> exact⟨_,g1⟩
        obtain⟨mm,hmm⟩:=this
        have e2:=ext j mm hmm
        rw[e2] at e
        cases e
        exact⟨by simp only[hl,k1]; rfl,k2,hmm,hR.hle.lt' j a sh hmm⟩
      · right
        rcases k1 with ⟨p,sz,rows,rows',q1,q2,q3,q4⟩ | ⟨q1,q2⟩ | ⟨p,R,tm,q1,q2,q3,q4⟩ | ⟨p,es,q1,q2,q3,q4⟩
        · exact⟨p,q1,by rw[← hρ2 q1]; exact e,by simp only[hl,q2]; rfl⟩
        · exact absurd (lk_mem q1) (backOk_none b1)
        · exact⟨p,q1,by rw[← hρ2 q1]; exact e,by simp only[hl,q2]; rfl⟩
        · exact⟨p,q1,by rw[← hρ2 q1]; exact e,by simp only[hl,q2]; rfl⟩
    have hle2:HLe ρ2 (hl (H2 r)) n2 hh n1:=by
      refine⟨fun j o ho=>?_,fun j j2 a sh sh' hj hj2 e e2=>?_,fun j mm e=>?_,fun j a sh e=>?_⟩
      · rcases kind ho with ⟨k1,k2⟩ | k1
        · rcases hR.hle.ob j o k1 with ⟨a,sh,o',g1,g2,g3⟩ | ⟨g1,g2⟩
          · refine .inl ⟨a,sh,o',ext j _ g1,?_,g3.ext ext⟩
            rw[c4.same a (hR.hle.lt' j a sh g1) fun i0 sh0 e0=>?_]
            · exact g2
            · obtain⟨j0,i1,i2,i3⟩:=img e0
              have:=hR.hle.inj j j0 a sh sh0 (by simp only[hl,k1]; rfl) i3 g1 i2
              subst this
              exact imgNot_ok k2 i0 (lk_mem i1)
          · exact .inr ⟨ext j _ g1,g2⟩
        · rcases k1 with ⟨p,sz,rows,rows',h1,h2,h3,h4⟩ | ⟨q1,q2⟩ | ⟨p,R,tm,h1,h2,h3,h4⟩ | ⟨p,es,h1,h2,h3,h4⟩
          · simp only at h1 h3
            subst h3
            rcases c3.ob p _ h2 with ⟨a,sh,o',g1,g2,pre,mid,post,rfl,g3,g4⟩ | ⟨g1,sz2,g2⟩
            · refine .inl ⟨a,sh,_,by rw[hρ2 h1]; exact g1,g2,pre,mid,post,rfl,g3,?_⟩
              rcases h4 with h4 | ⟨rfl,h4⟩
              · exact (rensR_ok h4 g4).ext2 ext2
              · exact h4.all2 g4
            · cases g2
              refine .inr ⟨by rw[hρ2 h1]; exact g1,sz,?_⟩
              rcases h4 with h4 | ⟨rfl,h4⟩
              · cases rows' with
                | nil=>rfl
                | cons c cs=>
                  simp only[rensR] at h4
                  split at h4
                  · cases h4
                  · cases h4
              · rfl
          · exact absurd (lk_mem q1) (backOk_none b1)
          · simp only at h1 h3
            subst h3
            rcases c3.ob p _ h2 with ⟨a,sh,o',g1,g2,g3,R',rfl,g4,g5,g6,g7⟩ | ⟨_,sz2,g2⟩
            · exact .inl ⟨a,sh,_,by rw[hρ2 h1]; exact g1,g2,g3,R',rfl,g4,g5,(rens_ok h4 g6).ext ext2,g7⟩
            · cases g2
          · simp only at h1 h3
            subst h3
            rcases c3.ob p _ h2 with ⟨a,sh,o',g1,g2,g3,es',rfl,g4,g5⟩ | ⟨_,sz2,g2⟩
            · exact .inl ⟨a,sh,_,by rw[hρ2 h1]; exact g1,g2,g3,es',rfl,g4,h4.all2 g5⟩
            · cases g2
      · rcases kindA hj e with ⟨x1,x2,x3,x4⟩ | ⟨p,x1,x2,x3⟩ <;> rcases kindA hj2 e2 with ⟨y1,y2,y3,y4⟩ | ⟨p',y1,y2,y3⟩
        · exact hR.hle.inj j j2 a sh sh' x1 y1 x3 y3
        · rcases c4.im p' a sh' y2 with ⟨i0,sh0,e0⟩ | hge
          · obtain⟨j0,i1,i2,i3⟩:=img e0
            have:=hR.hle.inj j j0 a sh sh0 x1 i3 x3 i2
            subst this
            exact absurd (lk_mem i1) (imgNot_ok x2 i0)
          · omega
        · rcases c4.im p a sh x2 with ⟨i0,sh0,e0⟩ | hge
          · obtain⟨j0,i1,i2,i3⟩:=img e0
            have:=hR.hle.inj j2 j0 a sh' sh0 y1 i3 y3 i2
            subst this
            exact absurd (lk_mem i1) (imgNot_ok y2 i0)
          · omega
        · have:=c3.inj p p' a sh sh' x3 y3 x2 y2
          subst this
          exact injB_ok b2 j j2 p (lk_mem x1) (lk_mem y1)
      · cases hj:lk f2 j with
        | none=>
          rw[hρ0 (fun p q=>by rw[hj] at q; cases q)] at e
          have:=hR.hle.lt j mm e
          omega
        | some o=>exact keysLt_ok b3 hj
      · have hn:s.n≤n1:=c4.le
        by_cases hj:∃ p,lk f2 j=some (some p)
        · obtain⟨p,hp⟩:=hj
          rw[hρ2 hp] at e
          exact c3.lt' p a sh e
        · rw[hρ0 fun p hp=>hj ⟨p,hp⟩] at e
          have:=hR.hle.lt' j a sh e
          omega
    have hfr:Fr ρ s.h s.n ρ2 hh n1:=by
      refine⟨c4.le,fun j hj hi=>c4.same j hj fun i0 sh0 e0=>?_,fun j a sh e=>?_,ext⟩
      · obtain⟨j0,_,i2,_⟩:=img e0
        exact hi j0 sh0 i2
      · by_cases hj:∃ p,lk f2 j=some (some p)
        · obtain⟨p,hp⟩:=hj
          rw[hρ2 hp] at e
          rcases c4.im p a sh e with ⟨i0,sh0,e0⟩ | hge
          · obtain⟨j0,_,i2,_⟩:=img e0
            exact .inl ⟨j0,sh0,i2⟩
          · exact .inr hge
        · rw[hρ0 fun p hp=>hj ⟨p,hp⟩] at e
          exact .inl ⟨j,sh,e⟩
    refine⟨⟨putT s.t d u,hh,n1⟩,?_,⟨ρ2,?_,hF.trans hfr⟩,?_⟩
    · rw[gOk_step (o:=⟨d,.call ⟨.value fo,args,ats⟩,ty,gd⟩) hR hg]
      unfold stepG
      simp only[callOf,h9,h1,c1]
    · exact putD_ok (hput r) ext hR.len hR.kv hle2 (fun i hi=>kok_av (by rw[hR.len]; exact putD_lt (hput r) hi) ((ren_ok (hw r) c2).ext ext2))
    · intro a i k z o e1 hi hn v hv2 id hid
      obtain⟨v',v1,v2⟩:=hR.kv a _ e1
      rw[hv2] at v1
      cases v1
      simp only[VLe] at v2
      obtain⟨A,sh,r1,rfl⟩:=v2
      simp only[idOf,List.mem_singleton] at hid
      subst hid
      refine c4.same _ (hR.hle.lt' i _ sh r1) fun i0 sh0 e0=>?_
      obtain⟨j0,i1,i2,i3⟩:=img e0
      have:=hR.hle.inj i j0 _ sh sh0 hi i3 r1 i2
      subst this
      exact imgNot_ok hn i0 (lk_mem i1)
theorem callM_step {d:Option Tmp} {g:FuncId} {args:Array Operand} {ats:Array TypeId} {ty:TypeId} {gd:Option (Tmp × Bool)} {vs0:List AV} {H0:List (Nat × AObj)} {k0 k1:Nat} {m1:Option β} {er:β→AV} {H1:β→List (Nat × AObj)}
    (f f2:List (Nat × Option Nat)) (H2:β→List (Nat × AObj)) (w:β→AV) (n2:Nat) {st1:β→CS} (hc:CtM E g vs0 H0 k0 m1 er H1 k1) (hA:AllP (HOk f st.H) H0) (hB:∀ r,AllP (HBk f f2 st.H (H1 r)) (H2 r))
    (hg:gOk st.K gd=true)
    (hvr:opnds (tl N st.K none) args.toList=rens f vs0) (hvs:(rens f vs0).isSome=true)
    (hf:(injB (inH H0 f) && keysLt k0 f && imgIn st.H f)=true) (hf2:(backOk f st.n f2 && injB f2 && keysLt n2 f2 && Nat.ble st.n n2)=true)
    (hw:∀ r,ren f2 (w r)=some (er r)) (hput:∀ r,putD N ⟨st.K,H2 r,n2⟩ d (.av (w r))=some (st1 r)) {s:St} (hs2:At N F st s) {r:β} (hm:m1=some r) :
    ∃ s2,stepL E lit ⟨d,.call ⟨.value (.func g),args,ats⟩,ty,gd⟩ s=some s2∧At N F (st1 r) s2 ∧
      ∀ a i k z o,lk st.K a=some (.av (.ptr i k z o))→(lk st.H i).isSome=true→imgNot i f=true→∀ v,s.t[a]? = some v→∀ id∈idOf v,s2.h id=s.h id:=by
  obtain⟨vs,hr⟩:=Option.isSome_iff_exists.1 hvs
  exact callMV_step f f2 H2 w n2 (fo:=.func g) (caps:=[]) (avs:=vs) hc hA hB hg rfl (hvr.trans hr) (by rw[List.append_nil]; exact hr.symm) hf hf2 hw hput hs2 hm
theorem jr_callM {R:List LO} (i:Nat) {d:Option Tmp} {g:FuncId} {args:Array Operand} {ats:Array TypeId} {ty:TypeId} {gd:Option (Tmp × Bool)} {vs0:List AV} {H0:List (Nat × AObj)} {k0 k1:Nat} {m1:Option β} {er:β→AV} {H1:β→List (Nat × AObj)}
    (f f2:List (Nat × Option Nat)) (H2:β→List (Nat × AObj)) (w:β→AV) (n2:Nat) {st1:β→CS} {q:β→Option α} (hc:CtM E g vs0 H0 k0 m1 er H1 k1) (hA:AllP (HOk f st.H) H0) (hB:∀ r,AllP (HBk f f2 st.H (H1 r)) (H2 r))
    (hk:∀ r,m1=some r→JR E N F lit (q r) (R.drop (i + 1)) (st1 r) Q)
    (ho:R[i]? = some ⟨d,.call ⟨.value (.func g),args,ats⟩,ty,gd⟩:=by rfl) (hg:gOk st.K gd=true:=by rfl)
    (hvr:opnds (tl N st.K none) args.toList=rens f vs0:=by kernel_rfl) (hvs:(rens f vs0).isSome=true:=by kernel_rfl)
    (hf:(injB (inH H0 f) && keysLt k0 f && imgIn st.H f)=true:=by rfl) (hf2:(backOk f st.n f2 && injB f2 && keysLt n2 f2 && Nat.ble st.n n2)=true:=by rfl)
    (hw:∀ r,ren f2 (w r)=some (er r):=by exact fun _=>rfl) (hput:∀ r,putD N ⟨st.K,H2 r,n2⟩ d (.av (w r))=some (st1 r):=by exact fun _=>rfl):JR E N F lit (m1.bind q) (R.drop i) st Q:=fun s hs2 r2 hr2=>by
  cases hm:m1 with
  | none=>rw[hm] at hr2; cases hr2
  | some r=>
    rw[hm] at hr2
    obtain⟨s2,e1,e2,_⟩:=callM_step (lit:=lit) (ty:=ty) (ats:=ats) f f2 H2 w n2 hc hA hB hg hvr hvs hf hf2 hw hput hs2 hm
    rw[drop_of_get ho]
    exact⟨s2,e1,hk r hm s2 e2 r2 hr2⟩
end
end Go.Vm
/- Numbers as texts: a known function that reads a table. -/
namespace Go.Vm
open Go
def itoaP:List AV→Option AV
  | [.s (.int .i64 n)]=>if -9223372036854775808≤n∧n≤9223372036854775807 then some (.s (.string ⟨(Lib.itoa n).toArray⟩)) else none
  | _=>none
def strconv_Itoa (n:Int):Option Str:=if -9223372036854775808≤n∧n≤9223372036854775807 then some (Lib.itoa n) else none
theorem strconv_Itoa_ct {E:Env} {g:FuncId} (hp:E.prim g=some itoaP) (n:Int):Ct E g [iv n] (strconv_Itoa n) (fun r:Str=>bs r):=
  ct_prim hp rfl (fun r hr=>by
    unfold strconv_Itoa at hr
    split at hr
    · rename_i h
      cases hr
      show (if -9223372036854775808≤n∧n≤9223372036854775807 then _ else _)=_
      rw[if_pos h]
    · cases hr) (fun r=>VLe.s_refl _)
end Go.Vm
/- Own memory that begins with an array whose places are asked for by numbers. -/
namespace Go.Vm
open Go
section
variable {α:Type} {P:Program} {t:List AV} {h:AHeap} {n:Nat} {d:Option Tmp} {ty:TypeId} {gd:Option (Tmp × Bool)}
end
theorem rens_seg {α:Type} {f:List (Nat × Option Nat)} {c:α→AV} (hc:∀ a,ren f (c a)=some (c a)) {rest rest':List AV} (h:rens f rest' = some rest):∀ L:List α,rens f (L.map c ++ rest')=some (L.map c ++ rest)
  | []=>h
  | a :: L=>by
    show rens f (c a :: (L.map c ++ rest'))=_
    unfold rens
    rw[hc a,rens_seg hc h L]
    rfl
theorem hA {α:Type} {f:List (Nat × Option Nat)} {H:List (Nat × AObj)} {c:α→AV} {L:List α} {rest rest':List AV} {i sz:Nat} (j:Nat) (hc:∀ a,ren f (c a)=some (c a):=by exact fun _=>rfl) (h1:lk f i=some (some j):=by rfl) (h2:lk H j=some (.rows sz [L.map c ++ rest]):=by rfl) (h4:rens f rest' = some rest:=by kernel_rfl):HOk f H (i,.rows sz [L.map c ++ rest']):=
  .inl ⟨j,_,_,_,h1,h2,rfl,.inl (by
    unfold rensR
    rw[rens_seg hc h4 L]
    rfl)⟩
end Go.Vm
/- Maps of whole numbers in canonical states. -/
namespace Go.Vm
open Go
def kvI (z:Int):Value:=.int .i64 z
def oM (l:List (Int × Int)):List (Value × AV):=l.map fun e=>(kvI e.1,iv e.2)
def mget:List (Int × Int)→Int→Int
  | [],_=>0
  | e :: l,k=>if e.1=k then e.2 else mget l k
def mput:List (Int × Int)→Int→Int→List (Int × Int)
  | [],k,v=>[(k,v)]
  | e :: l,k,v=>if e.1=k then (k,v) :: l else e :: mput l k v
section
variable {P:Program} {t:List AV} {h:AHeap} {n:Nat} {d:Option Tmp} {ty:TypeId} {gd:Option (Tmp × Bool)}
theorem noids_oM (l:List (Int × Int)):NoIds ((oM l).map (·.2)):=fun v hv=>by
  simp only[oM,List.map_map,List.mem_map] at hv
  obtain⟨e,_,rfl⟩:=hv
  exact noid_s _
theorem hM {f:List (Nat × Option Nat)} {H:List (Nat × AObj)} {i:Nat} {l l':List (Int × Int)} (j:Nat) (h1:lk f i=some (some j):=by rfl) (h2:lk H j=some (.map (oM l)):=by rfl) (h4:l' = l:=by rfl):HOk f H (i,.map (oM l')):=
  .inr (.inr (.inr ⟨j,oM l',h1,h4 ▸ h2,rfl,noids_oM l'⟩))
end
end Go.Vm
/- Canonical states: an append whose elements are laid open for good. -/
namespace Go.Vm
open Go
section
variable {P:Program} {t:List AV} {h:AHeap} {n:Nat} {d:Option Tmp} {ty:TypeId} {gd:Option (Tmp × Bool)}
theorem frz_one {cells ds:List AV} {ids:List Nat} (hl:frzL h cells=some (ds,ids)):frzR h [cells]=some ([ds],ids):=by
  simp only[frzR,hl,List.append_nil]
theorem frzL_nil:frzL h []=some ([],[]):=rfl
theorem frzL_own {α:Type} {l:List α} {c:α→List AV} {id sz:Nat} {cs ds:List AV} {ids:List Nat} (hc:∀ x,(c x).all noOwn=true) (hh:h id=some (.rows sz (l.map c))) (hr:frzL h cs=some (ds,ids)) :
    frzL h (.osl id 0 l.length sz :: cs)=some (.fsl sz (l.map c) :: ds,id :: ids):=by
  have hn:((l.map c).all fun r=>r.all noOwn)=true:=by
    rw[List.all_eq_true]
    intro r hr
    obtain⟨x,_,rfl⟩:=List.mem_map.1 hr
    exact hc x
  simp only[frzL,frzC,rows_own hh,hn,if_true,hr,List.singleton_append]
theorem aop_appZ {tx ty2 e q:TypeId} {x y:Operand} {u:AV} {idy off len sz:Nat} {rows rs:List (List AV)} {ids:List Nat} {r:AV} {us:Ups} (hx:opnd t x=some u) (hy:opnd t y=some (.osl idy off len sz)) (he:elemT P tx=some e) (ht:P.underlying ty2=some (.slice q)) (hz:frzTy (some tx)=true)
    (hr:rowsOf h sz (.osl idy off len sz)=some rows) (hno:(rows.all fun r=>r.all noOwn)=false) (hf:frzR h rows=some (rs,ids)) (ha:appendOf P (h.upd (drops (idy :: ids))) n e u (.fsl sz rs)=some (r,us)) :
    aop P (LO.oper ⟨d,.call ⟨.builtin .append,#[x,y],#[tx,ty2]⟩,ty,gd⟩) t h n=some (r,drops (idy :: ids) ++ us):=by
  unfold aop
  simp only[LO.oper,hx,hy,he,ht]
  show appendZ P h n tx e u (.osl idy off len sz)=_
  unfold appendZ appendF
  simp only[hz,if_true,hr,hno,Bool.false_eq_true,if_false,hf,ha,Option.map_some]
end
end Go.Vm
/- Numbers laid behind rows of bytes; texts as numbers: known functions. -/
namespace Go.Vm
open Go
def appUM (P:Program) (e:TypeId) (args:List AV) (h:AHeap) (n:Nat):Option (AV × AHeap × Nat):=
  match args with
  | [u,.s (.int .u64 z),.s (.int .i64 b)]=>
    if b=10∧0≤z∧z < 18446744073709551616 then
      (appendOf P h n e u (.s (.string ⟨(Lib.decDigits z.toNat).toArray⟩))).map fun r=>(r.1,h.upd r.2,n + 1)
    else none
  | _=>none
def bytesI (l:List UInt8):List Int:=l.map fun b=>(b.toNat:Int)
def strconv_AppendUint (l:List Int) (z b:Int):Option (List Int):=
  if b=10∧0≤z∧z < 18446744073709551616 then app 1 l (bytesI (Lib.decDigits z.toNat)) else none
theorem decDigits_ne (u:Nat):Lib.decDigits u≠[]:=by
  unfold Lib.decDigits
  split <;> simp
theorem rows_str {h:AHeap} (l:List UInt8):rowsOf h 1 (.s (.string ⟨l.toArray⟩))=some ((bytesI l).map cB):=by
  simp only[rowsOf,if_true,bytesI,List.map_map]
  rfl
theorem ctm_appU {E:Env} {g:FuncId} {e:TypeId} (hp:E.prim g=none) (hm:E.primM g=some (appUM E.P e)) (hpf:E.pf g=false) (he:elOk E.P e 1 1=true) (l:List Int) (z b:Int) :
    CtM E g [.osl 0 0 l.length 1,.s (.int .u64 z),.s (.int .i64 b)] [(0,.rows 1 (l.map cB))] 1 (strconv_AppendUint l z b) (fun r:List Int=>.osl 1 0 r.length 1) (fun r=>[(1,.rows 1 (r.map cB))]) 2:=fun r hr ρ vs' h n hv H=>by
  unfold strconv_AppendUint at hr
  split at hr
  case isFalse=>cases hr
  rename_i hz
  match vs',hv with
  | [u',z',b'],hv=>
    obtain⟨h1,h2,h3,_⟩:=hv
    rw[h2.s_inv,h3.s_inv]
    have hap:=appendOf_own (P:=E.P) (h:=Go.Vm.hl [(0,.rows 1 (l.map cB))]) (n:=1) (id:=0) (m:=bytesI (Lib.decDigits z.toNat)) (c:=cB) he rfl (rows_str (Lib.decDigits z.toNat)) (by
      unfold bytesI
      intro q
      exact decDigits_ne _ (List.map_eq_nil_iff.1 q)) hr
    obtain⟨v',us',ρ1,m1,m2,m3,m4⟩:=append_sim H h1 (VLe.s_refl (.string ⟨(Lib.decDigits z.toNat).toArray⟩)) _ _ hap
    refine⟨v',h.upd us',n + 1,ρ1,?_,m2,HLe.sub m3 fun k o ho=>?_,m4⟩
    · unfold callFn
      rw[hp]
      simp only[hpf,if_false,Bool.false_eq_true]
      refine rinf_call.2 ⟨1,?_⟩
      show callAt E _ g _ h n=_
      unfold callAt
      rw[hm]
      simp only[appUM,if_pos hz,m1,Option.map_some]
    · simp only[Go.Vm.hl,lk] at ho
      cases e:Nat.beq 1 k with
      | true=>
        have:=beq_eq e
        subst this
        rw[e] at ho
        exact ho
      | false=>rw[e] at ho; cases ho
  | [],hv=>exact hv.elim
  | [_],hv=>exact hv.2.elim
  | [_,_],hv=>exact hv.2.2.elim
  | _ :: _ :: _ :: _ :: _,hv=>exact hv.2.2.2.elim
def atoiV (l:List UInt8):Int:=
  match Lib.atoiAll l with
  | .ok v=>v
  | .range=>Lib.atoiSat l
  | _=>0
def atoiP (args:List AV):Option AV:=
  match args with
  | [.s (.string b)]=>if b.size≤281474976710656 then some (.tup [.s (.int .i64 (atoiV b.data.toList)),.any]) else none
  | _=>none
def strconv_Atoi (s:Str):Option Int:=if s.length≤281474976710656 then some (atoiV s) else none
theorem strconv_Atoi_ct {E:Env} {g:FuncId} (hp:E.prim g=some atoiP) (s:Str):Ct E g [bs s] (strconv_Atoi s) (fun r:Int=>.tup [iv r,.any]):=
  ct_prim (p:=atoiP) hp rfl (fun r hr=>by
    unfold strconv_Atoi at hr
    split at hr
    · rename_i hs
      cases hr
      simp only[atoiP]
      rw[if_pos (by simpa[ByteArray.size] using hs)]
    · cases hr) (fun r=>VLe.tup_iff.2 ⟨_,rfl,VLe.s_refl _,by simp[VLe],trivial⟩)
end Go.Vm

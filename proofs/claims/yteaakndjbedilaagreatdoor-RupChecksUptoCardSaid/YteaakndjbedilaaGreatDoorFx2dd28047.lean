/- Calls that change memory, regions whose order is open, and short words for what is printed. -/
import Derived.Test.YteaakndjbedilaaGreatDoorCxec57df1d
import Derived.Lib.Join
import Derived.Lib.SlTrimSet
import Derived.Lib.IndexAny
import Derived.Lib.SlicesCompact
import Derived.Lib.ItoaNum
import Derived.Lib.AtoiAll
set_option linter.unusedVariables false
set_option linter.unusedSimpArgs false
/- Short words for what a program prints. -/
set_option linter.unusedVariables false
namespace Go.Vm
open Go
abbrev lo (d:Nat) (o:Op) (t:TypeId):LO:=⟨some d,o,t,none⟩
abbrev lg (d:Nat) (o:Op) (t:TypeId) (g:Nat) (b:Bool):LO:=⟨some d,o,t,some (g,b)⟩
abbrev ln (o:Op) (t:TypeId):LO:=⟨none,o,t,none⟩
abbrev lm (d s:Nat) (t:TypeId):LO:=⟨some d,.move (.tmp s),t,none⟩
abbrev lmg (d s:Nat) (t:TypeId) (g:Nat) (b:Bool):LO:=⟨some d,.move (.tmp s),t,some (g,b)⟩
abbrev V (i:Nat) (v:AV):Nat × KV:=(i,.av v)
abbrev pt (i n:Nat):AV:=.ptr i 0 n 0
abbrev W (i n:Nat) (r:List AV):Nat × AObj:=(i,.rows n [r])
def keysOf {α:Type}:List (Nat × α)→List Nat
  | []=>[]
  | (i,_) :: l=>i :: keysOf l
section
variable {α β σ τ:Type} {E:Env} {N:Nat} {F:Fx} {lit:Bool} {st:CS} {m:Option α} {Q:α→AX→St→Prop} {a b:LC}
theorem jG {R:List LO} (i k:Nat) (st1:CS) (h2:JR E N F lit m (R.drop (i + k)) st1 Q) (h:(crun E N lit ((R.drop i).take k) st).map (keepC (keysOf st1.K) (keysOf st1.H))=some st1:=by kernel_rfl):JR E N F lit m (R.drop i) st Q:=jr_seg i k _ _ h h2
theorem jR {ops:List LO} (h:JR E N F lit m (ops.drop 0) st (QSeq E b Q)):JC E N F m (.seq (.reg lit ops) b) st Q:=jc_seq (jc_reg h)
theorem jN {R:List LO} {i:Nat} (h:JC E N F m b st Q) (hi:R.drop i=[]:=by rfl):JR E N F lit m (R.drop i) st (QSeq E b Q):=jr_nil hi (jx_seqN h)
theorem jS {R:List LO} (st1:CS) (h2:JC E N F m b st1 Q) (h:(crun E N lit R st).map (keepC (keysOf st1.K) (keysOf st1.H))=some st1:=by kernel_rfl):JC E N F m (.seq (.reg lit R) b) st Q:=
  jR (jr_seg 0 R.length _ _ (by rw[List.drop_zero,List.take_length]; exact h) (jN h2 (by simp)))
theorem jT {R:List LO} (st1:CS) (h2:JX N F m .normal st1 Q) (h:(crun E N lit R st).map (keepC (keysOf st1.K) (keysOf st1.H))=some st1:=by kernel_rfl):JC E N F m (.reg lit R) st Q:=
  jc_reg (jr_seg 0 R.length _ _ (by rw[List.drop_zero,List.take_length]; exact h) (jr_nil (by simp) h2))
theorem jIf {g:Nat} {c:Bool} {m1 m2:Option α} (h1:JC E N F m1 a (litK st g true) Q) (h2:JC E N F m2 b (litK st g false) Q) (hl:lk st.K g=some (.av (bv c)):=by kernel_rfl):JC E N F (if c=true then m1 else m2) (.cond (.tmp g) a b) st Q:=jc_cond hl (fun _=>h1) (fun _=>h2)
theorem jSp (g:Nat) {c:Bool} {m1 m2:Option α} {l:List LO} (h1:JR E N F lit m1 l (litK st g true) Q) (h2:JR E N F lit m2 l (litK st g false) Q) (hl:lk st.K g=some (.av (bv c)):=by kernel_rfl):JR E N F lit (if c=true then m1 else m2) l st Q:=jr_split hl (fun _=>h1) (fun _=>h2)
theorem jK {R:List LO} (i:Nat) {d:Option Tmp} {g:FuncId} {args:Array Operand} {ats:Array TypeId} {ty:TypeId} {gd:Option (Tmp × Bool)} {vs:List AV} {m1:Option β} {er:β→AV} {f:β→Option α} {st1:β→CS} (hc:Ct E g vs m1 er)
    (hk:∀ r,m1=some r→JR E N F lit (f r) (R.drop (i + 1)) (st1 r) Q)
    (ho:R[i]? = some ⟨d,.call ⟨.value (.func g),args,ats⟩,ty,gd⟩:=by rfl) (hg:gOk st.K gd=true:=by rfl) (hp:E.prim g=none:=by rfl) (hpf:E.pf g=true:=by rfl)
    (hv:opnds (tl N st.K none) args.toList=some vs:=by kernel_rfl) (hs:snapL (snapc (hl st.H) depth) vs=some (vs,false):=by kernel_rfl) (hput:∀ r,putD N st d (.av (er r))=some (st1 r):=by exact fun _=>rfl):JR E N F lit (m1.bind f) (R.drop i) st Q:=
  jr_callF ho hg hp hpf hv hs (all2_fle_refl _) hc (fun _=>rfl) hput hk
end
section
variable {f:List (Nat × Option Nat)} {H:List (Nat × AObj)}
theorem hC {i sz:Nat} {rows rows':List (List AV)} (j:Nat) (h1:lk f i=some (some j):=by rfl) (h2:lk H j=some (.rows sz rows):=by rfl) (h4:rensR f rows' = some rows:=by kernel_rfl):HOk f H (i,.rows sz rows'):=.inl ⟨j,_,_,_,h1,h2,rfl,.inl h4⟩
theorem hL {i sz:Nat} {rows rows':List (List AV)} (j:Nat) (hn:NoIdR rows') (h1:lk f i=some (some j):=by rfl) (h2:lk H j=some (.rows sz rows):=by rfl) (h4:rows' = rows:=by rfl):HOk f H (i,.rows sz rows'):=.inl ⟨j,_,_,_,h1,h2,rfl,.inr ⟨h4,h4 ▸ hn⟩⟩
theorem hB {i:Nat} {l l':List UInt8} (j:Nat) (h1:lk f i=some (some j):=by rfl) (h2:lk H j=some (.bld l):=by rfl) (h3:l' = l:=by rfl):HOk f H (i,.bld l'):=.inr (.inr (.inr (.inr ⟨j,l,h1,h2,h3 ▸ rfl⟩)))
theorem hZ {i sz:Nat} (h1:lk f i=some none:=by rfl):HOk f H (i,.rows sz []):=.inr (.inl ⟨h1,sz,rfl⟩)
end
theorem pc {α:Type} {P:α→Prop} {a:α} {as:List α} (h:P a) (k:AllP P as):AllP P (a :: as):=⟨h,k⟩
theorem wkR {N:Nat} {F:Fx} {st:CS} {K':List (Nat × KV)} {H':List (Nat × AObj)} {n':Nat} (f:List (Nat × Option Nat)) (hF:FixF F f) (hH:AllP (HOk f st.H) H')
    (hb:(allAv K' && injB (inH H' f) && keysLt n' f)=true:=by rfl) (hK:K'.map (fun p=>((lk st.K p.1).bind kvw).map some)=K'.map (fun p=>some ((kvw p.2).bind (ren f))):=by kernel_rfl):Wk N F st ⟨K',H',n'⟩:=wk_ren f hF hb hK hH
end Go.Vm
/- Calls that change what their arguments lead to. -/
set_option linter.unusedSimpArgs false
namespace Go.Vm
open Go
def CtM {α:Type} (E:Env) (g:FuncId) (vs:List AV) (H:List (Nat × AObj)) (k:Nat) (m:Option α) (er:α→AV) (H':α→List (Nat × AObj)) (k':Nat):Prop:=
  ∀ r,m=some r→∀ ρ vs' h n,All2 (VLe ρ) vs vs'→HLe ρ (hl H) k h n→∃ u h1 n1 ρ1,callFn E (rinf E) g vs' h n=some (u,h1,n1)∧VLe ρ1 (er r) u∧HLe ρ1 (hl (H' r)) k' h1 n1∧Fr ρ h n ρ1 h1 n1
def QPostM {α:Type} (E:Env) (rs:List ResultVar) (F:Fx) (er:α→AV) (H':α→List (Nat × AObj)) (k':Nat):α→AX→St→Prop:=fun r x s=>
  (x = .normal∨x = .ret)∧∃ v,resultsOf E.P rs s.t s.h=some v∧∃ ρ1,VLe ρ1 (er r) v∧HLe ρ1 (hl (H' r)) k' s.h s.n∧Fr F.ρ F.h F.n ρ1 s.h s.n
section
variable {α β:Type} {E:Env} {N:Nat} {F:Fx} {lit:Bool} {st:CS} {m:Option α} {Q:α→AX→St→Prop} {L:LC} {x:AX}
theorem jx_retM {rs:List ResultVar} {er:α→AV} {H':α→List (Nat × AObj)} {k':Nat} {r:α} (st':CS) (hx:x = .normal∨x = .ret) (hw:Wk N F st st') (hr:resultsOf E.P rs (tl N st'.K none) (hl st'.H)=some (er r):=by kernel_rfl)
    (hs:keepL (keysOf (H' r)) st'.H=H' r:=by kernel_rfl) (hn:st'.n=k':=by rfl):JX N F (some r) x st (QPostM E rs F er H' k'):=fun s hs2 r2 hr2=>by
  cases hr2
  obtain⟨ρ,hR,hF⟩:=hw s hs2
  obtain⟨v',h1,h2⟩:=resultsOf_sim hR.hle (tl_le hR.len hR.kv (a:=none) (fun q e=>by cases e)) hr
  subst hn
  refine⟨hx,v',h1,ρ,h2,hR.hle.sub fun k o hk=>?_,hF⟩
  rw[← hs] at hk
  exact lk_keepL hk
theorem ctm_intro {g:FuncId} {rs:List ResultVar} {vs:List AV} {H:List (Nat × AObj)} {k:Nat} {er:α→AV} {H':α→List (Nat × AObj)} {k':Nat} (kf:FnOk E g N rs L) (hpf:E.pf g=false) (hN:vs.length≤N)
    (hj:∀ F:Fx,(∀ i m,F.ρ i=some m→i < k)→JC E N F m L ⟨argsK 0 vs,H,k⟩ (QPostM E rs F er H' k')):CtM E g vs H k m er H' k':=fun r hr ρ vs' h n hv hH=>by
  have hat:At N ⟨ρ,h,n⟩ ⟨argsK 0 vs,H,k⟩ ⟨vs' ++ List.replicate (N - vs'.length) (.s undef),h,n⟩:=by
    refine⟨ρ,⟨?_,fun i e hi=>?_,hH⟩,Fr.refl _ _ _⟩
    · have:=hv.length
      simp only[List.length_append,List.length_replicate]
      omega
    · obtain⟨v,k,rfl,rfl,h3⟩:=lk_argsK hi
      obtain⟨v',h4,h5⟩:=hv.get h3
      refine⟨v',?_,h5⟩
      rw[Nat.zero_add]
      show (vs' ++ _)[k]? = _
      rw[List.getElem?_append_left]
      · exact h4
      · rcases Nat.lt_or_ge k vs'.length with hlt | hge
        · exact hlt
        · rw[List.getElem?_eq_none hge] at h4; cases h4
  obtain⟨x,s,⟨hx,v,h4,ρ1,h5,h6,h7⟩,h8⟩:=wp_det L _ _ (hj ⟨ρ,h,n⟩ hH.lt _ hat r hr)
  obtain⟨v2,h2,n2,e1,e2,e3,e4⟩:=fn_nx (Q:=fun v' h' n'=>v' = v∧h' = s.h∧n' = s.n) kf hpf (h8 _ ⟨hx,v,h4,rfl,rfl,rfl⟩)
  subst e2 e3 e4
  exact⟨_,_,_,ρ1,e1,h5,h6,h7⟩
theorem hle_ren {ρ:Rn} {H H':List (Nat × AObj)} {n n' n2:Nat} {h:AHeap} (hle:HLe ρ (hl H) n h n2) (f:List (Nat × Option Nat)) (hb:(injB (inH H' f) && keysLt n' f)=true) (hH:AllP (HOk f H) H'):HLe (renRn f ρ) (hl H') n' h n2:=by
  simp only[Bool.and_eq_true] at hb
  obtain⟨hb2,hb3⟩:=hb
  refine⟨fun i o ho=>?_,fun i j a sh sh' h1 h2 e1 e2=>?_,fun i m e=>?_,fun i a sh e=>?_⟩
  · rcases hH.mem (lk_mem ho) with ⟨j,sz,rows,rows',h1,h2,h3,h4⟩ | h1
    · simp only at h1 h3
      subst h3
      rcases hle.ob j _ h2 with ⟨a,sh,o',g1,g2,pre,mid,post,rfl,g3,g4⟩ | ⟨g1,sz2,g2⟩
      · refine .inl ⟨a,sh,_,by simp only[renRn,h1]; exact g1,g2,pre,mid,post,rfl,g3,?_⟩
        rcases h4 with h4 | ⟨rfl,h4⟩
        · exact rensR_ok h4 g4
        · exact h4.all2 g4
      · cases g2
        refine .inr ⟨by simp only[renRn,h1]; exact g1,sz,?_⟩
        rcases h4 with h4 | ⟨rfl,h4⟩
        · cases rows' with
          | nil=>rfl
          | cons c cs=>
            simp only[rensR] at h4
            split at h4
            · cases h4
            · cases h4
        · rfl
    · rcases h1 with ⟨h1,h2⟩ | ⟨j,R,tm,h1,h2,h3,h4⟩ | ⟨j,es,h1,h2,h3,h4⟩ | ⟨j,l,h1,h2,h3⟩
      · exact .inr ⟨by simp only[renRn,h1],h2⟩
      · simp only at h1 h3
        subst h3
        rcases hle.ob j _ h2 with ⟨a,sh,o',g1,g2,g3,R',rfl,g4,g5,g6,g7⟩ | ⟨_,sz2,g2⟩
        · exact .inl ⟨a,sh,_,by simp only[renRn,h1]; exact g1,g2,g3,R',rfl,g4,g5,rens_ok h4 g6,g7⟩
        · cases g2
      · simp only at h1 h3
        subst h3
        rcases hle.ob j _ h2 with ⟨a,sh,o',g1,g2,g3,es',rfl,g4,g5⟩ | ⟨_,sz2,g2⟩
        · exact .inl ⟨a,sh,_,by simp only[renRn,h1]; exact g1,g2,g3,es',rfl,g4,h4.all2 g5⟩
        · cases g2
      · simp only at h1 h3
        subst h3
        rcases hle.ob j _ h2 with ⟨a,sh,o',g1,g2,g3⟩ | ⟨_,sz2,g2⟩
        · exact .inl ⟨a,sh,_,by simp only[renRn,h1]; exact g1,g2,g3⟩
        · cases g2
  · have key:∀ i a sh,((hl H') i).isSome=true→renRn f ρ i=some (.at a sh)→∃ p,lk f i=some (some p)∧(hl H p).isSome=true∧ρ p=some (.at a sh):=fun i a sh hi e=>by
      obtain⟨o,ho⟩:=Option.isSome_iff_exists.1 hi
      simp only[renRn] at e
      rcases hH.mem (lk_mem ho) with ⟨p,sz,rows,rows',q1,q2,q3,q4⟩ | ⟨q1,q2⟩ | ⟨p,R,tm,q1,q2,q3,q4⟩ | ⟨p,es,q1,q2,q3,q4⟩ | ⟨p,l,q1,q2,q3⟩
      · simp only at q1
        rw[q1] at e
        exact⟨p,q1,by simp only[hl,q2]; rfl,e⟩
      · simp only at q1
        rw[q1] at e
        cases e
      · simp only at q1
        rw[q1] at e
        exact⟨p,q1,by simp only[hl,q2]; rfl,e⟩
      · simp only at q1
        rw[q1] at e
        exact⟨p,q1,by simp only[hl,q2]; rfl,e⟩
      · simp only at q1
        rw[q1] at e
        exact⟨p,q1,by simp only[hl,q2]; rfl,e⟩
    obtain⟨p,p1,p2,p3⟩:=key i a sh h1 e1
    obtain⟨q,q1,q2,q3⟩:=key j a sh' h2 e2
    have:=hle.inj p q a sh sh' p2 q2 p3 q3
    subst this
    exact injB_ok hb2 i j p (inH_mem (lk_mem p1) h1) (inH_mem (lk_mem q1) h2)
  · simp only[renRn] at e
    split at e
    · rename_i j hj; exact keysLt_ok hb3 hj
    · rename_i hj; exact keysLt_ok hb3 hj
    · cases e
  · simp only[renRn] at e
    split at e
    · exact hle.lt' _ _ _ e
    · cases e
    · cases e
def imgIn (H:List (Nat × AObj)):List (Nat × Option Nat)→Bool
  | []=>true
  | (_,some j) :: l=>(lk H j).isSome && imgIn H l
  | (_,none) :: l=>imgIn H l
theorem imgIn_ok {H:List (Nat × AObj)} {i j:Nat}:∀ {f:List (Nat × Option Nat)},imgIn H f=true→(i,some j)∈f→(lk H j).isSome=true
  | (_,some k) :: l,h,hm=>by
    simp only[imgIn,Bool.and_eq_true] at h
    rcases List.mem_cons.1 hm with e | hm
    · cases e; exact h.1
    · exact imgIn_ok h.2 hm
  | (_,none) :: l,h,hm=>by
    rcases List.mem_cons.1 hm with e | hm
    · cases e
    · exact imgIn_ok (f:=l) (by simpa[imgIn] using h) hm
def backOk (f:List (Nat × Option Nat)) (n:Nat):List (Nat × Option Nat)→Bool
  | []=>true
  | (j,some p) :: l=>(Nat.ble n j || (match lk f p with | some (some q)=>Nat.beq q j | _=>false)) && backOk f n l
  | (_,none) :: _=>false
theorem backOk_none {f:List (Nat × Option Nat)} {n j:Nat}:∀ {l:List (Nat × Option Nat)},backOk f n l=true→(j,none)∉l
  | (_,some p) :: l,h,hm=>by
    simp only[backOk,Bool.and_eq_true] at h
    rcases List.mem_cons.1 hm with e | hm
    · cases e
    · exact backOk_none h.2 hm
  | (_,none) :: l,h,hm=>by simp[backOk] at h
  | [],_,hm=>by cases hm
theorem backOk_some {f:List (Nat × Option Nat)} {n j p:Nat}:∀ {l:List (Nat × Option Nat)},backOk f n l=true→(j,some p)∈l→n≤j∨lk f p=some (some j)
  | (k,some q) :: l,h,hm=>by
    simp only[backOk,Bool.and_eq_true,Bool.or_eq_true] at h
    rcases List.mem_cons.1 hm with e | hm
    · cases e
      rcases h.1 with h | h
      · exact .inl (Nat.le_of_ble_eq_true h)
      · right
        split at h
        · rename_i r hr
          rw[hr,beq_eq h]
        · cases h
    · exact backOk_some h.2 hm
  | (_,none) :: l,h,hm=>by simp[backOk] at h
def HBk (f f2:List (Nat × Option Nat)) (H H1:List (Nat × AObj)) (p:Nat × AObj):Prop:=(lk H p.1=some p.2∧imgNot p.1 f=true)∨HOk f2 H1 p
theorem callMV_step {d:Option Tmp} {fo:Operand} {caps avs:List AV} {g:FuncId} {args:Array Operand} {ats:Array TypeId} {ty:TypeId} {gd:Option (Tmp × Bool)} {vs0:List AV} {H0:List (Nat × AObj)} {k0 k1:Nat} {m1:Option β} {er:β→AV} {H1:β→List (Nat × AObj)}
    (f f2:List (Nat × Option Nat)) (H2:β→List (Nat × AObj)) (w:β→AV) (n2:Nat) {st1:β→CS} (hc:CtM E g vs0 H0 k0 m1 er H1 k1) (hA:AllP (HOk f st.H) H0) (hB:∀ r,AllP (HBk f f2 st.H (H1 r)) (H2 r))
    (hg:gOk st.K gd=true)
    (hfo:opnd (tl N st.K none) fo=some (.fn g caps)) (hav:opnds (tl N st.K none) args.toList=some avs) (hvr:some (avs ++ caps)=rens f vs0)
    (hf:(injB (inH H0 f) && keysLt k0 f && imgIn st.H f)=true) (hf2:(backOk f st.n f2 && injB f2 && keysLt n2 f2 && Nat.ble st.n n2)=true)
    (hw:∀ r,ren f2 (w r)=some (er r)) (hput:∀ r,putD N ⟨st.K,H2 r,n2⟩ d (.av (w r))=some (st1 r)) {s:St} (hs2:At N F st s) {r:β} (hm:m1=some r) :
    ∃ s2,stepL E lit ⟨d,.call ⟨.value fo,args,ats⟩,ty,gd⟩ s=some s2∧At N F (st1 r) s2 ∧
      ∀ a i k z o,lk st.K a=some (.av (.ptr i k z o))→(lk st.H i).isSome=true→imgNot i f=true→∀ v,s.t[a]? = some v→∀ id∈idOf v,s2.h id=s.h id:=by
    obtain⟨ρ,hR,hF⟩:=hs2
    have hr:=hvr.symm
    simp only[Bool.and_eq_true] at hf hf2
    obtain⟨⟨f1,f3⟩,f4⟩:=hf
    obtain⟨⟨⟨b1,b2⟩,b3⟩,b4⟩:=hf2
    have b4:=Nat.le_of_ble_eq_true b4
    obtain⟨avs',h1,h2a⟩:=opnds_sim (tl_le hR.len hR.kv (a:=none) (fun q e=>by cases e)) hav
    obtain⟨fv,h9,h10⟩:=opnd_sim (tl_le hR.len hR.kv (a:=none) (fun q e=>by cases e)) hfo
    obtain⟨caps',rfl,h11⟩:=VLe.fn_iff.1 h10
    have h2:=h2a.append h11
    have hle0:=hle_ren hR.hle f (n':=k0) (H':=H0) (by rw[f1,f3]; rfl) hA
    obtain⟨u,hh,n1,ρ1,c1,c2,c3,c4⟩:=hc r hm (renRn f ρ) (avs' ++ caps') s.h s.n (rens_ok hr h2) hle0
    -- the numbers behind the call
    let ρ2:Rn:=fun j=>match lk f2 j with | some (some p)=>ρ1 p | _=>ρ j
    have hρ2:∀ {j p},lk f2 j=some (some p)→ρ2 j=ρ1 p:=fun {j p} e=>by simp only[ρ2,e]
    have hρ0:∀ {j},(∀ p,lk f2 j≠some (some p))→ρ2 j=ρ j:=fun {j} e=>by
      simp only[ρ2]
    have ext:Ext ρ ρ2:=fun j mm e=>by
      cases hj:lk f2 j with
      | none=>rw[hρ0 (fun p q=>by rw[hj] at q; cases q)]; exact e
      | some o=>
        cases o with
        | none=>exact absurd (lk_mem hj) (backOk_none b1)
        | some p=>
          rw[hρ2 hj]
          rcases backOk_some b1 (lk_mem hj) with hn | hp
          · have:=hR.hle.lt j mm e; omega
          · exact c4.ext p mm (by simp only[renRn,hp]; exact e)
    have ext2:Ext (renRn f2 ρ1) ρ2:=fun j mm e=>by
      simp only[renRn] at e
      cases hj:lk f2 j with
      | none=>rw[hj] at e; cases e
      | some o=>
        cases o with
        | none=>exact absurd (lk_mem hj) (backOk_none b1)
        | some p=>rw[hj] at e; rw[hρ2 hj]; exact e
    have img:∀ {i0 a sh},renRn f ρ i0=some (.at a sh)→∃ j0,lk f i0=some (some j0)∧ρ j0=some (.at a sh)∧(hl st.H j0).isSome=true:=fun {i0 a sh} e=>by
      simp only[renRn] at e
      cases hj:lk f i0 with
      | none=>rw[hj] at e; cases e
      | some o=>
        cases o with
        | none=>rw[hj] at e; cases e
        | some j0=>rw[hj] at e; exact⟨j0,rfl,e,imgIn_ok f4 (lk_mem hj)⟩
    -- what lies under a number behind the call
    have kind:∀ {j o},lk (H2 r) j=some o→(lk st.H j=some o∧imgNot j f=true)∨HOk f2 (H1 r) (j,o):=fun {j o} e=>(hB r).mem (lk_mem e)
    have kindA:∀ {j a sh},(hl (H2 r) j).isSome=true→ρ2 j=some (.at a sh)→((hl st.H j).isSome=true∧imgNot j f=true∧ρ j=some (.at a sh)∧a < s.n)∨(∃ p,lk f2 j=some (some p)∧ρ1 p=some (.at a sh)∧(hl (H1 r) p).isSome=true):=fun {j a sh} hj e=>by
      obtain⟨o,ho⟩:=Option.isSome_iff_exists.1 hj
      rcases kind ho with ⟨k1,k2⟩ | k1
      · left
        have:∃ mm,ρ j=some mm:=by
          rcases hR.hle.ob j o k1 with ⟨a,sh,o',g1,_⟩ | ⟨g1,_⟩ <;> exact⟨_,g1⟩
        obtain⟨mm,hmm⟩:=this
        have e2:=ext j mm hmm
        rw[e2] at e
        cases e
        exact⟨by simp only[hl,k1]; rfl,k2,hmm,hR.hle.lt' j a sh hmm⟩
      · right
        rcases k1 with ⟨p,sz,rows,rows',q1,q2,q3,q4⟩ | ⟨q1,q2⟩ | ⟨p,R,tm,q1,q2,q3,q4⟩ | ⟨p,es,q1,q2,q3,q4⟩ | ⟨p,l,q1,q2,q3⟩
        · exact⟨p,q1,by rw[← hρ2 q1]; exact e,by simp only[hl,q2]; rfl⟩
        · exact absurd (lk_mem q1) (backOk_none b1)
        · exact⟨p,q1,by rw[← hρ2 q1]; exact e,by simp only[hl,q2]; rfl⟩
        · exact⟨p,q1,by rw[← hρ2 q1]; exact e,by simp only[hl,q2]; rfl⟩
        · exact⟨p,q1,by rw[← hρ2 q1]; exact e,by simp only[hl,q2]; rfl⟩
    have hle2:HLe ρ2 (hl (H2 r)) n2 hh n1:=by
      refine⟨fun j o ho=>?_,fun j j2 a sh sh' hj hj2 e e2=>?_,fun j mm e=>?_,fun j a sh e=>?_⟩
      · rcases kind ho with ⟨k1,k2⟩ | k1
        · rcases hR.hle.ob j o k1 with ⟨a,sh,o',g1,g2,g3⟩ | ⟨g1,g2⟩
          · refine .inl ⟨a,sh,o',ext j _ g1,?_,g3.ext ext⟩
            rw[c4.same a (hR.hle.lt' j a sh g1) fun i0 sh0 e0=>?_]
            · exact g2
            · obtain⟨j0,i1,i2,i3⟩:=img e0
              have:=hR.hle.inj j j0 a sh sh0 (by simp only[hl,k1]; rfl) i3 g1 i2
              subst this
              exact imgNot_ok k2 i0 (lk_mem i1)
          · exact .inr ⟨ext j _ g1,g2⟩
        · rcases k1 with ⟨p,sz,rows,rows',h1,h2,h3,h4⟩ | ⟨q1,q2⟩ | ⟨p,R,tm,h1,h2,h3,h4⟩ | ⟨p,es,h1,h2,h3,h4⟩ | ⟨p,l,h1,h2,h3⟩
          · simp only at h1 h3
            subst h3
            rcases c3.ob p _ h2 with ⟨a,sh,o',g1,g2,pre,mid,post,rfl,g3,g4⟩ | ⟨g1,sz2,g2⟩
            · refine .inl ⟨a,sh,_,by rw[hρ2 h1]; exact g1,g2,pre,mid,post,rfl,g3,?_⟩
              rcases h4 with h4 | ⟨rfl,h4⟩
              · exact (rensR_ok h4 g4).ext2 ext2
              · exact h4.all2 g4
            · cases g2
              refine .inr ⟨by rw[hρ2 h1]; exact g1,sz,?_⟩
              rcases h4 with h4 | ⟨rfl,h4⟩
              · cases rows' with
                | nil=>rfl
                | cons c cs=>
                  simp only[rensR] at h4
                  split at h4
                  · cases h4
                  · cases h4
              · rfl
          · exact absurd (lk_mem q1) (backOk_none b1)
          · simp only at h1 h3
            subst h3
            rcases c3.ob p _ h2 with ⟨a,sh,o',g1,g2,g3,R',rfl,g4,g5,g6,g7⟩ | ⟨_,sz2,g2⟩
            · exact .inl ⟨a,sh,_,by rw[hρ2 h1]; exact g1,g2,g3,R',rfl,g4,g5,(rens_ok h4 g6).ext ext2,g7⟩
            · cases g2
          · simp only at h1 h3
            subst h3
            rcases c3.ob p _ h2 with ⟨a,sh,o',g1,g2,g3,es',rfl,g4,g5⟩ | ⟨_,sz2,g2⟩
            · exact .inl ⟨a,sh,_,by rw[hρ2 h1]; exact g1,g2,g3,es',rfl,g4,h4.all2 g5⟩
            · cases g2
          · simp only at h1 h3
            subst h3
            rcases c3.ob p _ h2 with ⟨a,sh,o',g1,g2,g3⟩ | ⟨_,sz2,g2⟩
            · exact .inl ⟨a,sh,_,by rw[hρ2 h1]; exact g1,g2,g3⟩
            · cases g2
      · rcases kindA hj e with ⟨x1,x2,x3,x4⟩ | ⟨p,x1,x2,x3⟩ <;> rcases kindA hj2 e2 with ⟨y1,y2,y3,y4⟩ | ⟨p',y1,y2,y3⟩
        · exact hR.hle.inj j j2 a sh sh' x1 y1 x3 y3
        · rcases c4.im p' a sh' y2 with ⟨i0,sh0,e0⟩ | hge
          · obtain⟨j0,i1,i2,i3⟩:=img e0
            have:=hR.hle.inj j j0 a sh sh0 x1 i3 x3 i2
            subst this
            exact absurd (lk_mem i1) (imgNot_ok x2 i0)
          · omega
        · rcases c4.im p a sh x2 with ⟨i0,sh0,e0⟩ | hge
          · obtain⟨j0,i1,i2,i3⟩:=img e0
            have:=hR.hle.inj j2 j0 a sh' sh0 y1 i3 y3 i2
            subst this
            exact absurd (lk_mem i1) (imgNot_ok y2 i0)
          · omega
        · have:=c3.inj p p' a sh sh' x3 y3 x2 y2
          subst this
          exact injB_ok b2 j j2 p (lk_mem x1) (lk_mem y1)
      · cases hj:lk f2 j with
        | none=>
          rw[hρ0 (fun p q=>by rw[hj] at q; cases q)] at e
          have:=hR.hle.lt j mm e
          omega
        | some o=>exact keysLt_ok b3 hj
      · have hn:s.n≤n1:=c4.le
        by_cases hj:∃ p,lk f2 j=some (some p)
        · obtain⟨p,hp⟩:=hj
          rw[hρ2 hp] at e
          exact c3.lt' p a sh e
        · rw[hρ0 fun p hp=>hj ⟨p,hp⟩] at e
          have:=hR.hle.lt' j a sh e
          omega
    have hfr:Fr ρ s.h s.n ρ2 hh n1:=by
      refine⟨c4.le,fun j hj hi=>c4.same j hj fun i0 sh0 e0=>?_,fun j a sh e=>?_,ext⟩
      · obtain⟨j0,_,i2,_⟩:=img e0
        exact hi j0 sh0 i2
      · by_cases hj:∃ p,lk f2 j=some (some p)
        · obtain⟨p,hp⟩:=hj
          rw[hρ2 hp] at e
          rcases c4.im p a sh e with ⟨i0,sh0,e0⟩ | hge
          · obtain⟨j0,_,i2,_⟩:=img e0
            exact .inl ⟨j0,sh0,i2⟩
          · exact .inr hge
        · rw[hρ0 fun p hp=>hj ⟨p,hp⟩] at e
          exact .inl ⟨j,sh,e⟩
    refine⟨⟨putT s.t d u,hh,n1⟩,?_,⟨ρ2,?_,hF.trans hfr⟩,?_⟩
    · rw[gOk_step (o:=⟨d,.call ⟨.value fo,args,ats⟩,ty,gd⟩) hR hg]
      unfold stepG
      simp only[callOf,h9,h1,c1]
    · exact putD_ok (hput r) ext hR.len hR.kv hle2 (fun i hi=>kok_av (by rw[hR.len]; exact putD_lt (hput r) hi) ((ren_ok (hw r) c2).ext ext2))
    · intro a i k z o e1 hi hn v hv2 id hid
      obtain⟨v',v1,v2⟩:=hR.kv a _ e1
      rw[hv2] at v1
      cases v1
      simp only[VLe] at v2
      obtain⟨A,sh,r1,rfl⟩:=v2
      simp only[idOf,List.mem_singleton] at hid
      subst hid
      refine c4.same _ (hR.hle.lt' i _ sh r1) fun i0 sh0 e0=>?_
      obtain⟨j0,i1,i2,i3⟩:=img e0
      have:=hR.hle.inj i j0 _ sh sh0 hi i3 r1 i2
      subst this
      exact imgNot_ok hn i0 (lk_mem i1)
theorem callM_step {d:Option Tmp} {g:FuncId} {args:Array Operand} {ats:Array TypeId} {ty:TypeId} {gd:Option (Tmp × Bool)} {vs0:List AV} {H0:List (Nat × AObj)} {k0 k1:Nat} {m1:Option β} {er:β→AV} {H1:β→List (Nat × AObj)}
    (f f2:List (Nat × Option Nat)) (H2:β→List (Nat × AObj)) (w:β→AV) (n2:Nat) {st1:β→CS} (hc:CtM E g vs0 H0 k0 m1 er H1 k1) (hA:AllP (HOk f st.H) H0) (hB:∀ r,AllP (HBk f f2 st.H (H1 r)) (H2 r))
    (hg:gOk st.K gd=true)
    (hvr:opnds (tl N st.K none) args.toList=rens f vs0) (hvs:(rens f vs0).isSome=true)
    (hf:(injB (inH H0 f) && keysLt k0 f && imgIn st.H f)=true) (hf2:(backOk f st.n f2 && injB f2 && keysLt n2 f2 && Nat.ble st.n n2)=true)
    (hw:∀ r,ren f2 (w r)=some (er r)) (hput:∀ r,putD N ⟨st.K,H2 r,n2⟩ d (.av (w r))=some (st1 r)) {s:St} (hs2:At N F st s) {r:β} (hm:m1=some r) :
    ∃ s2,stepL E lit ⟨d,.call ⟨.value (.func g),args,ats⟩,ty,gd⟩ s=some s2∧At N F (st1 r) s2 ∧
      ∀ a i k z o,lk st.K a=some (.av (.ptr i k z o))→(lk st.H i).isSome=true→imgNot i f=true→∀ v,s.t[a]? = some v→∀ id∈idOf v,s2.h id=s.h id:=by
  obtain⟨vs,hr⟩:=Option.isSome_iff_exists.1 hvs
  exact callMV_step f f2 H2 w n2 (fo:=.func g) (caps:=[]) (avs:=vs) hc hA hB hg rfl (hvr.trans hr) (by rw[List.append_nil]; exact hr.symm) hf hf2 hw hput hs2 hm
theorem jr_callM {R:List LO} (i:Nat) {d:Option Tmp} {g:FuncId} {args:Array Operand} {ats:Array TypeId} {ty:TypeId} {gd:Option (Tmp × Bool)} {vs0:List AV} {H0:List (Nat × AObj)} {k0 k1:Nat} {m1:Option β} {er:β→AV} {H1:β→List (Nat × AObj)}
    (f f2:List (Nat × Option Nat)) (H2:β→List (Nat × AObj)) (w:β→AV) (n2:Nat) {st1:β→CS} {q:β→Option α} (hc:CtM E g vs0 H0 k0 m1 er H1 k1) (hA:AllP (HOk f st.H) H0) (hB:∀ r,AllP (HBk f f2 st.H (H1 r)) (H2 r))
    (hk:∀ r,m1=some r→JR E N F lit (q r) (R.drop (i + 1)) (st1 r) Q)
    (ho:R[i]? = some ⟨d,.call ⟨.value (.func g),args,ats⟩,ty,gd⟩:=by rfl) (hg:gOk st.K gd=true:=by rfl)
    (hvr:opnds (tl N st.K none) args.toList=rens f vs0:=by kernel_rfl) (hvs:(rens f vs0).isSome=true:=by kernel_rfl)
    (hf:(injB (inH H0 f) && keysLt k0 f && imgIn st.H f)=true:=by rfl) (hf2:(backOk f st.n f2 && injB f2 && keysLt n2 f2 && Nat.ble st.n n2)=true:=by rfl)
    (hw:∀ r,ren f2 (w r)=some (er r):=by exact fun _=>rfl) (hput:∀ r,putD N ⟨st.K,H2 r,n2⟩ d (.av (w r))=some (st1 r):=by exact fun _=>rfl):JR E N F lit (m1.bind q) (R.drop i) st Q:=fun s hs2 r2 hr2=>by
  cases hm:m1 with
  | none=>rw[hm] at hr2; cases hr2
  | some r=>
    rw[hm] at hr2
    obtain⟨s2,e1,e2,_⟩:=callM_step (lit:=lit) (ty:=ty) (ats:=ats) f f2 H2 w n2 hc hA hB hg hvr hvs hf hf2 hw hput hs2 hm
    rw[drop_of_get ho]
    exact⟨s2,e1,hk r hm s2 e2 r2 hr2⟩
end
end Go.Vm
/- Appending rows that may be empty. -/
namespace Go.Vm
open Go
theorem appendOf_same {P:Program} {h:AHeap} {n:Nat} {α:Type} {e:TypeId} {sz b:Nat} {x y:AV} {m:List α} {c:α→List AV} (he:elOk P e sz b=true) (hx:x=nilS∨x = .esl∨∃ i o l s,x = .osl i o l s) (hy:rowsOf h sz y=some (m.map c)) (hm:m=[]):appendOf P h n e x y=some (x,[]):=by
  obtain⟨h1,h2,⟨z,h3,h4⟩,h5⟩:=elOk_iff he
  unfold appendOf
  simp only[h1,h2,hy,h3,Option.bind_eq_bind,Option.bind_some]
  rw[if_neg (by omega),if_pos (by simpa using hm)]
  rcases hx with rfl | rfl | ⟨i,o,l,s,rfl⟩ <;> rfl
section
variable {α β:Type} {E:Env} {N:Nat} {F:Fx} {lit:Bool} {st:CS} {Q:α→AX→St→Prop}
theorem jr_two {R:List LO} {i:Nat} {o:LO} {mo:Option β} {f:β→Option α} {C:Prop} {v1:β→AV} {us1:β→Ups} {v2:β→AV} {sA sB st1:β→CS} (ho:R[i]? = some o) (hg:gOk st.K o.g=true) (hc:(isCallV o.op || (lit && isLit o.op))=false) (hn:noShut o.op=true)
    (h1:¬C→∀ a,mo=some a→aop E.P o.oper (tl N st.K none) (hl st.H) st.n=some (v1 a,us1 a)) (h2:C→∀ a,mo=some a→aop E.P o.oper (tl N st.K none) (hl st.H) st.n=some (v2 a,[]))
    (hp1:∀ a,putD N ⟨st.K,updH st.H (us1 a),st.n + kN o.op⟩ o.dst (.av (v1 a))=some (sA a)) (hp2:∀ a,putD N ⟨st.K,st.H,st.n + kN o.op⟩ o.dst (.av (v2 a))=some (sB a))
    (w1:∀ a,Wk N F (sA a) (st1 a)) (w2:C→∀ a,mo=some a→Wk N F (sB a) (st1 a))
    (hk:∀ a,mo=some a→JR E N F lit (f a) (R.drop (i + 1)) (st1 a) Q):JR E N F lit (mo.bind f) (R.drop i) st Q:=fun s hs r hr=>by
  cases hm:mo with
  | none=>rw[hm] at hr; cases hr
  | some a=>
    rw[hm] at hr
    by_cases hC:C
    · exact jr_aop (us:=[]) (drop_of_get ho) hg hc hn (h2 hC a hm) (hp2 a) (fun s hs r hr=>hk a hm s (w2 hC a hm s hs) r hr) s hs r hr
    · exact jr_aop (drop_of_get ho) hg hc hn (h1 hC a hm) (hp1 a) (fun s hs r hr=>hk a hm s (w1 a s hs) r hr) s hs r hr
end
theorem app_same {α:Type} {b:Nat} {l m r:List α} (hm:m=[]) (h:app b l m=some r):r=l:=by
  obtain⟨_,rfl⟩:=app_iff h
  rw[hm,List.append_nil]
end Go.Vm
/- Rows that the library sorts: known functions that change memory, and their contracts. -/
namespace Go.Vm
open Go
section
variable {α:Type}
def rowsD (dec:AV→Option α):List (List AV)→Option (List α)
  | []=>some []
  | [c] :: rs=>match dec c,rowsD dec rs with
    | some x,some xs=>some (x :: xs)
    | _,_=>none
  | _=>none
theorem rowsD_ok {dec:AV→Option α} {enc:α→Value} (hd:∀ c x,dec c=some x→c = .s (enc x)):∀ {rows:List (List AV)} {zs:List α},rowsD dec rows=some zs→rows=zs.map fun x=>[AV.s (enc x)]
  | [],zs,h=>by cases h; rfl
  | [c] :: rs,zs,h=>by
    unfold rowsD at h
    split at h
    · rename_i x xs h1 h2
      cases h
      rw[hd _ _ h1,rowsD_ok hd h2]
      rfl
    · cases h
  | [] :: rs,zs,h=>by cases h
  | (_ :: _ :: _) :: rs,zs,h=>by cases h
theorem all2_sr {ρ:Rn} {enc:α→Value}:∀ (l:List α),All2 (All2 (VLe ρ)) (l.map fun x=>[AV.s (enc x)]) (l.map fun x=>[AV.s (enc x)])
  | []=>trivial
  | x :: l=>⟨⟨VLe.s_refl _,trivial⟩,all2_sr l⟩
end
def decI:AV→Option Int
  | .s (.int .i64 z)=>some z
  | _=>none
theorem decI_ok (c:AV) (x:Int) (h:decI c=some x):c = .s (.int .i64 x):=by
  unfold decI at h
  split at h
  · cases h; rfl
  · cases h
end Go.Vm
/- A slice that may be nil, beside nil: both ways come to the same where it is empty. -/
namespace Go.Vm
open Go
abbrev nilC:Operand:=.const (.slice none 0 0)
def mayNil:AV→Prop
  | .osl _ _ len _=>len=0
  | .fsl _ rows=>rows=[]
  | .esl=>False
  | _=>True
section
variable {α β:Type} {E:Env} {N:Nat} {F:Fx} {lit:Bool} {st:CS} {Q:α→AX→St→Prop}
theorem jr_isnil {R:List LO} (i:Nat) {d:Tmp} {xt yt ty:TypeId} {x:Operand} {gd:Option (Tmp × Bool)} {v:AV} {C:Prop} {m mA:Option α} {stT stF:CS} {b:Bool} {op:BinOp} (hC:mayNil v→C) (hAB:C→m=mA)
    (hA:C→JR E N F lit mA (R.drop (i + 1)) stT Q) (hB:JR E N F lit m (R.drop (i + 1)) stF Q)
    (ho:R[i]? = some ⟨some d,.binOp op xt x nilC yt,ty,gd⟩:=by rfl) (hg:gOk st.K gd=true:=by rfl) (hv:opnd (tl N st.K none) x=some v:=by kernel_rfl) (hr:(∃ id off len sz,v = .osl id off len sz)∨(∃ sz rows,v = .fsl sz rows))
    (hu:nilL E.P op xt nilC=some b:=by kernel_rfl) (hn:pureOp E.P (fun _=>.slice none 0 0) (LO.oper ⟨some d,.binOp op xt x nilC yt,ty,gd⟩)=some (bv (!b)):=by kernel_rfl)
    (hpT:putD N st (some d) (.av (bv (!b)))=some stT:=by rfl) (hpF:putD N st (some d) (.av (bv b))=some stF:=by rfl):JR E N F lit m (R.drop i) st Q:=fun s hs r hr2=>by
  obtain⟨ρ,hR,hF⟩:=hs
  obtain⟨v',h1,h2⟩:=opnd_sim (tl_le hR.len hR.kv (a:=none) (fun q e=>by cases e)) hv
  rw[drop_of_get ho]
  have hy:opnd s.t nilC=some nilS:=rfl
  have key:∀ c:Bool,aop E.P (LO.oper ⟨some d,.binOp op xt x nilC yt,ty,gd⟩) s.t s.h s.n=some (bv c,[])→stepL E lit ⟨some d,.binOp op xt x nilC yt,ty,gd⟩ s=some ⟨putT s.t (some d) (bv c),s.h,s.n⟩:=fun c e=>by
    rw[gOk_step (o:=⟨some d,.binOp op xt x nilC yt,ty,gd⟩) hR hg]
    unfold stepG
    simp only[e]
    rfl
  have fin:∀ (c:Bool) (st1:CS),putD N st (some d) (.av (bv c))=some st1→At N F st1 ⟨putT s.t (some d) (bv c),s.h,s.n⟩:=fun c st1 hp=>
    ⟨ρ,putD_ok hp (fun _ _ e=>e) hR.len hR.kv hR.hle (fun j hj=>kok_av (by rw[hR.len]; exact putD_lt hp hj) (VLe.s_refl _)),hF⟩
  have notNil:(∃ id off len sz,v' = .osl id off len sz)∨(∃ sz rows,v' = .fsl sz rows)∨v' = .esl→∃ s',stepL E lit ⟨some d,.binOp op xt x nilC yt,ty,gd⟩ s=some s'∧wpR E lit (R.drop (i + 1)) s' (fun s'=>Q r .normal s'):=fun hc=>by
    refine⟨_,key b ?_,hB _ (fin b _ hpF) r hr2⟩
    have hp:isPlain s.t x=false:=by
      unfold isPlain
      rw[h1]
      rcases hc with ⟨_,_,_,_,rfl⟩ | ⟨_,_,rfl⟩ | rfl <;> rfl
    unfold aop
    simp only[LO.oper,hp,Bool.false_and,Bool.false_eq_true,if_false]
    have:nilT E.P op xt nilC (opnd s.t x)=some b:=by
      rw[h1]
      rcases hc with ⟨_,_,_,_,rfl⟩ | ⟨_,_,rfl⟩ | rfl <;> exact hu
    rw[this]
    rfl
  have isNil:mayNil v→v' = nilS→∃ s',stepL E lit ⟨some d,.binOp op xt x nilC yt,ty,gd⟩ s=some s'∧wpR E lit (R.drop (i + 1)) s' (fun s'=>Q r .normal s'):=fun hm e=>by
    subst e
    have hc:=hC hm
    refine⟨_,key (!b) ?_,hA hc _ (fin (!b) _ hpT) r (by rw[← hAB hc]; exact hr2)⟩
    have hp:isPlain s.t x=true:=by unfold isPlain; rw[h1]; rfl
    have hp2:isPlain s.t nilC=true:=rfl
    have e1:plainNd s.t x = .slice none 0 0:=by unfold plainNd; rw[h1]; rfl
    have e2:plainNd s.t nilC = .slice none 0 0:=rfl
    unfold aop
    simp only[LO.oper,hp,hp2,Bool.and_self,if_true,e1,e2]
    have e3:binV op (.slice none 0 0) (.slice none 0 0)=none:=by unfold binV; cases op <;> rfl
    rw[e3]
    have e4:pureOp E.P (plainNd s.t) (LO.oper ⟨some d,.binOp op xt x nilC yt,ty,gd⟩)=some (bv (!b)):=by
      rw[← hn]
      unfold pureOp
      simp only[execOp,LO.oper,e1,e2]
    simp only[LO.oper] at e4
    rw[e4]
    rfl
  rcases hr with ⟨id,off,len,sz,rfl⟩ | ⟨sz,rows,rfl⟩
  · have h3:=h2
    simp only[VLe] at h3
    rcases h3 with ⟨a,sh,_,rfl⟩ | ⟨_,_,e2,rfl | rfl⟩
    · exact notNil (.inl ⟨_,_,_,_,rfl⟩)
    · exact isNil e2 rfl
    · exact notNil (.inr (.inr rfl))
  · rcases VLe.fsl_iff.1 h2 with ⟨rs,rfl,_⟩ | ⟨e,rfl | rfl⟩
    · exact notNil (.inr (.inl ⟨_,_,rfl⟩))
    · exact isNil e rfl
    · exact notNil (.inr (.inr rfl))
end
theorem mayF {α:Type} {c:α→List AV} {l:List α} {n:Nat} (h:mayNil (.fsl n (l.map c))):l=[]:=List.map_eq_nil_iff.1 h
end Go.Vm
/- Numbers as texts: a known function that reads a table. -/
namespace Go.Vm
open Go
def itoaP:List AV→Option AV
  | [.s (.int .i64 n)]=>if -9223372036854775808≤n∧n≤9223372036854775807 then some (.s (.string ⟨(Lib.itoa n).toArray⟩)) else none
  | _=>none
def strconv_Itoa (n:Int):Option Str:=if -9223372036854775808≤n∧n≤9223372036854775807 then some (Lib.itoa n) else none
end Go.Vm
/- Own memory that begins with an array whose places are asked for by numbers. -/
namespace Go.Vm
open Go
section
variable {α:Type} {P:Program} {t:List AV} {h:AHeap} {n:Nat} {d:Option Tmp} {ty:TypeId} {gd:Option (Tmp × Bool)}
end
theorem rens_seg {α:Type} {f:List (Nat × Option Nat)} {c:α→AV} (hc:∀ a,ren f (c a)=some (c a)) {rest rest':List AV} (h:rens f rest' = some rest):∀ L:List α,rens f (L.map c ++ rest')=some (L.map c ++ rest)
  | []=>h
  | a :: L=>by
    show rens f (c a :: (L.map c ++ rest'))=_
    unfold rens
    rw[hc a,rens_seg hc h L]
    rfl
theorem hA {α:Type} {f:List (Nat × Option Nat)} {H:List (Nat × AObj)} {c:α→AV} {L:List α} {rest rest':List AV} {i sz:Nat} (j:Nat) (hc:∀ a,ren f (c a)=some (c a):=by exact fun _=>rfl) (h1:lk f i=some (some j):=by rfl) (h2:lk H j=some (.rows sz [L.map c ++ rest]):=by rfl) (h4:rens f rest' = some rest:=by kernel_rfl):HOk f H (i,.rows sz [L.map c ++ rest']):=
  .inl ⟨j,_,_,_,h1,h2,rfl,.inl (by
    unfold rensR
    rw[rens_seg hc h4 L]
    rfl)⟩
end Go.Vm
/- Rows that the library sorts by a comparison that is handed on: known functions that change memory, and their contracts. -/
namespace Go.Vm
open Go
section
variable {α:Type}
def sortOM1 (dec:AV→Option α) (enc:α→Value) (srt:List α→Option (List α)) (a:AV) (h:AHeap) (n:Nat):Option (AV × AHeap × Nat):=
  match a with
  | .osl id off len 1=>
    if len=0 then some (.tup [],h,n) else
    match h id with
    | some (.rows 1 R)=>match rowsD dec ((R.drop off).take len) with
      | some zs=>match srt zs with
        | some zs'=>if zs.length=len∧len < 4611686018427387904 then some (.tup [],h.put id (some (.rows 1 (R.take off ++ (zs'.map fun x=>[AV.s (enc x)]) ++ R.drop (off + len)))),n) else none
        | none=>none
      | none=>none
    | _=>none
  | .s (.slice none 0 0)=>some (.tup [],h,n)
  | .esl=>some (.tup [],h,n)
  | _=>none
def sortOM (gc:FuncId) (dec:AV→Option α) (enc:α→Value) (srt:List α→Option (List α)) (args:List AV) (h:AHeap) (n:Nat):Option (AV × AHeap × Nat):=
  match args with
  | [a,.fn f []]=>if f=gc then sortOM1 dec enc srt a h n else none
  | _=>none
end
end Go.Vm
/- Rows of literals in the order of their variables. -/
namespace Go.Vm
open Go
def srtSz (l:List Int):Option (List Int):=if (l.all fun x=>decide (x.natAbs≤4096))=true∧(l.map Int.natAbs).Nodup then some (l.mergeSort fun x y=>!decide ((y.natAbs:Int) - x.natAbs < 0)) else none
theorem srtSz_len (zs zs':List Int) (h:srtSz zs=some zs'):zs'.length=zs.length:=by
  unfold srtSz at h
  split at h
  · cases h
    exact (List.mergeSort_perm zs _).length_eq
  · cases h
end Go.Vm
/- Maps of whole numbers in canonical states. -/
namespace Go.Vm
open Go
def kvI (z:Int):Value:=.int .i64 z
def oM (l:List (Int × Int)):List (Value × AV):=l.map fun e=>(kvI e.1,iv e.2)
def fM (l:List (Int × Int)):List (Value × Value):=l.map fun e=>(kvI e.1,kvI e.2)
def mget:List (Int × Int)→Int→Int
  | [],_=>0
  | e :: l,k=>if e.1=k then e.2 else mget l k
def mput:List (Int × Int)→Int→Int→List (Int × Int)
  | [],k,v=>[(k,v)]
  | e :: l,k,v=>if e.1=k then (k,v) :: l else e :: mput l k v
def mat:List (Int × Int)→Int→Nat→Option (Nat × Int)
  | [],_,_=>none
  | e :: l,k,i=>if e.1=k then some (i,e.2) else mat l k (i + 1)
theorem findA_oM (k:Int):∀ (l:List (Int × Int)) (i:Nat),findA (.int .i64) (kvI k) (oM l) i=some ((mat l k i).map fun p=>(p.1,iv p.2))
  | [],i=>rfl
  | e :: l,i=>by
    simp only[oM,List.map_cons,findA,kvI,Instr.sameNow,if_true,mat]
    by_cases h:e.1=k
    · subst h; simp
    · have:(k == e.1)=false:=by simpa using fun q=>h q.symm
      rw[this,if_neg h]
      exact findA_oM k l (i + 1)
theorem mat_none {l:List (Int × Int)} {k:Int}:∀ {i:Nat},mat l k i=none→mget l k=0∧∀ v,mput l k v=l ++ [(k,v)]:=by
  induction l with
  | nil=>intro i _; exact⟨rfl,fun v=>rfl⟩
  | cons e l ih=>
    intro i h
    simp only[mat] at h
    split at h
    · cases h
    · rename_i hk
      obtain⟨h1,h2⟩:=ih h
      exact⟨by simp only[mget,if_neg hk,h1],fun v=>by simp only[mput,if_neg hk,h2,List.cons_append]⟩
theorem mat_some {l:List (Int × Int)} {k:Int}:∀ {i j:Nat} {v:Int},mat l k i=some (j,v)→∃ p,j=i + p∧mget l k=v∧∀ w,mput l k w=l.set p (k,w):=by
  induction l with
  | nil=>intro i j v h; cases h
  | cons e l ih=>
    intro i j v h
    simp only[mat] at h
    split at h
    · rename_i hk
      cases h
      exact⟨0,rfl,by simp only[mget,if_pos hk],fun w=>by simp only[mput,if_pos hk,List.set_cons_zero]⟩
    · rename_i hk
      obtain⟨p,h1,h2,h3⟩:=ih h
      exact⟨p + 1,by omega,by simp only[mget,if_neg hk,h2],fun w=>by simp only[mput,if_neg hk,h3,List.set_cons_succ]⟩
section
variable {P:Program} {t:List AV} {h:AHeap} {n:Nat} {d:Option Tmp} {ty:TypeId} {gd:Option (Tmp × Bool)}
theorem seekA_oM {kt:TypeId} (hk:P.underlying kt=some (.int .i64)) (l:List (Int × Int)) (k:Int):seekA P kt (kvI k) (oM l)=some ((mat l k 0).map fun p=>(p.1,iv p.2)):=by
  unfold seekA
  rw[if_pos (by simp[keyOk,hk,kvI]),hk]
  exact findA_oM k l 0
theorem lookA_oM {kt et:TypeId} (hk:P.underlying kt=some (.int .i64)) (hz:zero1 P et=some (iv 0)) (l:List (Int × Int)) (k:Int):lookA P et false (seekA P kt (kvI k) (oM l))=some (iv (mget l k)):=by
  rw[seekA_oM hk]
  cases e:mat l k 0 with
  | none=>
    simp only[Option.map_none,lookA,hz,Option.map_some,(mat_none e).1]
    rfl
  | some p=>
    obtain⟨j,v⟩:=p
    obtain⟨_,_,h2,_⟩:=mat_some e
    simp only[Option.map_some,lookA,h2]
    rfl
theorem putA_oM {kt:TypeId} (hk:P.underlying kt=some (.int .i64)) (l:List (Int × Int)) (k v:Int):putA P kt (kvI k) (iv v) (oM l)=some (oM (mput l k v)):=by
  unfold putA
  rw[seekA_oM hk]
  cases e:mat l k 0 with
  | none=>
    simp only[Option.map_none,(mat_none e).2,oM,List.map_append,List.map_cons,List.map_nil]
  | some p=>
    obtain⟨j,u⟩:=p
    obtain⟨q,h1,_,h3⟩:=mat_some e
    rw[Nat.zero_add] at h1
    subst h1
    simp only[Option.map_some,h3,oM,List.map_set]
theorem aop_look {mt kt et:TypeId} {x k:Operand} {id:Nat} {l:List (Int × Int)} {kk:Int} (hu:P.underlying mt=some (.map kt et)) (hk:P.underlying kt=some (.int .i64)) (hz:zero1 P et=some (iv 0)) (hx:opnd t x=some (.mp id)) (hm:h id=some (.map (oM l))) (hkv:opnd t k=some (iv kk)) :
    aop P (LO.oper ⟨d,.lookup mt x k false,ty,gd⟩) t h n=some (iv (mget l kk),[]):=by
  unfold aop mapOp
  simp only[LO.oper,hu,hx,hkv,Option.bind_some,mapOf,hm]
  show Option.map _ (lookA P et false (seekA P kt (kvI kk) (oM l)))=_
  rw[lookA_oM hk hz]
  rfl
theorem aop_lookF {mt kt et:TypeId} {x k:Operand} {l:List (Int × Int)} {kk:Int} (hu:P.underlying mt=some (.map kt et)) (hk:P.underlying kt=some (.int .i64)) (hz:zero1 P et=some (iv 0)) (hx:opnd t x=some (.fmp (fM l))) (hkv:opnd t k=some (iv kk)) :
    aop P (LO.oper ⟨d,.lookup mt x k false,ty,gd⟩) t h n=some (iv (mget l kk),[]):=by
  have e:(fM l).map (fun e=>(e.1,ofVal e.2))=oM l:=by simp[fM,oM,kvI,Function.comp_def,iv,ofVal]
  unfold aop mapOp
  simp only[LO.oper,hu,hx,hkv,Option.bind_some,mapOf,e]
  show Option.map _ (lookA P et false (seekA P kt (kvI kk) (oM l)))=_
  rw[lookA_oM hk hz]
  rfl
theorem aop_mput {mt kt et:TypeId} {x k y:Operand} {id:Nat} {l:List (Int × Int)} {kk v:Int} (hu:P.underlying mt=some (.map kt et)) (hk:P.underlying kt=some (.int .i64)) (hx:opnd t x=some (.mp id)) (hm:h id=some (.map (oM l))) (hkv:opnd t k=some (iv kk)) (hy:opnd t y=some (iv v)) :
    aop P (LO.oper ⟨d,.mapUpdate mt x k y,ty,gd⟩) t h n=some (.s undef,[(id,some (.map (oM (mput l kk v))))]):=by
  unfold aop mapOp
  have ht:toVal (iv kk)=some (kvI kk):=rfl
  simp only[LO.oper,hu,hx,hkv,hy,Option.bind_some,ht,hm,putA_oM hk,Option.map_some]
theorem aop_lenm {at' kt et:TypeId} {x:Operand} {id:Nat} {l:List (Int × Int)} (hu:P.underlying at' = some (.map kt et)) (hty:mapTy (some at')=true) (hx:opnd t x=some (.mp id)) (hm:h id=some (.map (oM l))) :
    aop P (LO.oper ⟨d,.call ⟨.builtin .len,#[x],#[at']⟩,ty,gd⟩) t h n=some (iv (l.length:Int),[]):=by
  unfold aop
  simp only[LO.oper,hx]
  simp only[List.getElem?_toArray,List.getElem?_cons_zero,Option.bind_some,hu,hty,if_true,hm,oM,List.length_map]
theorem noids_oM (l:List (Int × Int)):NoIds ((oM l).map (·.2)):=fun v hv=>by
  simp only[oM,List.map_map,List.mem_map] at hv
  obtain⟨e,_,rfl⟩:=hv
  exact noid_s _
theorem hM {f:List (Nat × Option Nat)} {H:List (Nat × AObj)} {i:Nat} {l l':List (Int × Int)} (j:Nat) (h1:lk f i=some (some j):=by rfl) (h2:lk H j=some (.map (oM l)):=by rfl) (h4:l' = l:=by rfl):HOk f H (i,.map (oM l')):=
  .inr (.inr (.inr (.inl ⟨j,oM l',h1,h4 ▸ h2,rfl,noids_oM l'⟩)))
theorem plain_oM:∀ l:List (Int × Int),plainEs (oM l)=some (fM l)
  | []=>rfl
  | e :: l=>by
    have:=plain_oM l
    simp only[oM,fM] at this
    simp only[oM,fM,List.map_cons,plainEs,iv,this,Option.map_some]
    rfl
theorem snapc_mp {h:AHeap} {k id:Nat} {l:List (Int × Int)} (hh:h id=some (.map (oM l))):snapc h (k + 1) (.mp id)=some (.fmp (fM l),true):=by
  simp only[snapc,hh,plain_oM,Option.map_some]
theorem snapc_fn {h:AHeap} {k:Nat} {f:FuncId} {cs ds:List AV} {b:Bool} (hs:snapL (snapc h k) cs=some (ds,b)):snapc h (k + 1) (.fn f cs)=some (.fn f ds,b):=by
  simp only[snapc,hs,Option.map_some]
theorem snapc_ptr {h:AHeap} {k id i sz off:Nat} {row ds:List AV} {b:Bool} (hr:rowAt h id i sz=some row) (hs:snapL (snapc h k) row=some (ds,b)):snapc h (k + 1) (.ptr id i sz off)=some (.fptr ds off,true):=by
  simp only[snapc,hr,hs,Option.map_some]
end
end Go.Vm
/- Numbers laid behind rows of bytes; texts as numbers: known functions. -/
namespace Go.Vm
open Go
def appUM (P:Program) (e:TypeId) (args:List AV) (h:AHeap) (n:Nat):Option (AV × AHeap × Nat):=
  match args with
  | [u,.s (.int .u64 z),.s (.int .i64 b)]=>
    if b=10∧0≤z∧z < 18446744073709551616 then
      (appendOf P h n e u (.s (.string ⟨(Lib.decDigits z.toNat).toArray⟩))).map fun r=>(r.1,h.upd r.2,n + 1)
    else none
  | _=>none
def bytesI (l:List UInt8):List Int:=l.map fun b=>(b.toNat:Int)
theorem decDigits_ne (u:Nat):Lib.decDigits u≠[]:=by
  unfold Lib.decDigits
  split <;> simp
theorem rows_str {h:AHeap} (l:List UInt8):rowsOf h 1 (.s (.string ⟨l.toArray⟩))=some ((bytesI l).map cB):=by
  simp only[rowsOf,if_true,bytesI,List.map_map]
  rfl
def atoiV (l:List UInt8):Int:=
  match Lib.atoiAll l with
  | .ok v=>v
  | .range=>Lib.atoiSat l
  | _=>0
def atoiP (args:List AV):Option AV:=
  match args with
  | [.s (.string b)]=>if b.size≤281474976710656 then some (.tup [.s (.int .i64 (atoiV b.data.toList)),.any]) else none
  | _=>none
def strconv_Atoi (s:Str):Option Int:=if s.length≤281474976710656 then some (atoiV s) else none
theorem strconv_Atoi_ct {E:Env} {g:FuncId} (hp:E.prim g=some atoiP) (s:Str):Ct E g [bs s] (strconv_Atoi s) (fun r:Int=>.tup [iv r,.any]):=
  ct_prim (p:=atoiP) hp rfl (fun r hr=>by
    unfold strconv_Atoi at hr
    split at hr
    · rename_i hs
      cases hr
      simp only[atoiP]
      rw[if_pos (by simpa[ByteArray.size] using hs)]
    · cases hr) (fun r=>VLe.tup_iff.2 ⟨_,rfl,VLe.s_refl _,by simp[VLe],trivial⟩)
end Go.Vm
/- Maps of functions, by words; ways that part inside a region. -/
namespace Go.Vm
open Go
theorem hK {f:List (Nat × Option Nat)} {H:List (Nat × AObj)} {i:Nat} {es:List (Value × AV)} (j:Nat) (hn:NoIds (es.map (·.2))) (h1:lk f i=some (some j):=by rfl) (h2:lk H j=some (.map es):=by rfl):HOk f H (i,.map es):=
  .inr (.inr (.inr (.inl ⟨j,es,h1,h2,rfl,hn⟩)))
section
variable {P:Program} {t:List AV} {h:AHeap} {n:Nat} {d:Option Tmp} {ty:TypeId} {gd:Option (Tmp × Bool)}
end
end Go.Vm

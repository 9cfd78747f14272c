/- Calls that change memory, regions whose order is open, and short words for what is printed. -/
import Derived.Test.YtdenfejaedgehaaGreatDoorCxd5673d16
import Derived.Lib.Join
import Derived.Lib.SlTrimSet
import Derived.Lib.IndexAny
import Derived.Lib.SlicesCompact
import Derived.Lib.ItoaNum
import Derived.Lib.AtoiAll
set_option linter.unusedVariables false
set_option linter.unusedSimpArgs false
set_option linter.unusedVariables false
namespace Go.Vm
open Go
abbrev lo (d:Nat) (o:Op) (t:TypeId):LO:=⟨some d,o,t,none⟩
abbrev lg (d:Nat) (o:Op) (t:TypeId) (g:Nat) (b:Bool):LO:=⟨some d,o,t,some (g,b)⟩
abbrev ln (o:Op) (t:TypeId):LO:=⟨none,o,t,none⟩
abbrev lm (d s:Nat) (t:TypeId):LO:=⟨some d,.move (.tmp s),t,none⟩
abbrev lmg (d s:Nat) (t:TypeId) (g:Nat) (b:Bool):LO:=⟨some d,.move (.tmp s),t,some (g,b)⟩
abbrev V (i:Nat) (v:AV):Nat × KV:=(i,.av v)
abbrev pt (i n:Nat):AV:=.ptr i 0 n 0
abbrev W (i n:Nat) (r:List AV):Nat × C0:=(i,.rows n [r])
def M7 {α:Type}:List (Nat × α)→List Nat
 | []=>[]
 | (i,_) :: l=>i :: M7 l
section
variable {α β σ τ:Type} {E:Env} {N:Nat} {F:Fx} {lit:Bool} {st:CS} {m:Option α} {Q:α→AX→St→Prop} {a b:LC}
theorem jG {R:List LO} (i k:Nat) (st1:CS) (h2:JR E N F lit m (R.drop (i + k)) st1 Q) (h:(tS E N lit ((R.drop i).take k) st).map (T8 (M7 st1.K) (M7 st1.H))=some st1:=by kernel_rfl):JR E N F lit m (R.drop i) st Q:=zA i k _ _ h h2
theorem jR {ops:List LO} (h:JR E N F lit m (ops.drop 0) st (AA9 E b Q)):JC E N F m (.seq (.reg lit ops) b) st Q:=Aj (CY h)
theorem jN {R:List LO} {i:Nat} (h:JC E N F m b st Q) (hi:R.drop i=[]:=by rfl):JR E N F lit m (R.drop i) st (AA9 E b Q):=Ad hi (Ab h)
theorem jS {R:List LO} (st1:CS) (h2:JC E N F m b st1 Q) (h:(tS E N lit R st).map (T8 (M7 st1.K) (M7 st1.H))=some st1:=by kernel_rfl):JC E N F m (.seq (.reg lit R) b) st Q:=
 jR (zA 0 R.length _ _ (by rw[List.drop_zero,List.take_length]; exact h) (jN h2 (by simp)))
theorem jT {R:List LO} (st1:CS) (h2:JX N F m .normal st1 Q) (h:(tS E N lit R st).map (T8 (M7 st1.K) (M7 st1.H))=some st1:=by kernel_rfl):JC E N F m (.reg lit R) st Q:=
 CY (zA 0 R.length _ _ (by rw[List.drop_zero,List.take_length]; exact h) (Ad (by simp) h2))
theorem jIf {g:Nat} {c:Bool} {m1 m2:Option α} (h1:JC E N F m1 a (W2 st g true) Q) (h2:JC E N F m2 b (W2 st g false) Q) (hl:lk st.K g=some (.av (bv c)):=by kernel_rfl):JC E N F (if c=true then m1 else m2) (.cond (.tmp g) a b) st Q:=AEM hl (fun _=>h1) (fun _=>h2)
theorem jSp (g:Nat) {c:Bool} {m1 m2:Option α} {l:List LO} (h1:JR E N F lit m1 l (W2 st g true) Q) (h2:JR E N F lit m2 l (W2 st g false) Q) (hl:lk st.K g=some (.av (bv c)):=by kernel_rfl):JR E N F lit (if c=true then m1 else m2) l st Q:=AC9 hl (fun _=>h1) (fun _=>h2)
theorem jK {R:List LO} (i:Nat) {d:Option Tmp} {g:FuncId} {args:Array Operand} {ats:Array TypeId} {ty:TypeId} {gd:Option (Tmp × Bool)} {vs:List AV} {m1:Option β} {er:β→AV} {f:β→Option α} {st1:β→CS} (hc:Ct E g vs m1 er)
 (hk:∀ r,m1=some r→JR E N F lit (f r) (R.drop (i + 1)) (st1 r) Q)
 (ho:R[i]? = some ⟨d,.call ⟨.value (.func g),args,ats⟩,ty,gd⟩:=by rfl) (hg:gOk st.K gd=true:=by rfl) (hp:E.prim g=none:=by rfl) (hpf:E.pf g=true:=by rfl)
 (hv:D5 (tl N st.K none) args.toList=some vs:=by kernel_rfl) (hs:B4 (Cj (hl st.H) depth) vs=some (vs,false):=by kernel_rfl) (hput:∀ r,FI N st d (.av (er r))=some (st1 r):=by exact fun _=>rfl):JR E N F lit (m1.bind f) (R.drop i) st Q:=
 By ho hg hp hpf hv hs (gD _) hc (fun _=>rfl) hput hk
end
section
variable {f:List (Nat × Option Nat)} {H:List (Nat × C0)}
theorem hC {i sz:Nat} {rows rows':List (List AV)} (j:Nat) (h1:lk f i=some (some j):=by rfl) (h2:lk H j=some (.rows sz rows):=by rfl) (h4:UF f rows' = some rows:=by kernel_rfl):HOk f H (i,.rows sz rows'):=.inl ⟨j,_,_,_,h1,h2,rfl,.inl h4⟩
theorem hL {i sz:Nat} {rows rows':List (List AV)} (j:Nat) (hn:tC rows') (h1:lk f i=some (some j):=by rfl) (h2:lk H j=some (.rows sz rows):=by rfl) (h4:rows' = rows:=by rfl):HOk f H (i,.rows sz rows'):=.inl ⟨j,_,_,_,h1,h2,rfl,.inr ⟨h4,h4 ▸ hn⟩⟩
theorem hZ {i sz:Nat} (h1:lk f i=some none:=by rfl):HOk f H (i,.rows sz []):=.inr (.inl ⟨h1,sz,rfl⟩)
end
theorem pc {α:Type} {P:α→Prop} {a:α} {as:List α} (h:P a) (k:QU P as):QU P (a :: as):=⟨h,k⟩
theorem wkR {N:Nat} {F:Fx} {st:CS} {K':List (Nat × KV)} {H':List (Nat × C0)} {n':Nat} (f:List (Nat × Option Nat)) (hF:ADr F f) (hH:QU (HOk f st.H) H')
 (hb:(YE K' && RZ (inH H' f) && HO n' f)=true:=by rfl) (hK:K'.map (fun p=>((lk st.K p.1).bind kvw).map some)=K'.map (fun p=>some ((kvw p.2).bind (ren f))):=by kernel_rfl):Wk N F st ⟨K',H',n'⟩:=AFc f hF hb hK hH
end Go.Vm
set_option linter.unusedSimpArgs false
namespace Go.Vm
open Go
def CtM {α:Type} (E:Env) (g:FuncId) (vs:List AV) (H:List (Nat × C0)) (k:Nat) (m:Option α) (er:α→AV) (H':α→List (Nat × C0)) (k':Nat):Prop:=
 ∀ r,m=some r→∀ ρ vs' h n,AI (VLe ρ) vs vs'→HLe ρ (hl H) k h n→∃ u h1 n1 ρ1,C1 E (FW E) g vs' h n=some (u,h1,n1)∧VLe ρ1 (er r) u∧HLe ρ1 (hl (H' r)) k' h1 n1∧Fr ρ h n ρ1 h1 n1
def ACO {α:Type} (E:Env) (rs:List ResultVar) (F:Fx) (er:α→AV) (H':α→List (Nat × C0)) (k':Nat):α→AX→St→Prop:=fun r x s=>
 (x = .normal∨x = .ret)∧∃ v,Ce E.P rs s.t s.h=some v∧∃ ρ1,VLe ρ1 (er r) v∧HLe ρ1 (hl (H' r)) k' s.h s.n∧Fr F.ρ F.h F.n ρ1 s.h s.n
section
variable {α β:Type} {E:Env} {N:Nat} {F:Fx} {lit:Bool} {st:CS} {m:Option α} {Q:α→AX→St→Prop} {L:LC} {x:AX}
theorem BY {rs:List ResultVar} {er:α→AV} {H':α→List (Nat × C0)} {k':Nat} {r:α} (st':CS) (hx:x = .normal∨x = .ret) (hw:Wk N F st st') (hr:Ce E.P rs (tl N st'.K none) (hl st'.H)=some (er r):=by kernel_rfl)
 (hs:YQ (M7 (H' r)) st'.H=H' r:=by kernel_rfl) (hn:st'.n=k':=by rfl):JX N F (some r) x st (ACO E rs F er H' k'):=fun s hs2 r2 hr2=>by
 cases hr2
 obtain⟨ρ,hR,hF⟩:=hw s hs2
 obtain⟨v',h1,h2⟩:=UG hR.hle (LN hR.len hR.kv (a:=none) (fun q e=>by cases e)) hr
 subst hn
 refine⟨hx,v',h1,ρ,h2,hR.hle.sub fun k o hk=>?_,hF⟩
 rw[← hs] at hk
 exact Ri hk
theorem B5 {g:FuncId} {rs:List ResultVar} {vs:List AV} {H:List (Nat × C0)} {k:Nat} {er:α→AV} {H':α→List (Nat × C0)} {k':Nat} (kf:Bf E g N rs L) (hpf:E.pf g=false) (hN:vs.length≤N)
 (hj:∀ F:Fx,(∀ i m,F.ρ i=some m→i < k)→JC E N F m L ⟨RP 0 vs,H,k⟩ (ACO E rs F er H' k')):CtM E g vs H k m er H' k':=fun r hr ρ vs' h n hv hH=>by
 have hat:At N ⟨ρ,h,n⟩ ⟨RP 0 vs,H,k⟩ ⟨vs' ++ List.replicate (N - vs'.length) (.s undef),h,n⟩:=by
  refine⟨ρ,⟨?_,fun i e hi=>?_,hH⟩,Fr.refl _ _ _⟩
  · have:=hv.length
    simp only[List.length_append,List.length_replicate]
    omega
  · obtain⟨v,k,rfl,rfl,h3⟩:=Vn hi
    obtain⟨v',h4,h5⟩:=hv.get h3
    refine⟨v',?_,h5⟩
    rw[Nat.zero_add]
    show (vs' ++ _)[k]? = _
    rw[List.getElem?_append_left]
    · exact h4
    · rcases Nat.lt_or_ge k vs'.length with hlt | hge
      · exact hlt
      · rw[List.getElem?_eq_none hge] at h4; cases h4
 obtain⟨x,s,⟨hx,v,h4,ρ1,h5,h6,h7⟩,h8⟩:=LB L _ _ (hj ⟨ρ,h,n⟩ hH.lt _ hat r hr)
 obtain⟨v2,h2,n2,e1,e2,e3,e4⟩:=AFi (Q:=fun v' h' n'=>v' = v∧h' = s.h∧n' = s.n) kf hpf (h8 _ ⟨hx,v,h4,rfl,rfl,rfl⟩)
 subst e2 e3 e4
 exact⟨_,_,_,ρ1,e1,h5,h6,h7⟩
theorem AEL {ρ:Rn} {H H':List (Nat × C0)} {n n' n2:Nat} {h:AW} (hle:HLe ρ (hl H) n h n2) (f:List (Nat × Option Nat)) (hb:(RZ (inH H' f) && HO n' f)=true) (hH:QU (HOk f H) H'):HLe (DX f ρ) (hl H') n' h n2:=by
 simp only[Bool.and_eq_true] at hb
 obtain⟨hb2,hb3⟩:=hb
 refine⟨fun i o ho=>?_,fun i j a sh sh' h1 h2 e1 e2=>?_,fun i m e=>?_,fun i a sh e=>?_⟩
 · rcases hH.mem (D1 ho) with ⟨j,sz,rows,rows',h1,h2,h3,h4⟩ | h1
   · simp only at h1 h3
     subst h3
     rcases hle.ob j _ h2 with ⟨a,sh,o',g1,g2,pre,mid,post,rfl,g3,g4⟩ | ⟨g1,sz2,g2⟩
     · refine .inl ⟨a,sh,_,by simp only[DX,h1]; exact g1,g2,pre,mid,post,rfl,g3,?_⟩
       rcases h4 with h4 | ⟨rfl,h4⟩
       · exact Wa h4 g4
       · exact h4.all2 g4
     · cases g2
       refine .inr ⟨by simp only[DX,h1]; exact g1,sz,?_⟩
       rcases h4 with h4 | ⟨rfl,h4⟩
       · cases rows' with
         | nil=>rfl
         | cons c cs=>
          simp only[UF] at h4
          split at h4
          · cases h4
          · cases h4
       · rfl
   · rcases h1 with ⟨h1,h2⟩ | ⟨j,R,tm,h1,h2,h3,h4⟩ | ⟨j,es,h1,h2,h3,h4⟩
     · exact .inr ⟨by simp only[DX,h1],h2⟩
     · simp only at h1 h3
       subst h3
       rcases hle.ob j _ h2 with ⟨a,sh,o',g1,g2,g3,R',rfl,g4,g5,g6,g7⟩ | ⟨_,sz2,g2⟩
       · exact .inl ⟨a,sh,_,by simp only[DX,h1]; exact g1,g2,g3,R',rfl,g4,g5,rens_ok h4 g6,g7⟩
       · cases g2
     · simp only at h1 h3
       subst h3
       rcases hle.ob j _ h2 with ⟨a,sh,o',g1,g2,g3,es',rfl,g4,g5⟩ | ⟨_,sz2,g2⟩
       · exact .inl ⟨a,sh,_,by simp only[DX,h1]; exact g1,g2,g3,es',rfl,g4,h4.all2 g5⟩
       · cases g2
 · have key:∀ i a sh,((hl H') i).isSome=true→DX f ρ i=some (.at a sh)→∃ p,lk f i=some (some p)∧(hl H p).isSome=true∧ρ p=some (.at a sh):=fun i a sh hi e=>by
    obtain⟨o,ho⟩:=Option.isSome_iff_exists.1 hi
    simp only[DX] at e
    rcases hH.mem (D1 ho) with ⟨p,sz,rows,rows',q1,q2,q3,q4⟩ | ⟨q1,q2⟩ | ⟨p,R,tm,q1,q2,q3,q4⟩ | ⟨p,es,q1,q2,q3,q4⟩
    · simp only at q1
      rw[q1] at e
      exact⟨p,q1,by simp only[hl,q2]; rfl,e⟩
    · simp only at q1
      rw[q1] at e
      cases e
    · simp only at q1
      rw[q1] at e
      exact⟨p,q1,by simp only[hl,q2]; rfl,e⟩
    · simp only at q1
      rw[q1] at e
      exact⟨p,q1,by simp only[hl,q2]; rfl,e⟩
   obtain⟨p,p1,p2,p3⟩:=key i a sh h1 e1
   obtain⟨q,q1,q2,q3⟩:=key j a sh' h2 e2
   have:=hle.inj p q a sh sh' p2 q2 p3 q3
   subst this
   exact Vi hb2 i j p (Sy (D1 p1) h1) (Sy (D1 q1) h2)
 · simp only[DX] at e
   split at e
   · rename_i j hj; exact Lm hb3 hj
   · rename_i hj; exact Lm hb3 hj
   · cases e
 · simp only[DX] at e
   split at e
   · exact hle.lt' _ _ _ e
   · cases e
   · cases e
def Vh (H:List (Nat × C0)):List (Nat × Option Nat)→Bool
 | []=>true
 | (_,some j) :: l=>(lk H j).isSome && Vh H l
 | (_,none) :: l=>Vh H l
theorem bZ {H:List (Nat × C0)} {i j:Nat}:∀ {f:List (Nat × Option Nat)},Vh H f=true→(i,some j)∈f→(lk H j).isSome=true
 | (_,some k) :: l,h,hm=>by
  simp only[Vh,Bool.and_eq_true] at h
  rcases List.mem_cons.1 hm with e | hm
  · cases e; exact h.1
  · exact bZ h.2 hm
 | (_,none) :: l,h,hm=>by
  rcases List.mem_cons.1 hm with e | hm
  · cases e
  · exact bZ (f:=l) (by simpa[Vh] using h) hm
def Lu (f:List (Nat × Option Nat)) (n:Nat):List (Nat × Option Nat)→Bool
 | []=>true
 | (j,some p) :: l=>(Nat.ble n j || (match lk f p with | some (some q)=>Nat.beq q j | _=>false)) && Lu f n l
 | (_,none) :: _=>false
theorem KB {f:List (Nat × Option Nat)} {n j:Nat}:∀ {l:List (Nat × Option Nat)},Lu f n l=true→(j,none)∉l
 | (_,some p) :: l,h,hm=>by
  simp only[Lu,Bool.and_eq_true] at h
  rcases List.mem_cons.1 hm with e | hm
  · cases e
  · exact KB h.2 hm
 | (_,none) :: l,h,hm=>by simp[Lu] at h
 | [],_,hm=>by cases hm
theorem YG {f:List (Nat × Option Nat)} {n j p:Nat}:∀ {l:List (Nat × Option Nat)},Lu f n l=true→(j,some p)∈l→n≤j∨lk f p=some (some j)
 | (k,some q) :: l,h,hm=>by
  simp only[Lu,Bool.and_eq_true,Bool.or_eq_true] at h
  rcases List.mem_cons.1 hm with e | hm
  · cases e
    rcases h.1 with h | h
    · exact .inl (Nat.le_of_ble_eq_true h)
    · right
      split at h
      · rename_i r hr
        rw[hr,Df h]
      · cases h
  · exact YG h.2 hm
 | (_,none) :: l,h,hm=>by simp[Lu] at h
def HBk (f f2:List (Nat × Option Nat)) (H H1:List (Nat × C0)) (p:Nat × C0):Prop:=(lk H p.1=some p.2∧Hj p.1 f=true)∨HOk f2 H1 p
theorem tQ {d:Option Tmp} {fo:Operand} {caps avs:List AV} {g:FuncId} {args:Array Operand} {ats:Array TypeId} {ty:TypeId} {gd:Option (Tmp × Bool)} {vs0:List AV} {H0:List (Nat × C0)} {k0 k1:Nat} {m1:Option β} {er:β→AV} {H1:β→List (Nat × C0)}
 (f f2:List (Nat × Option Nat)) (H2:β→List (Nat × C0)) (w:β→AV) (n2:Nat) {st1:β→CS} (hc:CtM E g vs0 H0 k0 m1 er H1 k1) (hA:QU (HOk f st.H) H0) (hB:∀ r,QU (HBk f f2 st.H (H1 r)) (H2 r))
 (hg:gOk st.K gd=true)
 (hfo:A0 (tl N st.K none) fo=some (.fn g caps)) (hav:D5 (tl N st.K none) args.toList=some avs) (hvr:some (avs ++ caps)=rens f vs0)
 (hf:(RZ (inH H0 f) && HO k0 f && Vh st.H f)=true) (hf2:(Lu f st.n f2 && RZ f2 && HO n2 f2 && Nat.ble st.n n2)=true)
 (hw:∀ r,ren f2 (w r)=some (er r)) (hput:∀ r,FI N ⟨st.K,H2 r,n2⟩ d (.av (w r))=some (st1 r)) {s:St} (hs2:At N F st s) {r:β} (hm:m1=some r) :
 ∃ s2,Og E lit ⟨d,.call ⟨.value fo,args,ats⟩,ty,gd⟩ s=some s2∧At N F (st1 r) s2 ∧
  ∀ a i k z o,lk st.K a=some (.av (.ptr i k z o))→(lk st.H i).isSome=true→Hj i f=true→∀ v,s.t[a]? = some v→∀ id∈EL v,s2.h id=s.h id:=by
 obtain⟨ρ,hR,hF⟩:=hs2
 have hr:=hvr.symm
 simp only[Bool.and_eq_true] at hf hf2
 obtain⟨⟨f1,f3⟩,f4⟩:=hf
 obtain⟨⟨⟨b1,b2⟩,b3⟩,b4⟩:=hf2
 have b4:=Nat.le_of_ble_eq_true b4
 obtain⟨avs',h1,h2a⟩:=Jb (LN hR.len hR.kv (a:=none) (fun q e=>by cases e)) hav
 obtain⟨fv,h9,h10⟩:=BZ (LN hR.len hR.kv (a:=none) (fun q e=>by cases e)) hfo
 obtain⟨caps',rfl,h11⟩:=VLe.fn_iff.1 h10
 have h2:=h2a.append h11
 have hle0:=AEL hR.hle f (n':=k0) (H':=H0) (by rw[f1,f3]; rfl) hA
 obtain⟨u,hh,n1,ρ1,c1,c2,c3,c4⟩:=hc r hm (DX f ρ) (avs' ++ caps') s.h s.n (rens_ok hr h2) hle0
 let ρ2:Rn:=fun j=>match lk f2 j with | some (some p)=>ρ1 p | _=>ρ j
 have hρ2:∀ {j p},lk f2 j=some (some p)→ρ2 j=ρ1 p:=fun {j p} e=>by simp only[ρ2,e]
 have hρ0:∀ {j},(∀ p,lk f2 j≠some (some p))→ρ2 j=ρ j:=fun {j} e=>by
  simp only[ρ2]
 have ext:Ext ρ ρ2:=fun j mm e=>by
  cases hj:lk f2 j with
  | none=>rw[hρ0 (fun p q=>by rw[hj] at q; cases q)]; exact e
  | some o=>
   cases o with
   | none=>exact absurd (D1 hj) (KB b1)
   | some p=>
    rw[hρ2 hj]
    rcases YG b1 (D1 hj) with hn | hp
    · have:=hR.hle.lt j mm e; omega
    · exact c4.ext p mm (by simp only[DX,hp]; exact e)
 have ext2:Ext (DX f2 ρ1) ρ2:=fun j mm e=>by
  simp only[DX] at e
  cases hj:lk f2 j with
  | none=>rw[hj] at e; cases e
  | some o=>
   cases o with
   | none=>exact absurd (D1 hj) (KB b1)
   | some p=>rw[hj] at e; rw[hρ2 hj]; exact e
 have img:∀ {i0 a sh},DX f ρ i0=some (.at a sh)→∃ j0,lk f i0=some (some j0)∧ρ j0=some (.at a sh)∧(hl st.H j0).isSome=true:=fun {i0 a sh} e=>by
  simp only[DX] at e
  cases hj:lk f i0 with
  | none=>rw[hj] at e; cases e
  | some o=>
   cases o with
   | none=>rw[hj] at e; cases e
   | some j0=>rw[hj] at e; exact⟨j0,rfl,e,bZ f4 (D1 hj)⟩
 have kind:∀ {j o},lk (H2 r) j=some o→(lk st.H j=some o∧Hj j f=true)∨HOk f2 (H1 r) (j,o):=fun {j o} e=>(hB r).mem (D1 e)
 have kindA:∀ {j a sh},(hl (H2 r) j).isSome=true→ρ2 j=some (.at a sh)→((hl st.H j).isSome=true∧Hj j f=true∧ρ j=some (.at a sh)∧a < s.n)∨(∃ p,lk f2 j=some (some p)∧ρ1 p=some (.at a sh)∧(hl (H1 r) p).isSome=true):=fun {j a sh} hj e=>by
  obtain⟨o,ho⟩:=Option.isSome_iff_exists.1 hj
  rcases kind ho with ⟨k1,k2⟩ | k1
  · left
    have:∃ mm,ρ j=some mm:=by
     rcases hR.hle.ob j o k1 with ⟨a,sh,o',g1,_⟩ | ⟨g1,_⟩ <;> exact⟨_,g1⟩
    obtain⟨mm,hmm⟩:=this
    have e2:=ext j mm hmm
    rw[e2] at e
    cases e
    exact⟨by simp only[hl,k1]; rfl,k2,hmm,hR.hle.lt' j a sh hmm⟩
  · right
    rcases k1 with ⟨p,sz,rows,rows',q1,q2,q3,q4⟩ | ⟨q1,q2⟩ | ⟨p,R,tm,q1,q2,q3,q4⟩ | ⟨p,es,q1,q2,q3,q4⟩
    · exact⟨p,q1,by rw[← hρ2 q1]; exact e,by simp only[hl,q2]; rfl⟩
    · exact absurd (D1 q1) (KB b1)
    · exact⟨p,q1,by rw[← hρ2 q1]; exact e,by simp only[hl,q2]; rfl⟩
    · exact⟨p,q1,by rw[← hρ2 q1]; exact e,by simp only[hl,q2]; rfl⟩
 have hle2:HLe ρ2 (hl (H2 r)) n2 hh n1:=by
  refine⟨fun j o ho=>?_,fun j j2 a sh sh' hj hj2 e e2=>?_,fun j mm e=>?_,fun j a sh e=>?_⟩
  · rcases kind ho with ⟨k1,k2⟩ | k1
    · rcases hR.hle.ob j o k1 with ⟨a,sh,o',g1,g2,g3⟩ | ⟨g1,g2⟩
      · refine .inl ⟨a,sh,o',ext j _ g1,?_,g3.ext ext⟩
        rw[c4.same a (hR.hle.lt' j a sh g1) fun i0 sh0 e0=>?_]
        · exact g2
        · obtain⟨j0,i1,i2,i3⟩:=img e0
          have:=hR.hle.inj j j0 a sh sh0 (by simp only[hl,k1]; rfl) i3 g1 i2
          subst this
          exact HV k2 i0 (D1 i1)
      · exact .inr ⟨ext j _ g1,g2⟩
    · rcases k1 with ⟨p,sz,rows,rows',h1,h2,h3,h4⟩ | ⟨q1,q2⟩ | ⟨p,R,tm,h1,h2,h3,h4⟩ | ⟨p,es,h1,h2,h3,h4⟩
      · simp only at h1 h3
        subst h3
        rcases c3.ob p _ h2 with ⟨a,sh,o',g1,g2,pre,mid,post,rfl,g3,g4⟩ | ⟨g1,sz2,g2⟩
        · refine .inl ⟨a,sh,_,by rw[hρ2 h1]; exact g1,g2,pre,mid,post,rfl,g3,?_⟩
          rcases h4 with h4 | ⟨rfl,h4⟩
          · exact (Wa h4 g4).ext2 ext2
          · exact h4.all2 g4
        · cases g2
          refine .inr ⟨by rw[hρ2 h1]; exact g1,sz,?_⟩
          rcases h4 with h4 | ⟨rfl,h4⟩
          · cases rows' with
            | nil=>rfl
            | cons c cs=>
             simp only[UF] at h4
             split at h4
             · cases h4
             · cases h4
          · rfl
      · exact absurd (D1 q1) (KB b1)
      · simp only at h1 h3
        subst h3
        rcases c3.ob p _ h2 with ⟨a,sh,o',g1,g2,g3,R',rfl,g4,g5,g6,g7⟩ | ⟨_,sz2,g2⟩
        · exact .inl ⟨a,sh,_,by rw[hρ2 h1]; exact g1,g2,g3,R',rfl,g4,g5,(rens_ok h4 g6).ext ext2,g7⟩
        · cases g2
      · simp only at h1 h3
        subst h3
        rcases c3.ob p _ h2 with ⟨a,sh,o',g1,g2,g3,es',rfl,g4,g5⟩ | ⟨_,sz2,g2⟩
        · exact .inl ⟨a,sh,_,by rw[hρ2 h1]; exact g1,g2,g3,es',rfl,g4,h4.all2 g5⟩
        · cases g2
  · rcases kindA hj e with ⟨x1,x2,x3,x4⟩ | ⟨p,x1,x2,x3⟩ <;> rcases kindA hj2 e2 with ⟨y1,y2,y3,y4⟩ | ⟨p',y1,y2,y3⟩
    · exact hR.hle.inj j j2 a sh sh' x1 y1 x3 y3
    · rcases c4.im p' a sh' y2 with ⟨i0,sh0,e0⟩ | hge
      · obtain⟨j0,i1,i2,i3⟩:=img e0
        have:=hR.hle.inj j j0 a sh sh0 x1 i3 x3 i2
        subst this
        exact absurd (D1 i1) (HV x2 i0)
      · omega
    · rcases c4.im p a sh x2 with ⟨i0,sh0,e0⟩ | hge
      · obtain⟨j0,i1,i2,i3⟩:=img e0
        have:=hR.hle.inj j2 j0 a sh' sh0 y1 i3 y3 i2
        subst this
        exact absurd (D1 i1) (HV y2 i0)
      · omega
    · have:=c3.inj p p' a sh sh' x3 y3 x2 y2
      subst this
      exact Vi b2 j j2 p (D1 x1) (D1 y1)
  · cases hj:lk f2 j with
    | none=>
     rw[hρ0 (fun p q=>by rw[hj] at q; cases q)] at e
     have:=hR.hle.lt j mm e
     omega
    | some o=>exact Lm b3 hj
  · have hn:s.n≤n1:=c4.le
    by_cases hj:∃ p,lk f2 j=some (some p)
    · obtain⟨p,hp⟩:=hj
      rw[hρ2 hp] at e
      exact c3.lt' p a sh e
    · rw[hρ0 fun p hp=>hj ⟨p,hp⟩] at e
      have:=hR.hle.lt' j a sh e
      omega
 have hfr:Fr ρ s.h s.n ρ2 hh n1:=by
  refine⟨c4.le,fun j hj hi=>c4.same j hj fun i0 sh0 e0=>?_,fun j a sh e=>?_,ext⟩
  · obtain⟨j0,_,i2,_⟩:=img e0
    exact hi j0 sh0 i2
  · by_cases hj:∃ p,lk f2 j=some (some p)
    · obtain⟨p,hp⟩:=hj
      rw[hρ2 hp] at e
      rcases c4.im p a sh e with ⟨i0,sh0,e0⟩ | hge
      · obtain⟨j0,_,i2,_⟩:=img e0
        exact .inl ⟨j0,sh0,i2⟩
      · exact .inr hge
    · rw[hρ0 fun p hp=>hj ⟨p,hp⟩] at e
      exact .inl ⟨j,sh,e⟩
 refine⟨⟨C3 s.t d u,hh,n1⟩,?_,⟨ρ2,?_,hF.trans hfr⟩,?_⟩
 · rw[Lx (o:=⟨d,.call ⟨.value fo,args,ats⟩,ty,gd⟩) hR hg]
   unfold stepG
   simp only[DI,h9,h1,c1]
 · exact Eo (hput r) ext hR.len hR.kv hle2 (fun i hi=>Hm (by rw[hR.len]; exact FA (hput r) hi) ((rO (hw r) c2).ext ext2))
 · intro a i k z o e1 hi hn v hv2 id hid
   obtain⟨v',v1,v2⟩:=hR.kv a _ e1
   rw[hv2] at v1
   cases v1
   simp only[VLe] at v2
   obtain⟨A,sh,r1,rfl⟩:=v2
   simp only[EL,List.mem_singleton] at hid
   subst hid
   refine c4.same _ (hR.hle.lt' i _ sh r1) fun i0 sh0 e0=>?_
   obtain⟨j0,i1,i2,i3⟩:=img e0
   have:=hR.hle.inj i j0 _ sh sh0 hi i3 r1 i2
   subst this
   exact HV hn i0 (D1 i1)
theorem bH {d:Option Tmp} {g:FuncId} {args:Array Operand} {ats:Array TypeId} {ty:TypeId} {gd:Option (Tmp × Bool)} {vs0:List AV} {H0:List (Nat × C0)} {k0 k1:Nat} {m1:Option β} {er:β→AV} {H1:β→List (Nat × C0)}
 (f f2:List (Nat × Option Nat)) (H2:β→List (Nat × C0)) (w:β→AV) (n2:Nat) {st1:β→CS} (hc:CtM E g vs0 H0 k0 m1 er H1 k1) (hA:QU (HOk f st.H) H0) (hB:∀ r,QU (HBk f f2 st.H (H1 r)) (H2 r))
 (hg:gOk st.K gd=true)
 (hvr:D5 (tl N st.K none) args.toList=rens f vs0) (hvs:(rens f vs0).isSome=true)
 (hf:(RZ (inH H0 f) && HO k0 f && Vh st.H f)=true) (hf2:(Lu f st.n f2 && RZ f2 && HO n2 f2 && Nat.ble st.n n2)=true)
 (hw:∀ r,ren f2 (w r)=some (er r)) (hput:∀ r,FI N ⟨st.K,H2 r,n2⟩ d (.av (w r))=some (st1 r)) {s:St} (hs2:At N F st s) {r:β} (hm:m1=some r) :
 ∃ s2,Og E lit ⟨d,.call ⟨.value (.func g),args,ats⟩,ty,gd⟩ s=some s2∧At N F (st1 r) s2 ∧
  ∀ a i k z o,lk st.K a=some (.av (.ptr i k z o))→(lk st.H i).isSome=true→Hj i f=true→∀ v,s.t[a]? = some v→∀ id∈EL v,s2.h id=s.h id:=by
 obtain⟨vs,hr⟩:=Option.isSome_iff_exists.1 hvs
 exact tQ f f2 H2 w n2 (fo:=.func g) (caps:=[]) (avs:=vs) hc hA hB hg rfl (hvr.trans hr) (by rw[List.append_nil]; exact hr.symm) hf hf2 hw hput hs2 hm
theorem BC {R:List LO} (i:Nat) {d:Option Tmp} {g:FuncId} {args:Array Operand} {ats:Array TypeId} {ty:TypeId} {gd:Option (Tmp × Bool)} {vs0:List AV} {H0:List (Nat × C0)} {k0 k1:Nat} {m1:Option β} {er:β→AV} {H1:β→List (Nat × C0)}
 (f f2:List (Nat × Option Nat)) (H2:β→List (Nat × C0)) (w:β→AV) (n2:Nat) {st1:β→CS} {q:β→Option α} (hc:CtM E g vs0 H0 k0 m1 er H1 k1) (hA:QU (HOk f st.H) H0) (hB:∀ r,QU (HBk f f2 st.H (H1 r)) (H2 r))
 (hk:∀ r,m1=some r→JR E N F lit (q r) (R.drop (i + 1)) (st1 r) Q)
 (ho:R[i]? = some ⟨d,.call ⟨.value (.func g),args,ats⟩,ty,gd⟩:=by rfl) (hg:gOk st.K gd=true:=by rfl)
 (hvr:D5 (tl N st.K none) args.toList=rens f vs0:=by kernel_rfl) (hvs:(rens f vs0).isSome=true:=by kernel_rfl)
 (hf:(RZ (inH H0 f) && HO k0 f && Vh st.H f)=true:=by rfl) (hf2:(Lu f st.n f2 && RZ f2 && HO n2 f2 && Nat.ble st.n n2)=true:=by rfl)
 (hw:∀ r,ren f2 (w r)=some (er r):=by exact fun _=>rfl) (hput:∀ r,FI N ⟨st.K,H2 r,n2⟩ d (.av (w r))=some (st1 r):=by exact fun _=>rfl):JR E N F lit (m1.bind q) (R.drop i) st Q:=fun s hs2 r2 hr2=>by
 cases hm:m1 with
 | none=>rw[hm] at hr2; cases hr2
 | some r=>
  rw[hm] at hr2
  obtain⟨s2,e1,e2,_⟩:=bH (lit:=lit) (ty:=ty) (ats:=ats) f f2 H2 w n2 hc hA hB hg hvr hvs hf hf2 hw hput hs2 hm
  rw[Dg ho]
  exact⟨s2,e1,hk r hm s2 e2 r2 hr2⟩
end
end Go.Vm
namespace Go.Vm
open Go
theorem gE {P:Program} {h:AW} {n:Nat} {α:Type} {e:TypeId} {sz b:Nat} {x y:AV} {m:List α} {c:α→List AV} (he:ACm P e sz b=true) (hx:x=AQ∨x = .esl∨∃ i o l s,x = .osl i o l s) (hy:Bn h sz y=some (m.map c)) (hm:m=[]):Br P h n e x y=some (x,[]):=by
 obtain⟨h1,h2,⟨z,h3,h4⟩,h5⟩:=bP he
 unfold Br
 simp only[h1,h2,hy,h3,Option.bind_eq_bind,Option.bind_some]
 rw[if_neg (by omega),if_pos (by simpa using hm)]
 rcases hx with rfl | rfl | ⟨i,o,l,s,rfl⟩ <;> rfl
section
variable {α β:Type} {E:Env} {N:Nat} {F:Fx} {lit:Bool} {st:CS} {Q:α→AX→St→Prop}
theorem AFO {R:List LO} {i:Nat} {o:LO} {mo:Option β} {f:β→Option α} {C:Prop} {v1:β→AV} {us1:β→Ups} {v2:β→AV} {sA sB st1:β→CS} (ho:R[i]? = some o) (hg:gOk st.K o.g=true) (hc:(O7 o.op || (lit && l9 o.op))=false) (hn:JZ o.op=true)
 (h1:¬C→∀ a,mo=some a→aop E.P o.oper (tl N st.K none) (hl st.H) st.n=some (v1 a,us1 a)) (h2:C→∀ a,mo=some a→aop E.P o.oper (tl N st.K none) (hl st.H) st.n=some (v2 a,[]))
 (hp1:∀ a,FI N ⟨st.K,aH st.H (us1 a),st.n + kN o.op⟩ o.dst (.av (v1 a))=some (sA a)) (hp2:∀ a,FI N ⟨st.K,st.H,st.n + kN o.op⟩ o.dst (.av (v2 a))=some (sB a))
 (w1:∀ a,Wk N F (sA a) (st1 a)) (w2:C→∀ a,mo=some a→Wk N F (sB a) (st1 a))
 (hk:∀ a,mo=some a→JR E N F lit (f a) (R.drop (i + 1)) (st1 a) Q):JR E N F lit (mo.bind f) (R.drop i) st Q:=fun s hs r hr=>by
 cases hm:mo with
 | none=>rw[hm] at hr; cases hr
 | some a=>
  rw[hm] at hr
  by_cases hC:C
  · exact oO (us:=[]) (Dg ho) hg hc hn (h2 hC a hm) (hp2 a) (fun s hs r hr=>hk a hm s (w2 hC a hm s hs) r hr) s hs r hr
  · exact oO (Dg ho) hg hc hn (h1 hC a hm) (hp1 a) (fun s hs r hr=>hk a hm s (w1 a s hs) r hr) s hs r hr
end
theorem ACV {α:Type} {b:Nat} {l m r:List α} (hm:m=[]) (h:app b l m=some r):r=l:=by
 obtain⟨_,rfl⟩:=aK h
 rw[hm,List.append_nil]
end Go.Vm
namespace Go.Vm
open Go
section
variable {α β:Type} {E:Env} {N:Nat} {F:Fx} {lit:Bool} {st:CS} {m:Option α} {Q:α→AX→St→Prop}
theorem tT {g:FuncId} {p:List AV→Option AV} (hp:E.prim g=some p) {vs:List AV} {er:α→AV} (hv:∀ r,m=some r→∀ vs',AI (VLe Rn.nil) vs vs'→p vs' = some (er r)) (her:∀ r,VLe Rn.nil (er r) (er r)):Ct E g vs m er:=fun r hr vs' hv' h n=>
 ⟨er r,mW hp (hv r hr vs' hv'),her r⟩
end
def X9:List (List AV)→Option (List Str)
 | []=>some []
 | [.s (.string b)] :: rs=>(X9 rs).map fun l=>b.data.toList :: l
 | _=>none
theorem fW:∀ l:List Str,X9 (l.map cS)=some l
 | []=>rfl
 | x :: l=>by
  simp only[List.map_cons,cS,X9,fW l,Option.map_some,Option.some.injEq,List.cons.injEq,and_true]
theorem ADa:∀ {l:List Str} {rs:List (List AV)},VLess Rn.nil (l.map cS) rs→rs=l.map cS
 | [],rs,h=>by simpa[VLess] using h
 | x :: l,rs,h=>by
  simp only[List.map_cons,VLess] at h
  obtain⟨d,es,rfl,h1,h2⟩:=h
  rw[ADa h2]
  simp only[cS,VLes] at h1
  obtain⟨d2,es2,rfl,h3,rfl⟩:=h1
  rw[h3.s_inv]
  rfl
def AAU:AV→Option (List Str)
 | .s (.slice none 0 0)=>some []
 | .esl=>some []
 | .fsl 1 rows=>X9 rows
 | _=>none
theorem ACB {l:List Str} {v:AV} (h:VLe Rn.nil (.fsl 1 (l.map cS)) v):AAU v=some l:=by
 rcases VLe.fsl_iff.1 h with ⟨rs,rfl,h2⟩ | ⟨h1,rfl | rfl⟩
 · have h3:=VLe.fsl_iff.1 h
   have:rs=l.map cS:=by
    simp only[VLe] at h
    rcases h with ⟨rs',e,h4⟩ | ⟨_,e | e⟩
    · cases e; exact ADa h4
    · cases e
    · cases e
   subst this
   exact fW l
 · cases l with
   | nil=>rfl
   | cons x l=>simp at h1
 · cases l with
   | nil=>rfl
   | cons x l=>simp at h1
def bD (a:List UInt8):Bool:=a.all fun c=>decide (c.toNat < 128)
def ACg:List AV→Option AV
 | [.s (.string a),.s (.string b)]=>if (bD a.data.toList && bD b.data.toList && decide (a.data.toList.length < 4294967281) && decide (b.data.toList.length < 4294967281))=true then some (.s (.bool (Lib.containsAny a.data.toList b.data.toList))) else none
 | _=>none
noncomputable def strings_ContainsAny (a b:Str):Option Bool:=if (bD a && bD b && decide (a.length < 4294967281) && decide (b.length < 4294967281))=true then some (Lib.containsAny a b) else none
def YO:List AV→Option AV
 | [x,.s (.string sep)]=>match AAU x with
  | some l=>if l.length≤140737488355328∧(Lib.join l sep.data.toList).length≤140737488355328 then some (.s (.string ⟨(Lib.join l sep.data.toList).toArray⟩)) else none
  | none=>none
 | _=>none
noncomputable def strings_Join (l:List Str) (sep:Str):Option Str:=if l.length≤140737488355328∧(Lib.join l sep).length≤140737488355328 then some (Lib.join l sep) else none
theorem QJ {E:Env} {g:FuncId} (hp:E.prim g=some ACg) (a b:Str):Ct E g [bs a,bs b] (strings_ContainsAny a b) (fun r:Bool=>bv r):=
 tT hp (fun r hr vs' hv=>by
  have h1:=VV (ws:=vs') (vs:=[bs a,bs b]) rfl hv
  subst h1
  unfold strings_ContainsAny at hr
  unfold ACg
  split at hr
  · rename_i h
    cases hr
    show (if _ then _ else _)=_
    rw[if_pos h]
  · cases hr) (fun r=>VLe.s_refl _)
theorem aE {E:Env} {g:FuncId} (hp:E.prim g=some YO) (l:List Str) (sep:Str):Ct E g [.fsl 1 (List.map cS l),bs sep] (strings_Join l sep) (fun r:Str=>bs r):=
 tT hp (fun r hr vs' hv=>by
  match vs',hv with
  | [x,y],hv=>
   have h1:=ACB hv.1
   have h2:=hv.2.1.s_inv
   subst h2
   unfold strings_Join at hr
   split at hr
   · rename_i h
     cases hr
     unfold YO
     simp only[h1]
     rw[if_pos h]
   · cases hr
  | [],hv=>exact hv.elim
  | [_],hv=>exact hv.2.elim
  | _ :: _ :: _ :: _,hv=>exact hv.2.2.elim) (fun r=>VLe.s_refl _)
theorem ACf {E:Env} {α:Type} {m:Option α} {g:FuncId} {p:List AV→AW→Nat→Option (AV × AW × Nat)} (hp:E.prim g=none) (hm:E.primM g=some p) (hpf:E.pf g=true) {vs:List AV} {er:α→AV}
 (hs:B4 (Cj AW.nil depth) vs=some (vs,false)) (hv:∀ r,m=some r→∀ vs',AI (VLe Rn.nil) vs vs'→p vs' AW.nil 0=some (er r,AW.nil,0))
 (he:∀ r,∃ q,CC AW.nil depth (er r)=some (er r,q)) (her:∀ r,VLe Rn.nil (er r) (er r)):Ct E g vs m er:=fun r hr vs' hv' h n=>by
 obtain⟨w,b',h1,h2,h3⟩:=Fy (f':=CC h depth) (fun x x' u b e hx=>Sk (oL h n) e hx) hs hv'
 have hb:b' = false:=by
  cases b' with
  | false=>rfl
  | true=>cases h3 rfl
 subst hb
 have hc:(FW E).call g w AW.nil 0=some (er r,AW.nil,0):=Jp.2 ⟨1,by
  show Ku E _ g w AW.nil 0=_
  unfold Ku
  rw[hm]
  exact hv r hr w h2⟩
 obtain⟨q,hq⟩:=he r
 refine⟨er r,?_,her r⟩
 unfold C1
 rw[hp]
 simp only[hpf,if_true,h1,hc,hq,Bool.false_and,Bool.false_eq_true,if_false]
def uG (p:List AV→Option AV):List AV→AW→Nat→Option (AV × AW × Nat):=fun args h n=>(p args).map fun v=>(v,h,n)
theorem X8 {E:Env} {g:FuncId} (hp:E.prim g=none) (hm:E.primM g=some (uG YO)) (hpf:E.pf g=true) (l:List Str) (sep:Str):Ct E g [.fsl 1 (List.map cS l),bs sep] (strings_Join l sep) (fun r:Str=>bs r):=
 ACf hp hm hpf rfl (fun r hr vs' hv=>by
  have h0:=aE (E:=⟨E.P,fun _=>some YO,fun _=>true,fun _=>none,fun _ _ _=>false⟩) (g:=0) rfl l sep r hr vs' hv AW.nil 0
  obtain⟨u,h1,h2⟩:=h0
  unfold C1 at h1
  simp only[Option.map_eq_some_iff,Prod.mk.injEq,and_true,exists_eq_right] at h1
  have h3:=h2.s_inv
  subst h3
  unfold uG
  rw[h1]
  rfl) (fun r=>⟨false,rfl⟩) (fun r=>VLe.s_refl _)
end Go.Vm
namespace Go.Vm
open Go
def fK:Code→Array Oper
 | .region _ ops _=>ops
 | _=>#[]
def M8 (a:Nat):List Oper→Bool
 | []=>true
 | o :: os=>(match o.dst with | some d=>!(Nat.beq d a) | none=>true) && M8 a os
def Ky:Op→Bool
 | .load ..=>true
 | .lookup ..=>true
 | _=>false
def QO (o:Oper):Option (Nat × Nat):=
 match o.op with
 | .alloc _=>match o.dst with
  | some d=>some (d,1)
  | none=>none
 | .load _ (.tmp a)=>some (a,0)
 | .store _ (.tmp a) _=>some (a,0)
 | .lookup _ (.tmp a) _ _=>some (a,0)
 | _=>none
def cX (ops:Array Oper) (i j:Nat):Option (List (Nat × Nat)):=
 match ops[i]?,ops[j]? with
 | some o,some p=>match QO o,QO p with
  | some (a,k),some (b,m)=>cond (M8 a (ops.toList.drop (i + k)) && M8 b (ops.toList.drop (j + m))) (cond (Ky o.op && Ky p.op) (some []) (some [(a,b)])) none
  | _,_=>none
 | _,_=>none
def oI (ops:Array Oper) (an:List Nat) (i:Nat):List Nat→Option (List (Nat × Nat))
 | []=>some []
 | j :: js=>match cond (Ef an j i) (some []) (cX ops i j),oI ops an i js with
  | some x,some y=>some (x ++ y)
  | _,_=>none
def c8 (ops:Array Oper) (an:List Nat):List Nat→Option (List (Nat × Nat))
 | []=>some []
 | i :: is=>match oI ops an i is,c8 ops an is with
  | some x,some y=>some (x ++ y)
  | _,_=>none
theorem aO {a:Nat}:∀ {l:List Oper},M8 a l=true→∀ o∈l,o.dst≠some a
 | [],_,p,hp=>by cases hp
 | o :: l,h,p,hp=>by
  simp only[M8,Bool.and_eq_true] at h
  rcases List.mem_cons.1 hp with rfl | hp
  · intro e
    rw[e] at h
    simp at h
  · exact aO h.2 p hp
theorem HT {t:List AV} {d:Option Tmp} {v:AV} {a:Nat} (h:d≠some a):(C3 t d v)[a]? = t[a]?:=by
 cases d with
 | none=>rfl
 | some d=>
  have:d≠a:=fun e=>h (by rw[e])
  simp only[C3]
  rw[List.getElem?_set_ne this]
theorem AAT {E:Env} {r:Rec} {dr:Bool} {ops:Array Oper} {o:Oper} {s s':St} (h:CJ E r dr ops o s=some s') {a:Nat} (ha:o.dst≠some a):s'.t[a]? = s.t[a]?:=by
 unfold CJ at h
 split at h
 · cases h
 · cases h; exact HT ha
 · split at h
   · split at h
     · cases h; exact HT ha
     · cases h
   · split at h
     · split at h
       · cases h; exact HT ha
       · cases h
     · split at h
       · cases h; exact HT ha
       · cases h
   · split at h
     · split at h
       · cases h; exact HT ha
       · cases h
     · split at h
       · cases h; exact HT ha
       · cases h
   · split at h
     · cases h; exact HT ha
     · cases h
theorem TN {E:Env} {r:Rec} {ops:Array Oper} {a:Nat}:∀ {l:List Nat} {s:St} {q:List (Option Fp) × St},C4 E r ops l s=some q→(∀ j∈l,∀ p,ops[j]? = some p→p.dst≠some a)→q.2.t[a]? = s.t[a]?
 | [],s,q,h,_=>by cases h; rfl
 | i :: l,s,q,h,hw=>by
  simp only[C4] at h
  split at h
  · cases h
  · rename_i o ho
    split at h
    · rename_i s1 h1
      split at h
      · rename_i fps s2 h2
        cases h
        have:=TN h2 (fun j hj=>hw j (List.mem_cons_of_mem _ hj))
        simp only at this ⊢
        rw[this,AAT h1 (hw i (by simp) o ho)]
      · cases h
    · cases h
theorem ADs {E:Env} {r:Rec} {ops:Array Oper} {o:Oper} {s s1:St} {a k:Nat} (hs:CJ E r true ops o s=some s1) (ha:QO o=some (a,k)):∃ F:Fp,(match CU ops s.t o with | some true=>fpH E r o.op s.t s.h s.n | _=>some fp0)=some F∧F.all=false∧F.mem=none∧(Ky o.op=true→F.W=[])∧((k=0∧∀ x,(x∈F.R∨x∈F.W)→∀ v,s.t[a]? = some v→x∈EL v)∨(k=1∧∀ x,(x∈F.R∨x∈F.W)→∀ v,s1.t[a]? = some v→x∈EL v)):=by
 have hk:k=0∨k=1:=by
  unfold QO at ha
  split at ha
  · split at ha
    · cases ha; exact .inr rfl
    · cases ha
  · cases ha; exact .inl rfl
  · cases ha; exact .inl rfl
  · cases ha; exact .inl rfl
  · cases ha
 have triv:((k=0∧∀ x,(x∈fp0.R∨x∈fp0.W)→∀ v,s.t[a]? = some v→x∈EL v)∨(k=1∧∀ x,(x∈fp0.R∨x∈fp0.W)→∀ v,s1.t[a]? = some v→x∈EL v)):=by
  rcases hk with hk | hk
  · exact .inl ⟨hk,fun x hx=>by rcases hx with hx | hx <;> cases hx⟩
  · exact .inr ⟨hk,fun x hx=>by rcases hx with hx | hx <;> cases hx⟩
 cases hw:CU ops s.t o with
 | none=>exact⟨fp0,rfl,rfl,rfl,fun _=>rfl,triv⟩
 | some b=>
  cases b with
  | false=>exact⟨fp0,rfl,rfl,rfl,fun _=>rfl,triv⟩
  | true=>
   simp only
   unfold CJ at hs
   rw[hw] at hs
   simp only at hs
   unfold QO at ha
   split at ha
   · rename_i ty hop
     split at ha
     · rename_i d hd
       cases ha
       rw[hop] at hs ⊢
       unfold fpH
       simp only[Er]
       refine⟨_,rfl,rfl,rfl,fun h=>by simp[Ky] at h,.inr ⟨by first | trivial | rfl,fun x hx v hv=>?_⟩⟩
       have hx:x=s.n:=by
        rcases hx with hx | hx
        · cases hx
        · simpa using hx
       subst hx
       simp only at hs
       cases hz:aop E.P o s.t s.h s.n with
       | none=>rw[hz] at hs; cases hs
       | some q=>
        rw[hz] at hs
        obtain⟨u,us⟩:=q
        simp only[Option.some.injEq] at hs
        subst hs
        unfold aop at hz
        rw[hop] at hz
        simp only at hz
        split at hz
        · rename_i cs hcs
          cases hz
          rw[hd] at hv
          simp only[C3] at hv
          rw[List.getElem?_set_self'] at hv
          cases hg:s.t[a]? with
          | none=>rw[hg] at hv; cases hv
          | some w=>
           rw[hg] at hv
           have hv:v = .ptr s.n 0 cs.length 0:=by
            first
             | (cases hv; rfl)
             | (simp at hv; exact hv.symm)
           rw[hv]
           simp[EL]
        · cases hz
     · cases ha
   · rename_i ty b hop
     cases ha
     rw[hop] at hs ⊢
     unfold fpH
     simp only[Er,A0] at hs ⊢
     cases hv:s.t[a]? with
     | none=>
      exfalso
      unfold aop at hs
      rw[hop] at hs
      simp[A0,hv] at hs
     | some v=>exact⟨_,rfl,rfl,rfl,fun _=>rfl,.inl ⟨by first | trivial | rfl,fun x hx v' hv'=>by cases hv'; rcases hx with hx | hx; exact hx; cases hx⟩⟩
   · rename_i ty b y hop
     cases ha
     rw[hop] at hs ⊢
     unfold fpH
     simp only[Er,A0] at hs ⊢
     cases hv:s.t[a]? with
     | none=>
      exfalso
      unfold aop at hs
      rw[hop] at hs
      simp[A0,hv] at hs
     | some v=>exact⟨_,rfl,rfl,rfl,fun h=>by simp[Ky] at h,.inl ⟨by first | trivial | rfl,fun x hx v' hv'=>by cases hv'; rcases hx with hx | hx <;> exact hx⟩⟩
   · rename_i mt b key ok hop
     cases ha
     rw[hop] at hs ⊢
     unfold fpH
     simp only[Er,A0] at hs ⊢
     cases hv:s.t[a]? with
     | none=>
      exfalso
      unfold aop Gz at hs
      rw[hop] at hs
      simp[A0,hv] at hs
     | some v=>exact⟨_,rfl,rfl,rfl,fun _=>rfl,.inl ⟨by first | trivial | rfl,fun x hx v' hv'=>by cases hv'; rcases hx with hx | hx; exact hx; cases hx⟩⟩
   · cases ha
theorem VR {E:Env} {r:Rec} {ops:Array Oper}:∀ {l:List Nat} {s:St} {q:List (Option Fp) × St},C4 E r ops l s=some q→∀ (m i:Nat) (o:Oper) (a k:Nat),l[m]? = some i→ops[i]? = some o→QO o=some (a,k)→(∀ j∈l.drop (m + k),∀ p,ops[j]? = some p→p.dst≠some a) →
 ∃ F:Fp,q.1[m]? = some (some F)∧F.all=false∧F.mem=none∧(Ky o.op=true→F.W=[])∧∀ x,(x∈F.R∨x∈F.W)→∀ v,q.2.t[a]? = some v→x∈EL v
 | [],s,q,h,m,i,o,a,k,hm,_,_,_=>by simp at hm
 | k :: l,s,q,h,m,i,o,a,kk,hm,ho,ha,hw=>by
  have h0:=h
  simp only[C4] at h
  split at h
  · cases h
  · rename_i ok hok
    split at h
    · rename_i s1 h1
      split at h
      · rename_i fps s2 h2
        cases h
        cases m with
        | zero=>
         simp only[List.getElem?_cons_zero,Option.some.injEq] at hm
         subst hm
         rw[ho] at hok
         cases hok
         obtain⟨F,f1,f2,fm,f3,f4⟩:=ADs h1 ha
         refine⟨F,by simp only[List.getElem?_cons_zero]; exact congrArg some f1,f2,fm,f3,fun x hx v hv=>?_⟩
         rcases f4 with ⟨rfl,f4⟩ | ⟨rfl,f4⟩
         · have:=TN (a:=a) h0 (by simpa using hw)
           exact f4 x hx v (by rw[← this]; exact hv)
         · have:=TN (a:=a) h2 (by simpa using hw)
           exact f4 x hx v (by rw[← this]; exact hv)
        | succ m=>
         simp only[List.getElem?_cons_succ] at hm
         obtain⟨F,f1,f2⟩:=VR h2 m i o a kk hm ho ha (by
          have e:m + 1 + kk=(m + kk) + 1:=by omega
          rw[e] at hw
          simpa using hw)
         exact⟨F,by simpa using f1,f2⟩
      · cases h
    · cases h
theorem mT {ops:Array Oper} {an:List Nat} {i:Nat}:∀ {js:List Nat} {ps:List (Nat × Nat)},oI ops an i js=some ps→∀ j∈js,Ef an j i=true∨∃ qs,cX ops i j=some qs∧∀ q∈qs,q∈ps
 | [],_,_,j,hj=>by cases hj
 | k :: js,ps,h,j,hj=>by
  simp only[oI] at h
  split at h
  · rename_i x y hx hy
    cases h
    rcases List.mem_cons.1 hj with rfl | hj
    · cases hw:Ef an j i with
      | true=>exact .inl rfl
      | false=>
       rw[hw] at hx
       exact .inr ⟨x,hx,fun q hq=>List.mem_append_left _ hq⟩
    · rcases mT hy j hj with h1 | ⟨qs,h1,h2⟩
      · exact .inl h1
      · exact .inr ⟨qs,h1,fun q hq=>List.mem_append_right _ (h2 q hq)⟩
  · cases h
theorem mP {a:Nat}:∀ {k:Nat} {l:List Oper},M8 a l=true→M8 a (l.drop k)=true
 | 0,_,h=>h
 | _ + 1,[],h=>h
 | k + 1,o :: l,h=>by
  simp only[M8,Bool.and_eq_true] at h
  exact mP (k:=k) h.2
theorem AAs {ops:Array Oper} {fps:List (Option Fp)} {t:List AV} {i j:Nat} {qs:List (Nat × Nat)}
 (hf:∀ (i:Nat) (o:Oper) (a k:Nat),ops[i]? = some o→QO o=some (a,k)→M8 a (ops.toList.drop (i + k))=true→∃ F:Fp,fps[i]? = some (some F)∧F.all=false∧F.mem=none∧(Ky o.op=true→F.W=[])∧∀ x,(x∈F.R∨x∈F.W)→∀ v,t[a]? = some v→x∈EL v)
 (h1:cX ops i j=some qs) (hne:∀ a b,(a,b)∈qs→∃ u v,t[a]? = some u∧t[b]? = some v∧∀ x,x∈EL u→x∉EL v):KH fps[i]? fps[j]? = true:=by
 unfold cX at h1
 split at h1
 · rename_i o p ho hp
   split at h1
   · rename_i a ka b kb ha hb
     cases hn:(M8 a (ops.toList.drop (i + ka)) && M8 b (ops.toList.drop (j + kb))) with
     | false=>rw[hn] at h1; cases h1
     | true=>
      rw[hn] at h1
      simp only[Bool.and_eq_true] at hn
      obtain⟨A,e1,e2,em,e3,e4⟩:=hf i o a ka ho ha hn.1
      obtain⟨B,g1,g2,gm,g3,g4⟩:=hf j p b kb hp hb hn.2
      rw[e1,g1]
      simp only[KH,Fp.apart,em,gm,Bool.and_eq_true,List.all_eq_true,Bool.not_eq_true',Bool.or_eq_true,e2,g2]
      cases hl:(Ky o.op && Ky p.op) with
      | true=>
       simp only[Bool.and_eq_true] at hl
       rw[e3 hl.1,g3 hl.2]
       simp
      | false=>
       rw[hl] at h1
       simp only[cond_true,cond_false,Option.some.injEq] at h1
       have hab:(a,b)∈qs:=by rw[← h1]; simp
       have key:∀ z,(z∈A.R∨z∈A.W)→(z∈B.R∨z∈B.W)→False:=fun z hz hz'=>by
        obtain⟨u,v,u1,v1,hx⟩:=hne a b hab
        exact hx z (e4 z hz u u1) (g4 z hz' v v1)
       refine⟨⟨⟨fun z hz=>⟨?_,?_⟩,fun z hz=>?_⟩,.inr trivial⟩,.inr trivial⟩
       · simp only[List.contains_eq_mem,decide_eq_false_iff_not]
         exact fun q=>key z (.inr hz) (.inl q)
       · simp only[List.contains_eq_mem,decide_eq_false_iff_not]
         exact fun q=>key z (.inr hz) (.inr q)
       · simp only[List.contains_eq_mem,decide_eq_false_iff_not]
         exact fun q=>key z (.inl q) (.inr hz)
   · cases h1
 · cases h1
theorem mU {ops:Array Oper} {an:List Nat} {fps:List (Option Fp)} {t:List AV}
 (hf:∀ (i:Nat) (o:Oper) (a k:Nat),ops[i]? = some o→QO o=some (a,k)→M8 a (ops.toList.drop (i + k))=true→∃ F:Fp,fps[i]? = some (some F)∧F.all=false∧F.mem=none∧(Ky o.op=true→F.W=[])∧∀ x,(x∈F.R∨x∈F.W)→∀ v,t[a]? = some v→x∈EL v) :
 ∀ {l:List Nat} {ps:List (Nat × Nat)},c8 ops an l=some ps→(∀ a b,(a,b)∈ps→∃ u v,t[a]? = some u∧t[b]? = some v∧∀ x,x∈EL u→x∉EL v)→J2 an fps l=true
 | [],_,_,_=>rfl
 | i :: is,ps,h,hne=>by
  simp only[c8] at h
  split at h
  · rename_i x y hx hy
    cases h
    simp only[J2,Bool.and_eq_true,List.all_eq_true,Bool.or_eq_true]
    refine⟨fun j hj=>?_,mU hf hy fun a b hab=>hne a b (List.mem_append_right _ hab)⟩
    rcases mT hx j hj with h1 | ⟨qs,h1,h2⟩
    · exact .inl h1
    · right
      exact AAs hf h1 (fun a b hab=>hne a b (List.mem_append_left _ (h2 _ hab)))
  · cases h
theorem ABP {E:Env} {r:Rec} {ops:Array Oper} {ps:List (Nat × Nat)} (hp:c8 ops (Hf ops) (JY ops)=some ps) {s s':St} (h:Co E r true ops (List.range ops.size) s=some s')
 (hne:∀ a b,(a,b)∈ps→∃ u v,s'.t[a]? = some u∧s'.t[b]? = some v∧∀ x,x∈EL u→x∉EL v):Dv E r ops s=some s':=by
 unfold Dv
 simp only
 by_cases ha:E4 (Hf ops) (JY ops)=true
 · rw[if_pos ha]; exact h
 · rw[if_neg ha]
   obtain⟨fps,h1,h2⟩:=O3 (fun i hi=>List.mem_range.1 hi) h
   rw[h1]
   simp only
   rw[if_pos (mU (t:=s'.t) (fun i o a ka ho hd hw=>?_) hp hne)]
   have hi:i < ops.size:=by
    rcases Nat.lt_or_ge i ops.size with hlt | hge
    · exact hlt
    · rw[Array.getElem?_eq_none hge] at ho; cases ho
   refine VR h1 i i o a ka (List.getElem?_range hi) ho hd fun j hj p hp=>?_
   refine aO hw p ?_
   obtain⟨k,hk,e⟩:=List.mem_iff_getElem.1 hj
   simp only[List.getElem_drop,List.getElem_range] at e
   subst e
   refine List.mem_iff_getElem?.2 ⟨k,?_⟩
   rw[List.getElem?_drop,Array.getElem?_toList]
   exact hp
section
variable {α β:Type} {E:Env} {N:Nat} {F:Fx} {lit:Bool} {st:CS} {m:Option α} {Q:α→AX→St→Prop} {b:LC}
def AAY (ps:List (Nat × Nat)) (Q:α→AX→St→Prop):α→AX→St→Prop:=fun r x s=>x = .normal∧(∀ a b,(a,b)∈ps→∃ u v,s.t[a]? = some u∧s.t[b]? = some v∧∀ x,x∈EL u→x∉EL v)∧Q r .normal s
theorem oN {ops:Array Oper} (R:List LO) (ps:List (Nat × Nat)) (h:JR E N F true m (R.drop 0) st (AAY ps Q)) (hl:KI ops ops.toList=some R:=by kernel_rfl) (hp:c8 ops (Hf ops) (JY ops)=some ps:=by kernel_rfl):JC E N F m (.full ops) st Q:=fun s hs r hr=>by
 obtain⟨s',h1,_,h2,h3⟩:=Mp hl (h s hs r hr)
 exact⟨s',ABP hp h1 h2,h3⟩
def aR (st:CS):List (Nat × Nat)→Bool
 | []=>true
 | (a,b) :: l=>(match lk st.K a,lk st.K b with
  | some (.av (.ptr i _ _ _)),some (.av (.ptr j _ _ _))=>!(Nat.beq i j) && (lk st.H i).isSome && (lk st.H j).isSome
  | _,_=>false) && aR st l
theorem cZ {a b:Nat}:∀ {l:List (Nat × Nat)},aR st l=true→(a,b)∈l→∃ i k s o j k2 s2 o2,lk st.K a=some (.av (.ptr i k s o))∧lk st.K b=some (.av (.ptr j k2 s2 o2))∧i≠j∧(lk st.H i).isSome=true∧(lk st.H j).isSome=true
 | (c,d) :: l,h,hm=>by
  simp only[aR,Bool.and_eq_true] at h
  rcases List.mem_cons.1 hm with e | hm
  · cases e
    have h1:=h.1
    split at h1
    · rename_i i k s o j k2 s2 o2 e1 e2
      simp only[Bool.and_eq_true,Bool.not_eq_true'] at h1
      exact⟨i,k,s,o,j,k2,s2,o2,e1,e2,RQ h1.1.1,h1.1.2,h1.2⟩
    · cases h1
  · exact cZ h.2 hm
theorem Vk {ps:List (Nat × Nat)} (h:JX N F m .normal st Q) (hc:aR st ps=true:=by rfl):JX N F m .normal st (AAY ps Q):=fun s hs r hr=>by
 refine⟨rfl,fun a b hab=>?_,h s hs r hr⟩
 obtain⟨ρ,hR,_⟩:=hs
 obtain⟨i,k,z,o,j,k2,z2,o2,e1,e2,hij,hi,hj⟩:=cZ hc hab
 obtain⟨u',u1,u2⟩:=hR.kv a _ e1
 obtain⟨v',v1,v2⟩:=hR.kv b _ e2
 refine⟨u',v',u1,v1,fun x hx hx'=>?_⟩
 simp only[VLe] at u2 v2
 obtain⟨A,sh,r1,rfl⟩:=u2
 obtain⟨B,sh2,r2,rfl⟩:=v2
 simp only[EL,List.mem_singleton] at hx hx'
 subst hx
 subst hx'
 exact hij (hR.hle.inj i j _ sh sh2 hi hj r1 r2)
end
end Go.Vm
namespace Go.Vm
open Go
abbrev W5:Operand:=.const (.slice none 0 0)
def zG:AV→Prop
 | .osl _ _ len _=>len=0
 | .fsl _ rows=>rows=[]
 | .esl=>False
 | _=>True
section
variable {α β:Type} {E:Env} {N:Nat} {F:Fx} {lit:Bool} {st:CS} {Q:α→AX→St→Prop}
theorem AC8 {R:List LO} (i:Nat) {d:Tmp} {xt yt ty:TypeId} {x:Operand} {gd:Option (Tmp × Bool)} {v:AV} {C:Prop} {m mA:Option α} {stT stF:CS} {b:Bool} {op:BinOp} (hC:zG v→C) (hAB:C→m=mA)
 (hA:C→JR E N F lit mA (R.drop (i + 1)) stT Q) (hB:JR E N F lit m (R.drop (i + 1)) stF Q)
 (ho:R[i]? = some ⟨some d,.binOp op xt x W5 yt,ty,gd⟩:=by rfl) (hg:gOk st.K gd=true:=by rfl) (hv:A0 (tl N st.K none) x=some v:=by kernel_rfl) (hr:(∃ id off len sz,v = .osl id off len sz)∨(∃ sz rows,v = .fsl sz rows))
 (hu:gZ E.P op xt W5=some b:=by kernel_rfl) (hn:DK E.P (fun _=>.slice none 0 0) (LO.oper ⟨some d,.binOp op xt x W5 yt,ty,gd⟩)=some (bv (!b)):=by kernel_rfl)
 (hpT:FI N st (some d) (.av (bv (!b)))=some stT:=by rfl) (hpF:FI N st (some d) (.av (bv b))=some stF:=by rfl):JR E N F lit m (R.drop i) st Q:=fun s hs r hr2=>by
 obtain⟨ρ,hR,hF⟩:=hs
 obtain⟨v',h1,h2⟩:=BZ (LN hR.len hR.kv (a:=none) (fun q e=>by cases e)) hv
 rw[Dg ho]
 have hy:A0 s.t W5=some AQ:=rfl
 have key:∀ c:Bool,aop E.P (LO.oper ⟨some d,.binOp op xt x W5 yt,ty,gd⟩) s.t s.h s.n=some (bv c,[])→Og E lit ⟨some d,.binOp op xt x W5 yt,ty,gd⟩ s=some ⟨C3 s.t (some d) (bv c),s.h,s.n⟩:=fun c e=>by
  rw[Lx (o:=⟨some d,.binOp op xt x W5 yt,ty,gd⟩) hR hg]
  unfold stepG
  simp only[e]
  rfl
 have fin:∀ (c:Bool) (st1:CS),FI N st (some d) (.av (bv c))=some st1→At N F st1 ⟨C3 s.t (some d) (bv c),s.h,s.n⟩:=fun c st1 hp=>
  ⟨ρ,Eo hp (fun _ _ e=>e) hR.len hR.kv hR.hle (fun j hj=>Hm (by rw[hR.len]; exact FA hp hj) (VLe.s_refl _)),hF⟩
 have notNil:(∃ id off len sz,v' = .osl id off len sz)∨(∃ sz rows,v' = .fsl sz rows)∨v' = .esl→∃ s',Og E lit ⟨some d,.binOp op xt x W5 yt,ty,gd⟩ s=some s'∧wpR E lit (R.drop (i + 1)) s' (fun s'=>Q r .normal s'):=fun hc=>by
  refine⟨_,key b ?_,hB _ (fin b _ hpF) r hr2⟩
  have hp:BP s.t x=false:=by
   unfold BP
   rw[h1]
   rcases hc with ⟨_,_,_,_,rfl⟩ | ⟨_,_,rfl⟩ | rfl <;> rfl
  unfold aop
  simp only[LO.oper,hp,Bool.false_and,Bool.false_eq_true,if_false]
  have:zH E.P op xt W5 (A0 s.t x)=some b:=by
   rw[h1]
   rcases hc with ⟨_,_,_,_,rfl⟩ | ⟨_,_,rfl⟩ | rfl <;> exact hu
  rw[this]
  rfl
 have isNil:zG v→v' = AQ→∃ s',Og E lit ⟨some d,.binOp op xt x W5 yt,ty,gd⟩ s=some s'∧wpR E lit (R.drop (i + 1)) s' (fun s'=>Q r .normal s'):=fun hm e=>by
  subst e
  have hc:=hC hm
  refine⟨_,key (!b) ?_,hA hc _ (fin (!b) _ hpT) r (by rw[← hAB hc]; exact hr2)⟩
  have hp:BP s.t x=true:=by unfold BP; rw[h1]; rfl
  have hp2:BP s.t W5=true:=rfl
  have e1:A9 s.t x = .slice none 0 0:=by unfold A9; rw[h1]; rfl
  have e2:A9 s.t W5 = .slice none 0 0:=rfl
  unfold aop
  simp only[LO.oper,hp,hp2,Bool.and_self,if_true,e1,e2]
  have e3:Ym op (.slice none 0 0) (.slice none 0 0)=none:=by unfold Ym; cases op <;> rfl
  rw[e3]
  have e4:DK E.P (A9 s.t) (LO.oper ⟨some d,.binOp op xt x W5 yt,ty,gd⟩)=some (bv (!b)):=by
   rw[← hn]
   unfold DK
   simp only[execOp,LO.oper,e1,e2]
  simp only[LO.oper] at e4
  rw[e4]
  rfl
 rcases hr with ⟨id,off,len,sz,rfl⟩ | ⟨sz,rows,rfl⟩
 · have h3:=h2
   simp only[VLe] at h3
   rcases h3 with ⟨a,sh,_,rfl⟩ | ⟨_,_,e2,rfl | rfl⟩
   · exact notNil (.inl ⟨_,_,_,_,rfl⟩)
   · exact isNil e2 rfl
   · exact notNil (.inr (.inr rfl))
 · rcases VLe.fsl_iff.1 h2 with ⟨rs,rfl,_⟩ | ⟨e,rfl | rfl⟩
   · exact notNil (.inr (.inl ⟨_,_,rfl⟩))
   · exact isNil e rfl
   · exact notNil (.inr (.inr rfl))
end
theorem AFu {α:Type} {c:α→List AV} {l:List α} {n:Nat} (h:zG (.fsl n (l.map c))):l=[]:=List.map_eq_nil_iff.1 h
end Go.Vm
namespace Go.Vm
open Go
def oZ (ops:Array Oper) (c i j:Nat):Option (List (Nat × Nat) × List Nat):=
 match ops[i]?,ops[j]? with
 | some o,some p=>
  cond (Nat.beq j c) (match o.op with | .load _ (.tmp a)=>cond (M8 a (ops.toList.drop i)) (some ([],[a])) none | _=>none)
   (cond (Nat.beq i c) (match p.op with | .load _ (.tmp a)=>cond (M8 a (ops.toList.drop i)) (some ([],[a])) none | _=>none)
    ((cX ops i j).map fun x=>(x,[])))
 | _,_=>none
def aQ (ops:Array Oper) (c:Nat) (an:List Nat) (i:Nat):List Nat→Option (List (Nat × Nat) × List Nat)
 | []=>some ([],[])
 | j :: js=>match cond (Ef an j i) (some ([],[])) (oZ ops c i j),aQ ops c an i js with
  | some x,some y=>some (x.1 ++ y.1,x.2 ++ y.2)
  | _,_=>none
def aS (ops:Array Oper) (c:Nat) (an:List Nat):List Nat→Option (List (Nat × Nat) × List Nat)
 | []=>some ([],[])
 | i :: is=>match aQ ops c an i is,aS ops c an is with
  | some x,some y=>some (x.1 ++ y.1,x.2 ++ y.2)
  | _,_=>none
theorem cY {ops:Array Oper} {c:Nat} {an:List Nat} {i:Nat}:∀ {js:List Nat} {ps:List (Nat × Nat) × List Nat},aQ ops c an i js=some ps→∀ j∈js,Ef an j i=true∨∃ qs,oZ ops c i j=some qs∧(∀ q∈qs.1,q∈ps.1)∧∀ q∈qs.2,q∈ps.2
 | [],_,_,j,hj=>by cases hj
 | k :: js,ps,h,j,hj=>by
  simp only[aQ] at h
  split at h
  · rename_i x y hx hy
    cases h
    rcases List.mem_cons.1 hj with rfl | hj
    · cases hw:Ef an j i with
      | true=>exact .inl rfl
      | false=>
       rw[hw] at hx
       exact .inr ⟨x,hx,fun q hq=>List.mem_append_left _ hq,fun q hq=>List.mem_append_left _ hq⟩
    · rcases cY hy j hj with h1 | ⟨qs,h1,h2,h3⟩
      · exact .inl h1
      · exact .inr ⟨qs,h1,fun q hq=>List.mem_append_right _ (h2 q hq),fun q hq=>List.mem_append_right _ (h3 q hq)⟩
  · cases h
theorem AD2 {E:Env} {r:Rec} {ops:Array Oper} {o:Oper} {s s2:St} {g:FuncId} {args:Array Operand} {ats:Array TypeId} (hop:o.op = .call ⟨.value (.func g),args,ats⟩) (hg:o.guard=none) (h:CJ E r true ops o s=some s2) :
 ∃ F,(match CU ops s.t o with | some true=>fpH E r o.op s.t s.h s.n | _=>some fp0)=some F∧F.W=[]∧∀ x y,F.mem=some (x,y)→x=s.h∧y=s2.h:=by
 have hw:CU ops s.t o=some true:=by unfold CU; rw[hg]
 unfold CJ at h
 rw[hw,hop] at h
 rw[hw,hop]
 simp only[DI,A0] at h ⊢
 cases hvs:D5 s.t args.toList with
 | none=>rw[hvs] at h; cases h
 | some vs=>
  rw[hvs] at h
  simp only[List.append_nil] at h
  cases hc:C1 E r g vs s.h s.n with
  | none=>rw[hc] at h; cases h
  | some q=>
   obtain⟨u,h1,n1⟩:=q
   rw[hc] at h
   cases h
   unfold fpH
   cases hO:Er E (.call ⟨.value (.func g),args,ats⟩) s.t s.n with
   | some F=>
    refine⟨F,rfl,?_,fun x y e=>by rw[t8 hO] at e; cases e⟩
    simp only[Er] at hO
    split at hO
    · cases hO; rfl
    · split at hO
      · obtain⟨w,_,e⟩:=Option.map_eq_some_iff.1 hO
        cases e
        split <;> rfl
      · cases hO
   | none=>
    simp only[fpM,DI,A0,hvs,List.append_nil,hc]
    exact⟨_,rfl,rfl,fun x y e=>by cases e; exact⟨rfl,rfl⟩⟩
theorem c9 {ops:Array Oper} {c:Nat} {an:List Nat} {fps:List (Option Fp)} {t:List AV} {x0 y0:AW}
 (hf:∀ (i:Nat) (o:Oper) (a k:Nat),ops[i]? = some o→QO o=some (a,k)→M8 a (ops.toList.drop (i + k))=true→∃ F:Fp,fps[i]? = some (some F)∧F.all=false∧F.mem=none∧(Ky o.op=true→F.W=[])∧∀ x,(x∈F.R∨x∈F.W)→∀ v,t[a]? = some v→x∈EL v)
 (hc:∃ F:Fp,fps[c]? = some (some F)∧F.W=[]∧∀ x y,F.mem=some (x,y)→x=x0∧y=y0) :
 ∀ {l:List Nat} {ps:List (Nat × Nat) × List Nat},l.Pairwise (· < ·)→aS ops c an l=some ps→(∀ a b,(a,b)∈ps.1→∃ u v,t[a]? = some u∧t[b]? = some v∧∀ x,x∈EL u→x∉EL v)→(∀ a∈ps.2,∃ v,t[a]? = some v∧∀ x∈EL v,y0 x=x0 x)→J2 an fps l=true
 | [],_,_,_,_,_=>rfl
 | i :: is,ps,hpw,h,hne,hq=>by
  obtain⟨hlt,hpw2⟩:=List.pairwise_cons.1 hpw
  simp only[aS] at h
  split at h
  · rename_i x y hx hy
    cases h
    simp only[J2,Bool.and_eq_true,List.all_eq_true,Bool.or_eq_true]
    refine⟨fun j hj=>?_,c9 hf hc hpw2 hy (fun a b hab=>hne a b (List.mem_append_right _ hab)) (fun a ha=>hq a (List.mem_append_right _ ha))⟩
    have hij:=hlt j hj
    rcases cY hx j hj with h1 | ⟨qs,h1,h2,h3⟩
    · exact .inl h1
    · right
      obtain⟨C,c1,c2,c3⟩:=hc
      unfold oZ at h1
      split at h1
      · rename_i o p ho hp
        cases hjc:Nat.beq j c with
        | true=>
         have hjc:=Nat.eq_of_beq_eq_true hjc
         subst hjc
         simp only[Nat.beq_refl,cond_true] at h1
         split at h1
         · rename_i ty a hop
           cases hn:M8 a (ops.toList.drop i) with
           | false=>rw[hn] at h1; cases h1
           | true=>
            rw[hn] at h1
            simp only[cond_true,Option.some.injEq] at h1
            obtain⟨A,e1,e2,em,e3,e4⟩:=hf i o a 0 ho (by simp only[QO,hop]) hn
            have e3:=e3 (by rw[hop]; rfl)
            have ha:=h3 a (by rw[← h1]; simp)
            rw[e1,c1]
            simp only[KH,Fp.apart,em]
            cases hm:C.mem with
            | none=>simp[e3,c2]
            | some q=>
             obtain⟨q1,q2⟩:=q
             obtain⟨rfl,rfl⟩:=c3 _ _ hm
             simp only[e3,e2,List.isEmpty_nil,Bool.not_false,Bool.and_self,Bool.true_and,decide_eq_true_eq]
             intro z hz
             obtain⟨u,u1,u2⟩:=hq a (List.mem_append_left _ ha)
             exact u2 z (e4 z (.inl hz) u u1)
         · cases h1
        | false=>
         rw[hjc] at h1
         simp only[cond_false] at h1
         cases hic:Nat.beq i c with
         | true=>
          have hic:=Nat.eq_of_beq_eq_true hic
          subst hic
          simp only[Nat.beq_refl,cond_true] at h1
          split at h1
          · rename_i ty a hop
            cases hn:M8 a (ops.toList.drop i) with
            | false=>rw[hn] at h1; cases h1
            | true=>
             rw[hn] at h1
             simp only[cond_true,Option.some.injEq] at h1
             have hn2:M8 a (ops.toList.drop j)=true:=by
              have:ops.toList.drop j=(ops.toList.drop i).drop (j - i):=by rw[List.drop_drop]; congr 1; omega
              rw[this]
              exact mP hn
             obtain⟨A,e1,e2,em,e3,e4⟩:=hf j p a 0 hp (by simp only[QO,hop]) hn2
             have e3:=e3 (by rw[hop]; rfl)
             have ha:=h3 a (by rw[← h1]; simp)
             rw[e1,c1]
             simp only[KH,Fp.apart,em]
             cases hm:C.mem with
             | none=>simp[e3,c2]
             | some q=>
              obtain⟨q1,q2⟩:=q
              obtain⟨rfl,rfl⟩:=c3 _ _ hm
              simp only[e3,e2,List.isEmpty_nil,Bool.not_false,Bool.and_self,Bool.true_and,decide_eq_true_eq]
              intro z hz
              obtain⟨u,u1,u2⟩:=hq a (List.mem_append_left _ ha)
              exact u2 z (e4 z (.inl hz) u u1)
          · cases h1
         | false=>
          rw[hic] at h1
          simp only[cond_false] at h1
          obtain⟨qs1,h4,e⟩:=Option.map_eq_some_iff.1 h1
          subst e
          exact AAs hf h4 (fun a b hab=>hne a b (List.mem_append_left _ (h2 _ hab)))
      · cases h1
  · cases h
theorem Yj {E:Env} {ops:Array Oper} {P:St→Prop}:∀ (c:Nat) {l:List Oper} {i:Nat} {s s':St} {L:List LO} {fps:List (Option Fp)},(∀ j,l[j]? = ops[i + j]?)→KI ops l=some L→C4 E (FW E) ops (List.range' i l.length) s=some (fps,s')→c≤l.length→wpR E true (L.take c) s P →
 ∃ s1,P s1∧C4 E (FW E) ops (List.range' (i + c) (l.length - c)) s1=some (fps.drop c,s')
 | 0,l,i,s,s',L,fps,_,_,ht,_,hw=>⟨s,hw,by simpa using ht⟩
 | c + 1,[],i,s,s',L,fps,_,_,_,hc,_=>by simp at hc
 | c + 1,o :: l,i,s,s',L,fps,hi,hL,ht,hc,hw=>by
  simp only[KI] at hL
  split at hL
  · rename_i g l2 hg hl
    cases hL
    obtain⟨s1,h1,h2⟩:=hw
    have h0:=hi 0
    simp only[List.getElem?_cons_zero,Nat.add_zero] at h0
    have h3:=fV hg h1
    rw[List.length_cons,List.range'_succ] at ht
    simp only[C4,← h0,h3] at ht
    split at ht
    · rename_i fs s2 ht2
      cases ht
      obtain⟨s3,p1,p2⟩:=Yj c (i:=i + 1) (fun j=>by have:=hi (j + 1); simp only[List.getElem?_cons_succ] at this; rw[this]; congr 1; omega) hl ht2 (by simpa using hc) h2
      refine⟨s3,p1,?_⟩
      have e1:i + (c + 1)=i + 1 + c:=by omega
      have e2:(o :: l).length - (c + 1)=l.length - c:=by simp only[List.length_cons]; omega
      rw[e1,e2,List.drop_succ_cons]
      exact p2
    · cases ht
  · cases hL
theorem cN {ops:Array Oper} {lo:LO}:∀ {l:List Oper} {L:List LO} {c:Nat},KI ops l=some L→L[c]? = some lo→∃ o g,l[c]? = some o∧ADJ ops o=some g∧lo=⟨o.dst,o.op,o.type,g⟩
 | [],L,c,h,hc=>by cases h; simp at hc
 | o :: l,L,c,h,hc=>by
  simp only[KI] at h
  split at h
  · rename_i g l2 hg hl
    cases h
    cases c with
    | zero=>
     simp only[List.getElem?_cons_zero,Option.some.injEq] at hc
     exact⟨o,g,rfl,hg,hc.symm⟩
    | succ c=>
     simp only[List.getElem?_cons_succ] at hc ⊢
     exact cN hl hc
  · cases h
section
variable {α β:Type} {E:Env} {N:Nat} {F:Fx} {lit:Bool} {st st1:CS} {m:Option α} {Q:α→AX→St→Prop} {b:LC}
def AEl (st:CS) (f:List (Nat × Option Nat)):List Nat→Bool
 | []=>true
 | a :: l=>(match lk st.K a with
  | some (.av (.ptr i _ _ _))=>(lk st.H i).isSome && Hj i f
  | _=>false) && AEl st f l
theorem AAy {f:List (Nat × Option Nat)} {a:Nat}:∀ {l:List Nat},AEl st f l=true→a∈l→∃ i k z o,lk st.K a=some (.av (.ptr i k z o))∧(lk st.H i).isSome=true∧Hj i f=true
 | b :: l,h,hm=>by
  simp only[AEl,Bool.and_eq_true] at h
  rcases List.mem_cons.1 hm with rfl | hm
  · have h1:=h.1
    split at h1
    · rename_i i k z o e
      simp only[Bool.and_eq_true] at h1
      exact⟨i,k,z,o,e,h1.1,h1.2⟩
    · cases h1
  · exact AAy h.2 hm
theorem uD {ops:Array Oper} (R:List LO) (ps:List (Nat × Nat)) (qs:List Nat) (c:Nat) (st1:CS) {d:Option Tmp} {g:FuncId} {args:Array Operand} {ats:Array TypeId} {ty:TypeId} {vs0:List AV} {H0:List (Nat × C0)} {k0 k1:Nat} {m1:Option β} {er:β→AV} {H1:β→List (Nat × C0)}
 (f f2:List (Nat × Option Nat)) (H2:β→List (Nat × C0)) (w:β→AV) (n2:Nat) {st2:β→CS} {q:β→Option α} (hc:CtM E g vs0 H0 k0 m1 er H1 k1) (hA:QU (HOk f st1.H) H0) (hB:∀ r,QU (HBk f f2 st1.H (H1 r)) (H2 r))
 (hk:∀ r,m1=some r→JR E N F true (q r) (R.drop (c + 1)) (st2 r) (AAY ps Q))
 (hpre:(tS E N true (R.take c) st).map (T8 (M7 st1.K) (M7 st1.H))=some st1:=by kernel_rfl)
 (ho:R[c]? = some ⟨d,.call ⟨.value (.func g),args,ats⟩,ty,none⟩:=by rfl)
 (hvr:D5 (tl N st1.K none) args.toList=rens f vs0:=by kernel_rfl) (hvs:(rens f vs0).isSome=true:=by kernel_rfl)
 (hf:(RZ (inH H0 f) && HO k0 f && Vh st1.H f)=true:=by rfl) (hf2:(Lu f st1.n f2 && RZ f2 && HO n2 f2 && Nat.ble st1.n n2)=true:=by rfl)
 (hw:∀ r,ren f2 (w r)=some (er r):=by exact fun _=>rfl) (hput:∀ r,FI N ⟨st1.K,H2 r,n2⟩ d (.av (w r))=some (st2 r):=by exact fun _=>rfl)
 (hq:AEl st1 f qs=true:=by rfl) (hl:KI ops ops.toList=some R:=by kernel_rfl) (hp:aS ops c (Hf ops) (JY ops)=some (ps,qs):=by kernel_rfl) (hn:(qs.all fun a=>M8 a (ops.toList.drop c))=true:=by kernel_rfl):JC E N F (m1.bind q) (.full ops) st Q:=fun s hs r2 hr2=>by
 cases hm:m1 with
 | none=>rw[hm] at hr2; cases hr2
 | some r=>
 rw[hm] at hr2
 have hP:wpR E true (R.take c) s fun sA=>At N F st1 sA:=by
  obtain⟨st',p1,p2⟩:=Option.map_eq_some_iff.1 hpre
  obtain⟨ρ,hR,hF⟩:=hs
  have:=UY (l2:=[]) (Q:=fun sA=>At N F st1 sA) hR p1 fun s1 ρ1 h3 h4=>(by
   show At N F st1 s1
   rw[← p2]
   exact⟨ρ1,rR h3,hF.trans h4⟩)
  rw[List.append_nil] at this
  exact this
 have hS:∀ sA,At N F st1 sA→∃ sB,Og E true ⟨d,.call ⟨.value (.func g),args,ats⟩,ty,none⟩ sA=some sB∧At N F (st2 r) sB ∧
  ∀ a i k z o,lk st1.K a=some (.av (.ptr i k z o))→(lk st1.H i).isSome=true→Hj i f=true→∀ v,sA.t[a]? = some v→∀ id∈EL v,sB.h id=sA.h id:=
  fun sA hA2=>bH (lit:=true) (ty:=ty) (ats:=ats) (gd:=none) f f2 H2 w n2 hc hA hB rfl hvr hvs hf hf2 hw hput hA2 hm
 have hW:wpR E true R s (AAY ps Q r2 .normal):=by
  refine AA6 c _ hP fun sA hA2=>?_
  obtain⟨sB,e1,e2,_⟩:=hS sA hA2
  rw[Dg ho]
  exact⟨sB,e1,hk r hm sB e2 r2 hr2⟩
 obtain⟨s',h1,_,h2,h3⟩:=Mp hl hW
 refine⟨s',?_,h3⟩
 unfold Dv
 simp only
 by_cases ha:E4 (Hf ops) (JY ops)=true
 · rw[if_pos ha]; exact h1
 · rw[if_neg ha]
   obtain⟨fps,t1,t2⟩:=O3 (fun i hi=>List.mem_range.1 hi) h1
   obtain⟨o,gd,o1,o2,o3⟩:=cN hl ho
   have hc2:c < ops.toList.length:=by
    rcases Nat.lt_or_ge c ops.toList.length with hlt | hge
    · exact hlt
    · rw[List.getElem?_eq_none hge] at o1; cases o1
   have o1':ops[c]? = some o:=by rw[← Array.getElem?_toList]; exact o1
   obtain⟨sA,a1,a2⟩:=Yj (P:=fun sA=>At N F st1 sA) c (l:=ops.toList) (i:=0) (fun j=>by simp) hl (by rw[List.range_eq_range'] at t1; simpa using t1) (by omega) hP
   obtain⟨sB,b1,b2,b3⟩:=hS sA a1
   injection o3 with q1 q2 q3 q4
   subst q4
   rw[q1,q2,q3] at b1
   have b4:=fV o2 b1
   have hr:List.range' (0 + c) (ops.toList.length - c)=c :: List.range' (c + 1) (ops.toList.length - c - 1):=by
    have:ops.toList.length - c=(ops.toList.length - c - 1) + 1:=by omega
    rw[Nat.zero_add,this,List.range'_succ]; rfl
   have a3:=a2
   rw[hr] at a3
   simp only[C4,o1',b4] at a3
   split at a3
   · rename_i fs s4 ht2
     simp only[Option.some.injEq,Prod.mk.injEq] at a3
     have hog:o.guard=none:=by
      unfold ADJ at o2
      split at o2
      · rename_i e; exact e
      · split at o2
        · cases o2
        · cases o2
     obtain⟨C,c1,c2,c3⟩:=AD2 (r:=FW E) q2.symm hog b4
     have hfc:fps[c]? = some (some C):=by
      have:(fps.drop c)[0]? = some (some C):=by rw[← a3.1,List.getElem?_cons_zero]; exact congrArg some c1
      simpa using this
     have hdrop:∀ a,M8 a (ops.toList.drop c)=true→s'.t[a]? = sA.t[a]?:=fun a hna=>by
      refine TN (a:=a) a2 fun j hj p hp=>aO hna p ?_
      obtain⟨k,hk,e⟩:=List.mem_iff_getElem.1 hj
      simp only[List.getElem_range',Nat.zero_add,Nat.one_mul] at e
      subst e
      refine List.mem_iff_getElem?.2 ⟨k,?_⟩
      rw[List.getElem?_drop,Array.getElem?_toList]
      exact hp
     have hfp:∀ (i:Nat) (o:Oper) (a k:Nat),ops[i]? = some o→QO o=some (a,k)→M8 a (ops.toList.drop (i + k))=true→∃ F:Fp,fps[i]? = some (some F)∧F.all=false∧F.mem=none∧(Ky o.op=true→F.W=[])∧∀ x,(x∈F.R∨x∈F.W)→∀ v,s'.t[a]? = some v→x∈EL v:=by
      intro i o a ka ho hd hw
      have hi:i < ops.size:=by
       rcases Nat.lt_or_ge i ops.size with hlt | hge
       · exact hlt
       · rw[Array.getElem?_eq_none hge] at ho; cases ho
      refine VR t1 i i o a ka (List.getElem?_range hi) ho hd fun j hj p hp=>?_
      refine aO hw p ?_
      obtain⟨k,hk,e⟩:=List.mem_iff_getElem.1 hj
      simp only[List.getElem_drop,List.getElem_range] at e
      subst e
      refine List.mem_iff_getElem?.2 ⟨k,?_⟩
      rw[List.getElem?_drop,Array.getElem?_toList]
      exact hp
     have hqq:∀ a∈qs,∃ v,s'.t[a]? = some v∧∀ x∈EL v,sB.h x=sA.h x:=by
      intro a haq
      obtain⟨i,k,z,oo,e1,e2,e3⟩:=AAy hq haq
      obtain⟨ρ,hR,_⟩:=a1
      obtain⟨v,v1,_⟩:=hR.kv a _ e1
      refine⟨v,by rw[hdrop a (List.all_eq_true.1 hn a haq)]; exact v1,fun x hx=>?_⟩
      exact b3 a i k z oo e1 e2 e3 v v1 x hx
     have hpw:(JY ops).Pairwise (· < ·):=List.pairwise_lt_range.filter _
     rw[t1]
     simp only
     rw[if_pos (c9 (c:=c) hfp ⟨C,hfc,c2,c3⟩ hpw hp h2 hqq)]
   · cases a3
end
end Go.Vm
namespace Go.Vm
open Go
section
variable {α:Type}
end
theorem AEO {α:Type} {E:Env} {N:Nat} {F:Fx} {lit:Bool} {st:CS} {Q:α→AX→St→Prop} {l:List LO}:JR E N F lit (none:Option α) l st Q:=fun s hs r hr=>by cases hr
end Go.Vm
namespace Go.Vm
open Go
section
variable {α:Type} {P:Program} {t:List AV} {h:AW} {n:Nat} {d:Option Tmp} {ty:TypeId} {gd:Option (Tmp × Bool)}
end
theorem wK {α:Type} {f:List (Nat × Option Nat)} {c:α→AV} (hc:∀ a,ren f (c a)=some (c a)) {rest rest':List AV} (h:rens f rest' = some rest):∀ L:List α,rens f (L.map c ++ rest')=some (L.map c ++ rest)
 | []=>h
 | a :: L=>by
  show rens f (c a :: (L.map c ++ rest'))=_
  unfold rens
  rw[hc a,wK hc h L]
  rfl
theorem hA {α:Type} {f:List (Nat × Option Nat)} {H:List (Nat × C0)} {c:α→AV} {L:List α} {rest rest':List AV} {i sz:Nat} (j:Nat) (hc:∀ a,ren f (c a)=some (c a):=by exact fun _=>rfl) (h1:lk f i=some (some j):=by rfl) (h2:lk H j=some (.rows sz [L.map c ++ rest]):=by rfl) (h4:rens f rest' = some rest:=by kernel_rfl):HOk f H (i,.rows sz [L.map c ++ rest']):=
 .inl ⟨j,_,_,_,h1,h2,rfl,.inl (by
  unfold UF
  rw[wK hc h4 L]
  rfl)⟩
end Go.Vm
namespace Go.Vm
open Go
theorem hK {f:List (Nat × Option Nat)} {H:List (Nat × C0)} {i:Nat} {es:List (Value × AV)} (j:Nat) (hn:QN (es.map (·.2))) (h1:lk f i=some (some j):=by rfl) (h2:lk H j=some (.map es):=by rfl):HOk f H (i,.map es):=
 .inr (.inr (.inr ⟨j,es,h1,h2,rfl,hn⟩))
section
variable {P:Program} {t:List AV} {h:AW} {n:Nat} {d:Option Tmp} {ty:TypeId} {gd:Option (Tmp × Bool)}
theorem GU {mt kt et:TypeId} {x k:Operand} {es:List (Value × Value)} {kk kj:Str} {v:AV} (he:(kk == kj)=true) (hx:A0 t x=some (.fmp es)) (hu:P.underlying mt=some (.map kt et)) (hkv:A0 t k=some (bs kk)) (hl:Rj P et false (HF P kt (.string ⟨kj.toArray⟩) (es.map fun e=>(e.1,Vr e.2)))=some v) :
 aop P (LO.oper ⟨d,.lookup mt x k false,ty,gd⟩) t h n=some (v,[]):=by
 obtain rfl:kk=kj:=by simpa using he
 unfold aop Gz
 have ht:Bc (bs kk)=some (.string ⟨kk.toArray⟩):=rfl
 simp only[LO.oper,hu,hx,hkv,Option.bind_some,QS,ht,hl,Option.map_some]
end
theorem YP {E:Env} {N:Nat} {F:Fx} {lit:Bool} {α:Type} {b:Bool} {m1 m2:Option α} {l:List LO} {st:CS} {Q:α→AX→St→Prop} (h1:b=true→JR E N F lit m1 l st Q) (h2:b=false→JR E N F lit m2 l st Q):JR E N F lit (if b=true then m1 else m2) l st Q:=fun s hs r hr=>by
 cases hb:b with
 | true=>rw[hb,if_pos rfl] at hr; exact h1 hb s hs r hr
 | false=>rw[hb,if_neg (by decide)] at hr; exact h2 hb s hs r hr
section
abbrev AE (n:Nat):Operand:=.tmp n
abbrev CL (p1 p2 p3:Nat) (p4:Int) (p5 p6 p7:Nat) (p8:Bool):LO:=lg p1 (.binOp .add p2 (.tmp p3) (.const (.int .i64 p4)) p5) p6 p7 p8
abbrev A1 (p1 p2 p3:Nat) (p4:Int) (p5 p6 p7:Nat) (p8:Bool):LO:=lg p1 (.binOp .eql p2 (.tmp p3) (.const (.int .u8 p4)) p5) p6 p7 p8
abbrev Bb (p1 p2 p3 p4 p5 p6 p7:Nat) (p8:Bool):LO:=lg p1 (.binOp .eql p2 (.tmp p3) (.tmp p4) p5) p6 p7 p8
abbrev Cw (p1 p2 p3:Nat) (p4:Int) (p5 p6 p7:Nat) (p8:Bool):LO:=lg p1 (.binOp .leq p2 (.tmp p3) (.const (.int .u8 p4)) p5) p6 p7 p8
abbrev BF (p1:Nat) (p2:Array Operand) (p3:Array TypeId) (p4 p5:Nat) (p6:Bool):LO:=lg p1 (.call ⟨.builtin .len,p2,p3⟩) p4 p5 p6
abbrev A7 (p1 p2:Nat) (p3:Array Operand) (p4:Array TypeId) (p5 p6:Nat) (p7:Bool):LO:=lg p1 (.call ⟨.value (.func p2),p3,p4⟩) p5 p6 p7
abbrev AM (p1 p2 p3 p4 p5 p6:Nat) (p7:Bool):LO:=lg p1 (.fieldAddr p2 (.tmp p3) p4) p5 p6 p7
abbrev BQ (p1 p2 p3 p4 p5 p6:Nat) (p7:Bool):LO:=lg p1 (.index p2 (.tmp p3) (.tmp p4)) p5 p6 p7
abbrev Aa (p1 p2 p3 p4 p5:Nat) (p6:Bool):LO:=lg p1 (.load p2 (.tmp p3)) p4 p5 p6
abbrev Ao (p1 p2 p3 p4:Nat) (p5:Bool):LO:=lg p1 (.nilCheck (.tmp p2)) p3 p4 p5
abbrev FR (p1 p2 p3 p4 p5:Nat) (p6:Bool):LO:=lg p1 (.pick (.tmp p2) (.const (.bool true)) (.tmp p3)) p4 p5 p6
abbrev Dr (p1 p2 p3 p4 p5:Nat) (p6:Bool):LO:=lg p1 (.pick (.tmp p2) (.tmp p3) (.const (.bool false))) p4 p5 p6
abbrev Ay (p1 p2 p3 p4 p5:Nat) (p6:Bool):LO:=lg p1 (.unOp .not p2 (.tmp p3)) p4 p5 p6
abbrev Ds (p1 p2 p3:Nat):LO:=ln (.store p1 (.tmp p2) (.const (.bool true))) p3
abbrev AO (p1 p2 p3 p4:Nat):LO:=ln (.store p1 (.tmp p2) (.tmp p3)) p4
abbrev BH (p1 p2 p3:Nat):LO:=lo p1 (.alloc p2) p3
abbrev Ag (p1 p2:Nat):LO:=lo p1 (.assign (.const (.bool false))) p2
abbrev Ed (p1 p2:Nat):LO:=lo p1 (.assign (.const (.bool true))) p2
abbrev Ap (p1:Nat) (p2:Int) (p3:Nat):LO:=lo p1 (.assign (.const (.int .i64 p2))) p3
abbrev Hl (p1:Nat) (p2:Int) (p3:Nat):LO:=lo p1 (.assign (.const (.int .u8 p2))) p3
abbrev A8 (p1:Nat) (p2:Array UInt8) (p3:Nat):LO:=lo p1 (.assign (.const (.string ⟨p2⟩))) p3
abbrev AB (p1 p2 p3:Nat):LO:=lo p1 (.assign (.tmp p2)) p3
abbrev Bd (p1:Nat) (p2:Operand) (p3:Nat):LO:=lo p1 (.assign p2) p3
abbrev Af (p1 p2 p3:Nat) (p4:Int) (p5 p6:Nat):LO:=lo p1 (.binOp .add p2 (.tmp p3) (.const (.int .i64 p4)) p5) p6
abbrev Bk (p1 p2 p3 p4 p5 p6:Nat):LO:=lo p1 (.binOp .add p2 (.tmp p3) (.tmp p4) p5) p6
abbrev Aw (p1 p2 p3:Nat) (p4:Int) (p5 p6:Nat):LO:=lo p1 (.binOp .eql p2 (.tmp p3) (.const (.int .i64 p4)) p5) p6
abbrev Bt (p1 p2 p3:Nat) (p4:Int) (p5 p6:Nat):LO:=lo p1 (.binOp .eql p2 (.tmp p3) (.const (.int .u8 p4)) p5) p6
abbrev BK (p1 p2 p3:Nat) (p4:Array UInt8) (p5 p6:Nat):LO:=lo p1 (.binOp .eql p2 (.tmp p3) (.const (.string ⟨p4⟩)) p5) p6
abbrev CV (p1 p2 p3 p4 p5 p6:Nat):LO:=lo p1 (.binOp .eql p2 (.tmp p3) (.tmp p4) p5) p6
abbrev DH (p1 p2 p3:Nat) (p4:Int) (p5 p6:Nat):LO:=lo p1 (.binOp .geq p2 (.tmp p3) (.const (.int .i64 p4)) p5) p6
abbrev Cy (p1 p2 p3:Nat) (p4:Int) (p5 p6:Nat):LO:=lo p1 (.binOp .geq p2 (.tmp p3) (.const (.int .u8 p4)) p5) p6
abbrev CW (p1 p2 p3 p4 p5 p6:Nat):LO:=lo p1 (.binOp .geq p2 (.tmp p3) (.tmp p4) p5) p6
abbrev DJ (p1 p2 p3:Nat) (p4:Int) (p5 p6:Nat):LO:=lo p1 (.binOp .gtr p2 (.tmp p3) (.const (.int .i64 p4)) p5) p6
abbrev D0 (p1 p2 p3:Nat) (p4:Int) (p5 p6:Nat):LO:=lo p1 (.binOp .lss p2 (.tmp p3) (.const (.int .i64 p4)) p5) p6
abbrev Al (p1 p2 p3 p4 p5 p6:Nat):LO:=lo p1 (.binOp .lss p2 (.tmp p3) (.tmp p4) p5) p6
abbrev BM (p1 p2 p3:Nat) (p4:Int) (p5 p6:Nat):LO:=lo p1 (.binOp .neq p2 (.tmp p3) (.const (.int .i64 p4)) p5) p6
abbrev Em (p1 p2 p3:Nat) (p4:Array UInt8) (p5 p6:Nat):LO:=lo p1 (.binOp .neq p2 (.tmp p3) (.const (.string ⟨p4⟩)) p5) p6
abbrev Ck (p1 p2 p3 p4 p5 p6:Nat):LO:=lo p1 (.binOp .neq p2 (.tmp p3) (.tmp p4) p5) p6
abbrev BT (p1 p2 p3 p4:Nat):LO:=lo p1 (.box p2 (.tmp p3)) p4
abbrev DP (p1:Nat) (p2:Array Operand) (p3:Array TypeId) (p4:Nat):LO:=lo p1 (.call ⟨.builtin .append,p2,p3⟩) p4
abbrev Ai (p1:Nat) (p2:Array Operand) (p3:Array TypeId) (p4:Nat):LO:=lo p1 (.call ⟨.builtin .len,p2,p3⟩) p4
abbrev AN (p1 p2:Nat) (p3:Array Operand) (p4:Array TypeId) (p5:Nat):LO:=lo p1 (.call ⟨.value (.func p2),p3,p4⟩) p5
abbrev Aq (p1 p2 p3 p4:Nat):LO:=lo p1 (.extract (.tmp p2) p3) p4
abbrev AA (p1 p2 p3 p4 p5:Nat):LO:=lo p1 (.fieldAddr p2 (.tmp p3) p4) p5
abbrev A6 (p1 p2 p3 p4 p5:Nat):LO:=lo p1 (.indexAddr p2 (.tmp p3) (.tmp p4)) p5
abbrev AF (p1 p2 p3 p4:Nat):LO:=lo p1 (.load p2 (.tmp p3)) p4
abbrev CG (p1:Nat) (p2:Int) (p3:Nat):LO:=lo p1 (.move (.const (.int .i64 p2))) p3
abbrev AH (p1 p2 p3:Nat):LO:=lo p1 (.nilCheck (.tmp p2)) p3
abbrev Ak (p1 p2 p3 p4:Nat):LO:=lo p1 (.pick (.tmp p2) (.const (.bool true)) (.tmp p3)) p4
abbrev AS (p1 p2 p3 p4:Nat):LO:=lo p1 (.pick (.tmp p2) (.tmp p3) (.const (.bool false))) p4
abbrev BR (p1 p2 p3 p4:Nat):LO:=lo p1 (.unOp .not p2 (.tmp p3)) p4
theorem Bp {E:Env} {g:FuncId} {N:Nat} {rs:List ResultVar} {L:LC} (fn:Func) (h1:E.P.funcs[g]? = some fn:=by kernel_rfl) (h2:fn.body.isSome=true:=by kernel_rfl) (h3:GX E (G0 fn)=some L:=by kernel_rfl) (h4:fn.ntmps=N:=by kernel_rfl) (h5:fn.results.toList=rs:=by kernel_rfl) (h6:E.prim g=none:=by rfl) (h7:E.primM g=none:=by rfl):Bf E g N rs L:=⟨⟨fn,h1,h2,h3,h4,h5⟩,h6,h7⟩
theorem CN {α:Type} {m:Option α} {E:Env} {N:Nat} {L:LC} {g:FuncId} {rs:List ResultVar} {vs:List AV} {er:α→AV} (k:Bf E g N rs L) (hj:JC E N Fx.nil m L ⟨RP 0 vs,[],0⟩ (tD E rs er)) (hpf:E.pf g=true:=by rfl) (hN:vs.length≤N:=by exact Nat.le_of_ble_eq_true rfl) (hs:B4 (Cj AW.nil depth) vs=some (vs,false):=by kernel_rfl):Ct E g vs m er:=ACe k hpf hN hs hj
theorem BO {α:Type} {E:Env} {N:Nat} {F:Fx} {st:CS} {rs:List ResultVar} {er:α→AV} {r:α} {q:Bool} (v:AV) (hr:Ce E.P rs (tl N st.K none) (hl st.H)=some v:=by kernel_rfl) (hs:Cj (hl st.H) depth v=some (er r,q):=by rfl):JX N F (some r) .ret st (tD E rs er):=Hk (.inr rfl) hr hs (AP _)
theorem BV {N:Nat} {st:CS} {K':List (Nat × KV)} {n':Nat} (hb:(YE K' && RZ (inH ([]:List (Nat × C0)) []) && HO n' [])=true:=by rfl) (hK:K'.map (fun p=>((lk st.K p.1).bind kvw).map some)=K'.map (fun p=>some ((kvw p.2).bind (ren []))):=by kernel_rfl):Wk N Fx.nil st ⟨K',[],n'⟩:=wkR [] (Am _) AD hb hK
end
end Go.Vm

/- The law PyspecBetween, a part of its proof: what the functions that it reaches compute. -/
import Derived.Test.YtdenfejaedgehaaGreatDoorQ0PyspecBetween
import Derived.Test.YtdenfejaedgehaaGreatDoorG0PyspecBetween
import Derived.Test.YtdenfejaedgehaaGreatDoorG1PyspecBetween
import Derived.Test.YtdenfejaedgehaaGreatDoorG3PyspecBetween
import Derived.Test.YtdenfejaedgehaaGreatDoorG2PyspecBetween
set_option linter.unusedVariables false
set_option linter.unusedSimpArgs false
set_option linter.unusedVariables false
set_option linter.unusedSimpArgs false
set_option linter.unusedSectionVars false
namespace Go.Vm
open Go
theorem ADM:∀ {l:List AK} {c:AK},c∈l→(opT c).length≤(C8 l).length
 | c :: [],x,h=>by
  rw[List.mem_singleton.1 h,TL]
  exact Nat.le_refl _
 | c :: y :: l,x,h=>by
  have:C8 (c :: y :: l)=opT c ++ 44 :: C8 (y :: l):=by
   unfold C8
   rw[List.map_cons,List.map_cons,join_cons]
   try rfl
  rw[this]
  simp only[List.length_append,List.length_cons]
  rcases List.mem_cons.1 h with rfl | h
  · omega
  · have:=ADM h
    omega
theorem uV {s:Str} {l:List AK} (h:HQ s=some l):∀ c∈l,c.Op.length≤256∧c.Ver.length≤256:=fun c hc=>by
 obtain⟨_,_,h3,h4⟩:=Ms h
 have:=ADM hc
 unfold opT at this
 simp only[List.length_append] at this
 omega
def vP (c:AK):Bool:=!((c.Op == neW) || (c.Op == [60]) || (c.Op == [62]) || (c.Op == QV)) && !c.Star && decide ((Au c.Ver).2.Err=0) && bS c && jB (Au c.Ver).1
theorem AFU (l:List AK) (hn:l.length≤1048576) (hl:∀ c∈l,c.Op.length≤256∧c.Ver.length≤256):ME l=some (l.any vP):=by
 unfold ME
 have:=D7 (f:=J4 l) (fun x=>∃ i:Nat,x=(i:Int)∧i≤l.length) (fun x=>l.length - x.toNat) (fun x=>match (l.drop x.toNat).any vP with
  | true=>Sum.inl ()
  | false=>Sum.inr ()) (fun x hx=>by
  obtain⟨i,rfl,hi⟩:=hx
  unfold J4
  simp only[Int.toNat_natCast]
  rcases Nat.lt_or_ge i l.length with h | h
  · obtain⟨o1,o2⟩:=hl _ (List.getElem_mem h)
    rw[if_pos (by simpa using h),E6 h,UJ i (by omega),List.drop_eq_getElem_cons h,List.any_cons]
    simp only[Option.bind_some]
    rw[Hq,ADX _ (by omega) (by omega)]
    simp only[Option.bind_some,N2]
    have hb:(Option.bind ((if (l[i].Op == [33,61])=true then some true else (if (l[i].Op == [60])=true then some true else (if (l[i].Op == [62])=true then some true else some (l[i].Op == [61,61,61])))):Option (Bool)) (fun x25=>(if x25=true then some (Sum.inl ()) else Option.bind (if ((!l[i].Star) && ((Au l[i].Ver).2.Err == 0))=true then some (bS l[i]) else some false:Option (Bool)) (fun x28=>Option.bind (if x28=true then Option.bind (J3 (Au l[i].Ver).1) (fun x32=>some x32) else some false:Option (Bool)) (fun x31=>(if x31=true then some (Sum.inr ()) else some (Sum.inl ())))))):Option (Unit ⊕ Unit))=some (if vP l[i]=true then Sum.inr () else Sum.inl ()):=by
     unfold vP J3
     have q2:([33,61]:Str)=neW:=rfl
     have q4:([61,61,61]:Str)=QV:=rfl
     have q5:((Au l[i].Ver).2.Err == 0)=decide ((Au l[i].Ver).2.Err=0):=by rw[Bool.eq_iff_iff]; simp
     rw[q2,q4,q5]
     show _=some (if ((!((l[i].Op == neW) || (l[i].Op == [60]) || (l[i].Op == [62]) || (l[i].Op == QV)) && !l[i].Star && decide ((Au l[i].Ver).2.Err=0) && bS l[i] && (((Au l[i].Ver).1.Pre != 0) || (Au l[i].Ver).1.Dev)))=true then Sum.inr () else Sum.inl ())
     cases (l[i].Op == neW) <;> cases (l[i].Op == [60]) <;> cases (l[i].Op == [62]) <;> cases (l[i].Op == QV) <;> cases l[i].Star <;> cases decide ((Au l[i].Ver).2.Err=0) <;> cases bS l[i] <;> cases (((Au l[i].Ver).1.Pre != 0) || (Au l[i].Ver).1.Dev) <;> rfl
    rw[hb]
    cases hp:vP l[i] with
    | true=>left; rfl
    | false=>
     right
     exact⟨_,rfl,⟨i + 1,rfl,h⟩,by simp only[Int.toNat_natCast]; omega,by simp only[Int.toNat_natCast,Bool.false_or]⟩
  · left
    rw[if_neg (by simp; omega),List.drop_of_length_le h]
    rfl) (x:=(0:Int)) ⟨0,rfl,Nat.zero_le _⟩
 rw[this]
 simp only[Option.bind_some,Int.toNat_zero,List.drop_zero]
 cases l.any vP <;> rfl
def ADK (s t:Str):Bool:=match HQ s with
 | none=>false
 | some l=>decide ((Au t).2.Err=0) && l.all (RY · t) && (!jB (Au t).1 || l.any vP)
theorem AFV (l:List AK) (t:Str) (hn:l.length≤1048576) (hl:∀ c∈l,c.Op.length≤256∧c.Ver.length≤256) (ht:t.length≤1048576):CD (FU t l) 0=some (l.all (RY · t)):=by
 have:=D7 (f:=FU t l) (fun x=>∃ i:Nat,x=(i:Int)∧i≤l.length) (fun x=>l.length - x.toNat) (fun x=>(l.drop x.toNat).all (RY · t)) (fun x hx=>by
  obtain⟨i,rfl,hi⟩:=hx
  unfold FU
  simp only[Int.toNat_natCast]
  rcases Nat.lt_or_ge i l.length with h | h
  · obtain⟨o1,o2⟩:=hl _ (List.getElem_mem h)
    rw[if_pos (by simpa using h),E6 h,UJ i (by omega),List.drop_eq_getElem_cons h,List.all_cons]
    simp only[Option.bind_some]
    rw[MC _ _ (by omega) (by omega) ht]
    simp only[Option.bind_some]
    cases RY l[i] t with
    | false=>left; rfl
    | true=>
     right
     exact⟨_,rfl,⟨i + 1,rfl,h⟩,by simp only[Int.toNat_natCast]; omega,by simp only[Int.toNat_natCast,Bool.true_and]⟩
  · left
    rw[if_neg (by simp; omega),List.drop_of_length_le h]
    rfl) (x:=(0:Int)) ⟨0,rfl,Nat.zero_le _⟩
 rw[this]
 simp
theorem Ga (s t:Str) (ht:t.length≤1048576):CM s t=some (ADK s t):=by
 unfold CM ADK
 rw[dO,Hq]
 obtain⟨h1,h2⟩:=W8 s
 simp only[Option.bind_some,N2]
 cases hq:HQ s with
 | none=>
  obtain⟨g1,g2⟩:=h2 hq
  rw[if_pos (by simp[g2])]
 | some l=>
  rw[h1 l hq]
  obtain⟨_,k2,_,_⟩:=Ms hq
  have hsm:=uV hq
  simp only
  by_cases hp:(Au t).2.Err=0
  · rw[if_neg (by simp[hp]),AFV l t (by omega) hsm ht,decide_eq_true hp,AFU l (by omega) hsm]
    simp only[Option.bind_some,J3]
    unfold jB
    cases l.all (RY · t) <;> cases ((Au t).1.Pre != 0 || (Au t).1.Dev) <;> cases l.any vP <;> rfl
  · rw[if_pos (by simp[hp]),decide_eq_false hp]
    rfl
theorem ADI:HW=some true:=by
 unfold HW
 simp only[dO]
 rw[Ga _ _ (by decide),Ga _ _ (by decide),Ga _ _ (by decide),Ga _ _ (by decide),Ga _ _ (by decide),Ga _ _ (by decide),Ga _ _ (by decide),Ga _ _ (by decide),Ga _ _ (by decide),Ga _ _ (by decide),Ga _ _ (by decide)]
 decide +kernel
theorem AEC {v:Ac} (h:Ua v=true):Ua (EG v)=true:=by
 unfold Ua at h ⊢
 simp only[Bool.and_eq_true] at h ⊢
 exact⟨h.1,rfl⟩
theorem AE8 {a1 a2 a3 a4 a5 a6 a7 a8 q p:Int} (hp:p≤0) (h:(if a1≠0 then a1 else if a2≠0 then a2 else if a3≠0 then a3 else if a4≠0 then a4 else if a5≠0 then a5 else if a6≠0 then a6 else if a7≠0 then a7 else if a8≠0 then a8 else q) < 0) :
 (if a1≠0 then a1 else if a2≠0 then a2 else if a3≠0 then a3 else if a4≠0 then a4 else if a5≠0 then a5 else if a6≠0 then a6 else if a7≠0 then a7 else if a8≠0 then a8 else p)≤0:=by
 by_cases h1:a1≠0
 · rw[if_pos h1] at h ⊢; omega
 rw[if_neg h1] at h ⊢
 by_cases h2:a2≠0
 · rw[if_pos h2] at h ⊢; omega
 rw[if_neg h2] at h ⊢
 by_cases h3:a3≠0
 · rw[if_pos h3] at h ⊢; omega
 rw[if_neg h3] at h ⊢
 by_cases h4:a4≠0
 · rw[if_pos h4] at h ⊢; omega
 rw[if_neg h4] at h ⊢
 by_cases h5:a5≠0
 · rw[if_pos h5] at h ⊢; omega
 rw[if_neg h5] at h ⊢
 by_cases h6:a6≠0
 · rw[if_pos h6] at h ⊢; omega
 rw[if_neg h6] at h ⊢
 by_cases h7:a7≠0
 · rw[if_pos h7] at h ⊢; omega
 rw[if_neg h7] at h ⊢
 by_cases h8:a8≠0
 · rw[if_pos h8] at h ⊢; omega
 rw[if_neg h8]
 exact hp
theorem AEb {v w:Ac} (hw:w.Local=[]) (hv:Ua v=true) (hw2:Ua w=true) (h:G1 v w < 0):G1 (EG v) w≤0:=by
 unfold G1 at h ⊢
 rw[if_pos ⟨hv,hw2⟩] at h
 rw[if_pos ⟨AEC hv,hw2⟩]
 have hl:Ki [] lpM ([]:List Str) w.Local≤0:=by
  rw[hw,(ADO (m:=[]) AEa).refl]
  exact Int.le_refl 0
 exact AE8 hl h
theorem JQ {o v:Str} (ho:o∈Cs) (hne:o≠QV) (hp:(Au v).2.Err=0) (hl:(Au v).1.Local=[]∨o=eqW∨o=neW):bS ⟨o,v,false⟩ = !((o == teW) && decide ((Au v).1.Release.length < 2)):=by
 obtain⟨c1,c2,c3⟩:=N5 hp
 have hlen:o.length≤3:=by
  have all:∀ w∈Cs,w.length≤3:=by decide
  exact all _ ho
 have hw:LD o false (Au v).1=((o == teW) && decide ((Au v).1.Release.length < 2)):=by
  unfold LD
  rcases hl with h | h | h
  · rw[h]; simp
  · rw[h]; simp[eqW,neW,teW]
  · rw[h]; simp[eqW,neW,teW]
 rw[Bool.eq_iff_iff,tI]
 constructor
 · rintro⟨⟨_,_,_,h4⟩,_⟩
   rcases h4 with ⟨a,_⟩ | ⟨_,_,d,_⟩
   · exact absurd a hne
   · simp only at d
     rw[hw] at d
     rw[d]
     rfl
 · intro h
   refine⟨⟨ho,c2,fun x hx=>(aP (c1 x hx)).1,.inr ⟨hne,hp,?_,fun q=>by cases q⟩⟩,?_⟩
   · simp only
     rw[hw]
     cases hx:((o == teW) && decide ((Au v).1.Release.length < 2)) with
     | false=>rfl
     | true=>rw[hx] at h; cases h
   · unfold opT
     simp only[List.length_append,Bool.false_eq_true,if_false,List.length_nil]
     omega
theorem UK (a0 a1:Str) (m0:a0.length + 1≤1048576) (m1:a1.length + 1≤1048576):Dw a0 a1=some true:=by
 unfold Dw BE
 rw[eV]
 simp only[Option.bind_some,ADI]
 by_cases hg:(Au a0).2.Err=0∧(Au a0).1.Local=[]
 · obtain⟨h1,h2⟩:=hg
   rw[if_neg (by simp[h1,h2])]
   rw[MC _ _ (by simp) (by simp only; omega) (by omega),MC _ _ (by simp) (by simp only; omega) (by omega),MC _ _ (by simp) (by simp only; omega) (by omega),MC _ _ (by simp) (by simp only; omega) (by omega),MC _ _ (by simp) (by simp only; omega) (by omega),MC _ _ (by simp) (by simp only; omega) (by omega)]
   simp only[Option.bind_some]
   unfold RY
   simp only
   have f1:=JQ (o:=[126,61]) (by decide) (by decide) h1 (.inl h2)
   have f2:=JQ (o:=[62,61]) (by decide) (by decide) h1 (.inl h2)
   have f3:=JQ (o:=[60]) (by decide) (by decide) h1 (.inl h2)
   have f4:=JQ (o:=[62]) (by decide) (by decide) h1 (.inl h2)
   have f5:=JQ (o:=[60,61]) (by decide) (by decide) h1 (.inl h2)
   have f6:=JQ (o:=[61,61]) (by decide) (by decide) h1 (.inl h2)
   have n2:(([62,61]:Str) == teW)=false:=by decide
   have n3:(([60]:Str) == teW)=false:=by decide
   have n4:(([62]:Str) == teW)=false:=by decide
   have n5:(([60,61]:Str) == teW)=false:=by decide
   have n6:(([61,61]:Str) == teW)=false:=by decide
   rw[n2] at f2
   rw[n3] at f3
   rw[n4] at f4
   rw[n5] at f5
   rw[n6] at f6
   simp only[Bool.false_and,Bool.not_false] at f2 f3 f4 f5 f6
   rw[f1,f2,f3,f4,f5,f6]
   cases hok:decide ((Au a1).2.Err=0) with
   | false=>rfl
   | true=>
    have hok':=of_decide_eq_true hok
    have v1:=(dB hok').1
    have w1:=(dB h1).1
    have s1:xQ ⟨[126,61],a0,false⟩ a1 (Au a1).1 (Au a0).1=(decide (G1 (EG (Au a1).1) (Au a0).1≥0) && OI (Au a1).1 (Au a0).1.Epoch (Au a0).1.Release.dropLast):=rfl
    have s2:xQ ⟨[62,61],a0,false⟩ a1 (Au a1).1 (Au a0).1=decide (G1 (EG (Au a1).1) (Au a0).1≥0):=rfl
    have s3:xQ ⟨[60],a0,false⟩ a1 (Au a1).1 (Au a0).1=(decide (G1 (Au a1).1 (Au a0).1 < 0) && !(jB (Au a1).1 && !jB (Au a0).1 && (G1 (FQ (Au a1).1) (FQ (Au a0).1) == 0))):=rfl
    have s4:xQ ⟨[62],a0,false⟩ a1 (Au a1).1 (Au a0).1=(decide (G1 (Au a1).1 (Au a0).1 > 0) && !((G1 (FQ (Au a1).1) (FQ (Au a0).1) == 0) && (decide ((Au a1).1.Local.length > 0) || ((Au a1).1.Post && !(Au a0).1.Post)))):=rfl
    have s5:xQ ⟨[60,61],a0,false⟩ a1 (Au a1).1 (Au a0).1=decide (G1 (EG (Au a1).1) (Au a0).1≤0):=rfl
    have s6:xQ ⟨[61,61],a0,false⟩ a1 (Au a1).1 (Au a0).1=(G1 (EG (Au a1).1) (Au a0).1 == 0):=by
     show (G1 (if (Au a0).1.Local.length=0 then EG (Au a1).1 else (Au a1).1) (Au a0).1 == 0)=_
     rw[if_pos (by rw[h2]; rfl)]
    rw[s1,s2,s3,s4,s5,s6]
    have hpub:=AEb (v:=(Au a1).1) h2 v1 w1
    generalize (!(([126,61]:Str) == teW && decide ((Au a0).1.Release.length < 2)))=F
    generalize OI (Au a1).1 (Au a0).1.Epoch (Au a0).1.Release.dropLast=B
    generalize (!(jB (Au a1).1 && !jB (Au a0).1 && (G1 (FQ (Au a1).1) (FQ (Au a0).1) == 0)))=C
    generalize (!((G1 (FQ (Au a1).1) (FQ (Au a0).1) == 0) && (decide ((Au a1).1.Local.length > 0) || ((Au a1).1.Post && !(Au a0).1.Post))))=D
    generalize G1 (EG (Au a1).1) (Au a0).1=P at hpub
    generalize G1 (Au a1).1 (Au a0).1=Q at hpub
    have hP:(P == 0)=decide (P=0):=by rw[Bool.eq_iff_iff]; simp
    rw[hP]
    rcases Int.lt_trichotomy P 0 with hp | hp | hp
    · have e1:decide (P≥0)=false:=decide_eq_false (by omega)
      have e2:decide (P≤0)=true:=decide_eq_true (by omega)
      have e3:decide (P=0)=false:=decide_eq_false (by omega)
      rw[e1,e2,e3]
      rcases Int.lt_trichotomy Q 0 with hq | hq | hq
      · have:decide (Q > 0)=false:=decide_eq_false (by omega)
        rw[this,decide_eq_true hq]
        cases F <;> cases B <;> cases C <;> cases D <;> rfl
      · have a:decide (Q > 0)=false:=decide_eq_false (by omega)
        have b:decide (Q < 0)=false:=decide_eq_false (by omega)
        rw[a,b]
        cases F <;> cases B <;> cases C <;> cases D <;> rfl
      · have b:decide (Q < 0)=false:=decide_eq_false (by omega)
        rw[b]
        cases F <;> cases B <;> cases C <;> cases D <;> rfl
    · have e1:decide (P≥0)=true:=decide_eq_true (by omega)
      have e2:decide (P≤0)=true:=decide_eq_true (by omega)
      have e3:decide (P=0)=true:=decide_eq_true hp
      rw[e1,e2,e3]
      rcases Int.lt_trichotomy Q 0 with hq | hq | hq
      · have:decide (Q > 0)=false:=decide_eq_false (by omega)
        rw[this,decide_eq_true hq]
        cases F <;> cases B <;> cases C <;> cases D <;> rfl
      · have a:decide (Q > 0)=false:=decide_eq_false (by omega)
        have b:decide (Q < 0)=false:=decide_eq_false (by omega)
        rw[a,b]
        cases F <;> cases B <;> cases C <;> cases D <;> rfl
      · have b:decide (Q < 0)=false:=decide_eq_false (by omega)
        rw[b]
        cases F <;> cases B <;> cases C <;> cases D <;> rfl
    · have e1:decide (P≥0)=true:=decide_eq_true (by omega)
      have e2:decide (P≤0)=false:=decide_eq_false (by omega)
      have e3:decide (P=0)=false:=decide_eq_false (by omega)
      have b:decide (Q < 0)=false:=decide_eq_false (fun q=>by have:=hpub q; omega)
      rw[e1,e2,e3,b]
      cases F <;> cases B <;> cases C <;> cases D <;> rfl
 · rw[if_pos (by
    simp only[Bool.or_eq_true,bne_iff_ne,ne_eq,decide_eq_true_eq]
    rcases Classical.em ((Au a0).2.Err=0) with q | q
    · right
      have:(Au a0).1.Local≠[]:=fun e=>hg ⟨q,e⟩
      have:=List.length_pos_iff.2 this
      omega
    · exact .inl q)]
end Go.Vm

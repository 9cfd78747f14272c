/- The law PyspecBoth, a part of its proof: what the functions that it reaches compute. -/
import Derived.Test.YtdenfejaedgehaaGreatDoorQ0PyspecBoth
import Derived.Test.YtdenfejaedgehaaGreatDoorG3PyspecBoth
set_option linter.unusedVariables false
set_option linter.unusedSimpArgs false
set_option linter.unusedVariables false
set_option linter.unusedSimpArgs false
set_option linter.unusedSectionVars false
namespace Go.Vm
open Go
theorem gB:∀ (w r b:Str),44∉w→((r ++ 44 :: b).take w.length == w)=(r.take w.length == w)
 | [],r,b,_=>by simp
 | x :: w,[],b,h=>by
  have:(44:UInt8)≠x:=fun e=>h (e ▸ List.mem_cons_self ..)
  have e1:((44 :: (b.take w.length):Str) == x :: w)=false:=by
   rw[beq_eq_false_iff_ne]
   intro q
   exact this (List.cons.inj q).1
  simpa using e1
 | x :: w,y :: r,b,h=>by
  have ih:=gB w r b fun q=>h (List.mem_cons_of_mem x q)
  simp only[List.cons_append,List.length_cons,List.take_succ_cons,List.cons_beq_cons,ih]
theorem AAi (r b:Str):Bx Cb (r ++ 44 :: b)=Bx Cb r:=by
 have key:∀ (ws:List Str) (s:Str × Bool),(∀ w∈ws,44∉w)→ws.foldl (CM (r ++ 44 :: b) 0) s=ws.foldl (CM r 0) s:=by
  intro ws
  induction ws with
  | nil=>intro s _; rfl
  | cons w ws ih=>
   intro s h
   simp only[List.foldl_cons]
   have e:CM (r ++ 44 :: b) 0 s w=CM r 0 s w:=by
    unfold CM
    rw[AEq,AEq,gB w r b (h w (List.mem_cons_self ..))]
   rw[e]
   exact ih _ fun x hx=>h x (List.mem_cons_of_mem w hx)
 exact key Cb _ (by decide)
theorem JN {p:UInt8→Bool} (hp:p 44=false):∀ (r b:Str),(r ++ 44 :: b).takeWhile p=r.takeWhile p∧(r ++ 44 :: b).dropWhile p=r.dropWhile p ++ 44 :: b
 | [],b=>⟨List.takeWhile_cons_of_neg (by simp[hp]),List.dropWhile_cons_of_neg (by simp[hp])⟩
 | x :: r,b=>by
  obtain⟨h1,h2⟩:=JN hp r b
  cases hx:p x with
  | true=>exact⟨by rw[List.cons_append,List.takeWhile_cons_of_pos hx,List.takeWhile_cons_of_pos hx,h1],by rw[List.cons_append,List.dropWhile_cons_of_pos hx,List.dropWhile_cons_of_pos hx,h2]⟩
  | false=>exact⟨by rw[List.cons_append,List.takeWhile_cons_of_neg (by simp[hx]),List.takeWhile_cons_of_neg (by simp[hx])],by rw[List.cons_append,List.dropWhile_cons_of_neg (by simp[hx]),List.dropWhile_cons_of_neg (by simp[hx]),List.cons_append]⟩
theorem zH {r q:Str} {c:AJ} (h:Vu r=some (c,q)) (b:Str):Vu (r ++ 44 :: b)=some (c,q ++ 44 :: b):=by
 unfold Vu at h ⊢
 simp only[] at h ⊢
 rw[AAi]
 split at h
 · rename_i ho
   rw[if_pos ho]
   have hl:=(D3 ho).2
   rw[List.drop_append_of_le_length hl,(JN (p:=isP 6) (by decide) _ b).2,(JN (p:=DF) (by decide) _ b).1,(JN (p:=DF) (by decide) _ b).2]
   split at h
   · cases h
   · rename_i hw
     rw[if_neg hw]
     obtain⟨z,h1,h2⟩:=Option.map_eq_some_iff.1 h
     cases h2
     rw[h1]
     rfl
 · cases h
theorem AFd (p:UInt8→Bool) (r:Str):(r.dropWhile p).dropWhile p=r.dropWhile p:=by
 induction r with
 | nil=>rfl
 | cons x r ih=>
  cases hx:p x with
  | true=>rw[List.dropWhile_cons_of_pos hx,ih]
  | false=>rw[List.dropWhile_cons_of_neg (by simp[hx]),List.dropWhile_cons_of_neg (by simp[hx])]
theorem ABu (k n:Nat) (r:Str):EK k n (r.dropWhile (isP 6))=EK k n r:=by
 cases k with
 | zero=>rfl
 | succ k=>
  unfold EK
  simp only[]
  rw[AFd]
theorem Yb:∀ (k k' n n':Nat) (r:Str) (l:List AJ),EK k n r=some l→r.length < k'→n'≤n→n≤32→EK k' n' r=some l
 | 0,_,_,_,_,_,h,_,_,_=>by cases h
 | k + 1,0,_,_,_,_,_,h,_,_=>by omega
 | k + 1,k' + 1,n,n',r,l,h,hk,hn,h32=>by
  unfold EK at h ⊢
  simp only[] at h ⊢
  have hlen:=CT (p:=isP 6) r
  split at h
  · cases h
  · rename_i hc
    generalize r.dropWhile (isP 6)=r1 at h hlen hc
    split at h
    · cases h
    · rename_i c q hi
      obtain⟨_,g2,g3⟩:=W7 hi
      rw[if_neg (fun w=>hc ⟨by omega,w.2⟩)]
      have hq:=CT (p:=isP 6) q
      split at h
      · rename_i hd
        exact h
      · rename_i d q2 hd
        split at h
        · rename_i h44
          rw[if_pos h44]
          obtain⟨l2,k1,k2⟩:=Option.map_eq_some_iff.1 h
          rw[hd,List.length_cons] at hq
          have hn2:n≠32:=fun e=>hc ⟨e,g3⟩
          rw[Yb k k' (n + 1) (n' + 1) q2 l2 k1 (by omega) (by omega) (by omega),← k2]
          rfl
        · cases h
theorem V3:∀ (k n:Nat) (r:Str) (l:List AJ) (b:Str) (k':Nat) (L:List AJ),EK k n r=some l→n≤32→EK k' n (r ++ 44 :: b)=some L→∃ m,EK (k' - l.length) (n + l.length) b=some m∧L=l ++ m
 | 0,_,_,_,_,_,_,h,_,_=>by cases h
 | k + 1,n,r,l,b,0,L,_,_,h=>by cases h
 | k + 1,n,r,l,b,k' + 1,L,h,h32,hL=>by
  unfold EK at h hL
  simp only[] at h hL
  rw[(JN (p:=isP 6) (by decide) r b).2] at hL
  split at h
  · cases h
  · rename_i hc
    generalize r.dropWhile (isP 6)=r1 at h hL hc
    split at h
    · cases h
    · rename_i c q hi
      obtain⟨_,_,g3⟩:=W7 hi
      have hn2:n≠32:=fun e=>hc ⟨e,g3⟩
      rw[if_neg (fun w=>hn2 w.1),zH hi b] at hL
      simp only at hL
      rw[(JN (p:=isP 6) (by decide) q b).2] at hL
      split at h
      · rename_i hd
        rw[hd] at hL
        cases h
        simp only[List.nil_append,if_true] at hL
        obtain⟨m,k1,k2⟩:=Option.map_eq_some_iff.1 hL
        exact⟨m,by simpa using k1,k2.symm⟩
      · rename_i d q2 hd
        rw[hd] at hL
        split at h
        · rename_i h44
          simp only[List.cons_append,if_pos h44] at hL
          obtain⟨l2,k1,k2⟩:=Option.map_eq_some_iff.1 h
          obtain⟨L2,k3,k4⟩:=Option.map_eq_some_iff.1 hL
          obtain⟨m,k5,k6⟩:=V3 k (n + 1) q2 l2 b k' L2 k1 (by omega) k3
          refine⟨m,?_,by rw[← k4,← k2,k6]; rfl⟩
          rw[← k2,List.length_cons]
          have e1:k' + 1 - (l2.length + 1)=k' - l2.length:=by omega
          have e2:n + (l2.length + 1)=n + 1 + l2.length:=by omega
          rw[e1,e2]
          exact k5
        · cases h
theorem u5 {a b:Str} {l m L:List AJ} (ha:D5 a=some l) (hb:D5 b=some m) (hl:l≠[]) (hm:m≠[]) (hL:D5 (a ++ 44 :: b)=some L):L=l ++ m:=by
 have pick:∀ {s:Str} {x:List AJ},D5 s=some x→(x≠[]∨s.dropWhile (isP 6)≠[])→EK (s.length + 1) 0 s=some x:=fun {s x} h hx=>by
  unfold D5 at h
  split at h
  · cases h
  · split at h
    · rename_i hd
      rcases hx with hx | hx
      · cases h; exact absurd rfl hx
      · exact absurd hd hx
    · rw[ABu] at h
      exact h
 have h1:=pick ha (.inl hl)
 have h2:=pick hb (.inl hm)
 have h3:=pick hL (.inr (by rw[(JN (p:=isP 6) (by decide) a b).2]; simp))
 obtain⟨_,_,g3,_⟩:=Rj _ 0 _ _ h1 (by omega)
 obtain⟨m2,k1,k2⟩:=V3 _ 0 a l b _ L h1 (by omega) h3
 have:=Yb _ (b.length + 1) _ 0 b m2 k1 (by omega) (by omega) (by omega)
 rw[h2] at this
 rw[k2,Option.some.inj this]
theorem y7 {v t:Str} {s:Bool}:(E6 ⟨eqW,v,s⟩ t && E6 ⟨neW,v,s⟩ t)=false:=by
 unfold E6
 have e:xY ⟨neW,v,s⟩ t (A6 t).1 (A6 v).1 = !xY ⟨eqW,v,s⟩ t (A6 t).1 (A6 v).1:=by
  rfl
 simp only
 rw[e]
 cases xY ⟨eqW,v,s⟩ t (A6 t).1 (A6 v).1 <;> simp
theorem ABV {v t:Str} (hv:(A6 v).2.Err=0) (ht:(A6 t).2.Err=0):(E6 ⟨eqW,v,false⟩ t == E6 ⟨neW,v,false⟩ t)=false:=by
 unfold E6
 have e:xY ⟨neW,v,false⟩ t (A6 t).1 (A6 v).1 = !xY ⟨eqW,v,false⟩ t (A6 t).1 (A6 v).1:=by
  rfl
 simp only
 rw[e,b6 (o:=eqW) (by decide) (by decide) hv (.inr (.inl rfl)),b6 (o:=neW) (by decide) (by decide) hv (.inr (.inr rfl)),decide_eq_true ht]
 have h1:(eqW == teW)=false:=by decide
 have h2:(neW == teW)=false:=by decide
 rw[h1,h2]
 cases xY ⟨eqW,v,false⟩ t (A6 t).1 (A6 v).1 <;> rfl
theorem l6 (t v:Str) (ht:t.length≤1048576) (hv:v.length≤1048575) (hok:(A6 t).2.Err=0) (i:Nat) (hi:i < 2):DQ t v (i:Int)=some (.next ((i + 1:Nat):Int)):=by
 have hb:∃ s:Bool,ixl [false,true] (i:Int)=some s:=⟨_,Ek (l:=[false,true]) (i:=i) hi⟩
 obtain⟨s,hs⟩:=hb
 unfold DQ
 rw[if_pos (by simp; omega),hs,Ss i (by omega)]
 simp only[Option.bind_some]
 have q1:([61,61]:Str)=eqW:=rfl
 have q2:([33,61]:Str)=neW:=rfl
 rw[q1,q2,SA ⟨eqW,v,s⟩ t (by simp[eqW]) (by simp only; omega) ht,SA ⟨neW,v,s⟩ t (by simp[neW]) (by simp only; omega) ht]
 simp only[Option.bind_some]
 have h1:=y7 (v:=v) (t:=t) (s:=s)
 have e1:(if E6 ⟨eqW,v,s⟩ t=true then some (E6 ⟨neW,v,s⟩ t) else some false:Option Bool)=some false:=by
  cases h:E6 ⟨eqW,v,s⟩ t with
  | false=>rfl
  | true=>rw[h] at h1; rw[if_pos rfl,show E6 ⟨neW,v,s⟩ t=false by simpa using h1]
 rw[e1]
 simp only[Option.bind_some,Bool.false_eq_true,if_false]
 rw[bS (by simp[eqW]; omega)]
 simp only[Option.bind_some]
 rw[L6,SA ⟨eqW,v,false⟩ t (by simp[eqW]) (by simp only; omega) ht,SA ⟨neW,v,false⟩ t (by simp[neW]) (by simp only; omega) ht]
 unfold Mq
 rw[SM]
 simp only[Option.bind_some]
 have e2:∀ A:Bool,(Option.bind (if A=true then some ((A6 v).2.Err == 0) else some false:Option Bool) (fun x74=>Option.bind (if x74=true then some (E6 ⟨eqW,v,false⟩ t == E6 ⟨neW,v,false⟩ t) else some false:Option Bool) (fun x78=>(if x78=true then some (Step.done (Sum.inl ())) else some (Step.next (((i + 1:Nat)):Int))):Bool→Option (Step Int (Unit ⊕ Unit)))))=some (Step.next ((i + 1:Nat):Int)):=fun A=>by
  cases A with
  | false=>rfl
  | true=>
   rw[if_pos rfl]
   simp only[Option.bind_some]
   by_cases hp:(A6 v).2.Err=0
   · rw[if_pos (by simp[hp]),ABV hp hok]
     rfl
   · rw[if_neg (by simp[hp])]
     rfl
 exact e2 _
theorem Yq (a0 a1 a2 a3:Str) (m0:a0.length + 1≤1048576) (m1:a1.length + 1≤1048576) (m2:a2.length + 1≤1048576) (m3:a3.length + 1≤1048576):Es a0 a1 a2 a3=some true:=by
 unfold Es
 rw[L6,L6,SM]
 simp only[Option.bind_some,AD4]
 have hloop:(A6 a2).2.Err=0→B9 (DQ a2 a3) 0=some (Sum.inr ()):=fun hok=>by
  have e0:=l6 a2 a3 (by omega) (by omega) hok 0 (by omega)
  have e1:=l6 a2 a3 (by omega) (by omega) hok 1 (by omega)
  rw[Int.natCast_zero] at e0
  rw[E7 e0,E7 e1]
  refine DM ?_
  unfold DQ
  rw[if_neg (by decide)]
 have hf:∀ (o:Option (Unit ⊕ Unit)) (K:Unit ⊕ Unit→Option Bool),o=some (Sum.inr ())→o.bind K=K (Sum.inr ()):=fun o K h=>by rw[h]; rfl
 refine (hf _ _ ?_).trans ?_
 · by_cases hok:(A6 a2).2.Err=0
   · rw[if_pos (show ((A6 a2).2.Err == 0)=true by simp[hok]),hloop hok]
     rfl
   · rw[if_neg (show ¬ (((A6 a2).2.Err == 0)=true) by simp[hok])]
 simp only[]
 obtain⟨s1,s2⟩:=Lj a0
 obtain⟨t1,t2⟩:=Lj a1
 cases hA:D5 a0 with
 | none=>
  have:=(s2 hA).2
  rw[if_pos (by simp[this])]
  simp
 | some l=>
  cases hB:D5 a1 with
  | none=>
   have:=(t2 hB).2
   rw[if_pos (by simp[this])]
   simp
  | some m=>
   rw[s1 l hA,t1 m hB]
   simp only
   by_cases hl:l=[]
   · rw[if_pos (by simp[hl])]
     simp
   by_cases hm:m=[]
   · rw[if_pos (by simp[hm])]
     simp
   rw[if_neg (by simp; exact⟨hl,hm⟩),bS (by simp; omega)]
   simp only[Option.bind_some]
   rw[bS (by simp; omega)]
   simp only[Option.bind_some]
   have hab:a0 ++ [44] ++ a1=a0 ++ 44 :: a1:=by simp
   rw[hab]
   unfold LQ
   rw[L6]
   simp only[Option.bind_some]
   obtain⟨u1,u2⟩:=Lj (a0 ++ 44 :: a1)
   cases hC:D5 (a0 ++ 44 :: a1) with
   | none=>
    have:=(u2 hC).2
    rw[if_pos (by simp[this])]
   | some L=>
    rw[u1 L hC,if_neg (by simp),EW _ _ (by omega),EW _ _ (by omega),EW _ _ (by omega)]
    have hL:=u5 hA hB hl hm hC
    have hM:∀ (hp:((A6 a2).2.Err=0∧qS (A6 a2).1=false)∨(A6 a2).2.Err≠0),M7 (a0 ++ 44 :: a1) a2=(M7 a0 a2 && M7 a1 a2):=fun hp=>by
     unfold M7
     rw[hA,hB,hC]
     simp only
     rcases hp with ⟨p1,p2⟩ | p1
     · rw[decide_eq_true p1,p2,hL,List.all_append]
       simp
     · rw[decide_eq_false p1]
       rfl
    simp only[Option.bind_some]
    by_cases hok:(A6 a2).2.Err=0
    · rw[if_pos (by simp[hok])]
      have hpre:TD ⟨(A6 a2).1.Epoch,(A6 a2).1.Release,(A6 a2).1.Pre,(A6 a2).1.PreNum,(A6 a2).1.Post,(A6 a2).1.PostNum,(A6 a2).1.Dev,(A6 a2).1.DevNum,(A6 a2).1.Local⟩=some (qS (A6 a2).1):=rfl
      rw[hpre]
      simp only[Option.bind_some]
      cases hp:qS (A6 a2).1 with
      | true=>rfl
      | false=>
       rw[hM (.inl ⟨hok,hp⟩)]
       cases M7 a0 a2 <;> cases M7 a1 a2 <;> rfl
    · rw[if_neg (by simp[hok]),hM (.inr hok)]
      simp only[Option.bind_some]
      cases M7 a0 a2 <;> cases M7 a1 a2 <;> rfl
end Go.Vm

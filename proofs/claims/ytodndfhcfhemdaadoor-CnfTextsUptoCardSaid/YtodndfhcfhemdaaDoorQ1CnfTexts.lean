/- The law CnfTexts, a part of its proof: what the functions that it reaches compute. -/
import Derived.Test.YtodndfhcfhemdaaDoorQ0CnfTexts
import Derived.Test.YtodndfhcfhemdaaDoorG0CnfTexts
import Derived.Test.YtodndfhcfhemdaaDoorG1CnfTexts
import Derived.Test.YtodndfhcfhemdaaDoorW24CnfTexts
set_option linter.unusedVariables false
set_option linter.unusedSimpArgs false
/- Plain laws of chapter 24: a formula's text read again; the law of texts. -/
set_option linter.unusedVariables false
set_option linter.unusedSimpArgs false
set_option linter.unusedSectionVars false
namespace Go.Vm
open Go
section
variable {s:Str}
theorem mustT_at:∀ (t:Str) (i:Nat) (r:Str),s.drop i=t ++ r→mustT s t i = .inr (i + t.length)
  | [],i,r,h=>rfl
  | c :: t,i,r,h=>by
    obtain⟨_,h2,h3⟩:=drop_get (r:=t ++ r) h
    unfold mustT
    rw[if_pos h2,mustT_at t (i + 1) r h3,List.length_cons]
    congr 1
    omega
theorem numT_at {i u:Nat} {c:UInt8} {r:Str} (hu:u≤1048576) (hc:isP 1 c=false) (h:s.drop i=Lib.decDigits u ++ c :: r):numT s i = .inr ((u:Int),i + (Lib.decDigits u).length):=by
  obtain⟨d1,d2⟩:=decD_dig u
  have hne:=decDigits_ne u
  have hl:(Lib.decDigits u).length≤7:=by
    rw[Lib.decDigits_length]
    exact nDig_le 6 u (by omega)
  have hpos:0 < (Lib.decDigits u).length:=List.length_pos_iff.2 hne
  have hN:dN s i=(Lib.decDigits u).length:=by
    unfold dN
    rw[h,tw_dig d1 hc]
  have h48:¬ (s[i]? = some 48∧2≤dN s i):=fun q=>by
    obtain⟨q1,q2⟩:=q
    rcases Nat.eq_zero_or_pos u with h0 | h0
    · subst h0
      rw[hN,Lib.decDigits,dif_pos (by omega)] at q2
      simp only[List.length_singleton] at q2
      omega
    · obtain⟨e,t,he,h4⟩:=decD_head u h0
      rw[he] at h
      obtain⟨_,h2,_⟩:=drop_get (r:=t ++ c :: r) h
      rw[h2] at q1
      exact h4 (Option.some.inj q1)
  unfold numT numS
  rw[if_neg (by omega),if_neg h48,if_neg (by omega),hN,h,List.take_left,d2]
theorem itoa_cases {x:Int} (hx:smallI x):(x < 0∧Lib.itoa x=45 :: Lib.decDigits x.natAbs)∨(0≤x∧Lib.itoa x=Lib.decDigits x.natAbs):=by
  unfold Lib.itoa
  by_cases h:x < 0
  · exact .inl ⟨h,by rw[if_pos h]⟩
  · refine .inr ⟨by omega,?_⟩
    rw[if_neg h]
    congr 1
    omega
theorem litP_at {i:Nat} {x:Int} {c:UInt8} {r:Str} (hx:smallI x) (h0:x≠0) (hc:isP 1 c=false) (h:s.drop i=Lib.itoa x ++ c :: r):litP s i = .inr (x,i + (Lib.itoa x).length)∧s[i]?≠some 48:=by
  have hsm:x.natAbs≤1048576:=by unfold smallI at hx; omega
  obtain⟨e,t,he,h4⟩:=decD_head x.natAbs (by omega)
  obtain⟨d1,_⟩:=decD_dig x.natAbs
  unfold litP
  rcases itoa_cases hx with ⟨hn,hi⟩ | ⟨hn,hi⟩
  · rw[hi] at h ⊢
    obtain⟨_,h2,h3⟩:=drop_get (r:=Lib.decDigits x.natAbs ++ c :: r) h
    have hb:begT s true i=i + 1:=by unfold begT; rw[if_pos ⟨rfl,h2⟩]
    have h3':=h3
    rw[he] at h3'
    obtain⟨_,h5,_⟩:=drop_get (r:=t ++ c :: r) h3'
    rw[hb,if_neg (by rw[h5]; exact fun q=>h4 (Option.some.inj q)),numT_at hsm hc h3]
    refine⟨?_,by rw[h2]; exact fun q=>absurd (Option.some.inj q) (by decide)⟩
    simp only
    rw[if_neg (by omega),List.length_cons]
    congr 2
    · omega
    · omega
  · rw[hi] at h ⊢
    have h3':=h
    rw[he] at h3'
    obtain⟨_,h5,_⟩:=drop_get (r:=t ++ c :: r) h3'
    have h45:e≠45:=fun q=>by
      have:=d1 e (by rw[he]; exact List.mem_cons_self)
      rw[q] at this
      have e45:(45:UInt8).toNat=45:=rfl
      omega
    have hb:begT s true i=i:=by
      unfold begT
      rw[if_neg (by rw[h5]; rintro⟨_,q⟩; exact h45 (Option.some.inj q))]
    have hz:s[i]?≠some 48:=by rw[h5]; exact fun q=>h4 (Option.some.inj q)
    rw[hb,if_neg hz,numT_at hsm hc h]
    refine⟨?_,hz⟩
    simp only
    rw[if_pos trivial]
    congr 2
    omega
theorem clauseT_at:∀ (l:List Int) (n i:Nat) (acc:List Int) (r:Str),(∀ y∈l,smallI y∧y≠0)→l.length < n→s.drop i=litsT l ++ 48 :: 10 :: r→clauseT s n i acc = .inr (acc ++ l,i + (litsT l).length + 2)
  | [],n,i,acc,r,hl,hn,h=>by
    obtain⟨m,rfl⟩:∃ m,n=m + 1:=⟨n - 1,by simp only[List.length_nil] at hn; omega⟩
    obtain⟨_,h2,h3⟩:=drop_get (r:=10 :: r) h
    unfold clauseT
    rw[if_pos h2,mustT_at [10] (i + 1) r h3]
    simp only[litsT,List.flatMap_nil,List.append_nil,List.length_nil,List.length_singleton]
  | x :: l,n,i,acc,r,hl,hn,h=>by
    obtain⟨m,rfl⟩:∃ m,n=m + 1:=⟨n - 1,by simp only[List.length_cons] at hn; omega⟩
    obtain⟨x1,x2⟩:=hl x List.mem_cons_self
    have e:litsT (x :: l)=Lib.itoa x ++ 32 :: litsT l:=by
      unfold litsT
      rw[List.flatMap_cons,List.append_assoc]
      rfl
    rw[e] at h ⊢
    rw[List.append_assoc] at h
    obtain⟨h1,h2⟩:=litP_at x1 x2 (by decide) h
    have h3:=drop_app h
    unfold clauseT
    rw[if_neg h2,h1]
    simp only
    rw[mustT_at [32] _ _ h3]
    simp only
    obtain⟨_,_,h4⟩:=drop_get (r:=litsT l ++ 48 :: 10 :: r) h3
    rw[List.length_singleton,clauseT_at l m _ (acc ++ [x]) r (fun y hy=>hl y (List.mem_cons_of_mem _ hy)) (by simp only[List.length_cons] at hn; omega) h4]
    simp only[List.append_assoc,List.singleton_append,List.length_append,List.length_cons]
    congr 2
    omega
theorem drop_len {i:Nat} {a r:Str} (h:s.drop i=a ++ r):a.length≤s.length:=by
  have:=congrArg List.length h
  rw[List.length_drop,List.length_append] at this
  omega
def unt (c:S_api_Clause):S_api_Clause:=S_api_Clause.mk c.Lits 0
theorem clausesT_at (v:Int):∀ (cls:List S_api_Clause) (n:Int) (m i:Nat) (j:Int) (acc:List S_api_Clause) (r:Str),(∀ c∈cls,∀ y∈c.Lits,smallI y∧y≠0)→cls.length < m→j + (cls.length:Int)=n→s.drop i=cls.flatMap clT ++ r→clausesT s n m i j acc = .inr (acc ++ cls.map unt,i + (cls.flatMap clT).length)
  | [],n,m,i,j,acc,r,hl,hm,hn,h=>by
    obtain⟨k,rfl⟩:∃ k,m=k + 1:=⟨m - 1,by simp only[List.length_nil] at hm; omega⟩
    unfold clausesT
    simp only[List.length_nil] at hn
    rw[if_neg (by omega)]
    simp
  | c :: cls,n,m,i,j,acc,r,hl,hm,hn,h=>by
    obtain⟨k,rfl⟩:∃ k,m=k + 1:=⟨m - 1,by simp only[List.length_cons] at hm; omega⟩
    rw[List.flatMap_cons,List.append_assoc] at h
    have h1:s.drop i=litsT c.Lits ++ 48 :: 10 :: (cls.flatMap clT ++ r):=by
      rw[h]
      unfold clT
      simp
    have hlen:c.Lits.length < s.length + 1:=by
      have:=litsT_ge c.Lits
      have:=drop_len h1
      omega
    unfold clausesT
    simp only[List.length_cons] at hn
    rw[if_pos (by omega),clauseT_at c.Lits _ i [] _ (hl c List.mem_cons_self) hlen h1]
    simp only
    have h2:=drop_app h
    have e2:(clT c).length=(litsT c.Lits).length + 2:=by unfold clT; simp
    rw[e2] at h2
    rw[Nat.add_assoc,clausesT_at v cls n k _ (j + 1) _ r (fun d hd=>hl d (List.mem_cons_of_mem _ hd)) (by simp only[List.length_cons] at hm; omega) (by omega) h2]
    simp only[List.nil_append,List.append_assoc,List.map_cons,List.flatMap_cons,List.length_append,List.singleton_append,e2]
    congr 2
    omega
theorem orderT_at:∀ (l:List Int) (n i:Nat) (acc:List Int) (r:Str),l≠[]→(∀ y∈l,smallI y∧y≠0)→l.length≤n→s.drop i=l.flatMap ordI ++ 10 :: r→orderT s n i acc = .inr (acc ++ l,i + (l.flatMap ordI).length + 1)
  | [],n,i,acc,r,h0,hl,hn,h=>absurd rfl h0
  | x :: l,n,i,acc,r,_,hl,hn,h=>by
    obtain⟨m,rfl⟩:∃ m,n=m + 1:=⟨n - 1,by simp only[List.length_cons] at hn; omega⟩
    obtain⟨x1,x2⟩:=hl x List.mem_cons_self
    have h1:s.drop i=[32] ++ (Lib.itoa x ++ (l.flatMap ordI ++ 10 :: r)):=by
      rw[h,List.flatMap_cons]
      unfold ordI
      simp only[List.append_assoc]
    obtain⟨_,_,h2⟩:=drop_get (r:=Lib.itoa x ++ (l.flatMap ordI ++ 10 :: r)) h1
    unfold orderT
    rw[mustT_at [32] i _ h1]
    simp only[List.length_singleton]
    have eL:((x :: l).flatMap ordI).length=1 + (Lib.itoa x).length + (l.flatMap ordI).length:=by
      rw[List.flatMap_cons]
      unfold ordI
      simp only[List.length_append,List.length_singleton]
    have h3:=drop_app h2
    rw[eL]
    cases l with
    | nil=>
      rw[List.flatMap_nil,List.nil_append] at h2 h3
      obtain⟨h4,_⟩:=litP_at x1 x2 (by decide) h2
      rw[h4]
      simp only
      rw[if_pos (drop_get h3).2.1]
      simp only[List.flatMap_nil,List.length_nil]
      congr 2
      omega
    | cons y l=>
      have e:(y :: l).flatMap ordI ++ 10 :: r=32 :: (Lib.itoa y ++ (l.flatMap ordI ++ 10 :: r)):=by
        rw[List.flatMap_cons]
        unfold ordI
        simp
      have h2':=h2
      rw[e] at h2'
      obtain⟨h4,_⟩:=litP_at x1 x2 (by decide) h2'
      have h3':=h3
      rw[e] at h3'
      rw[h4]
      simp only
      rw[if_neg (by rw[(drop_get h3').2.1]; exact fun q=>absurd (Option.some.inj q) (by decide)),orderT_at (y :: l) m _ (acc ++ [x]) r (by simp) (fun z hz=>hl z (List.mem_cons_of_mem _ hz)) (by simp only[List.length_cons] at hn ⊢; omega) h3]
      simp only[List.append_assoc,List.singleton_append]
      congr 2
      omega
end
theorem ordI_ge:∀ l:List Int,l.length≤(l.flatMap ordI).length
  | []=>Nat.zero_le _
  | x :: l=>by
    have:=ordI_ge l
    have e:(ordI x).length=1 + (Lib.itoa x).length:=by
      unfold ordI
      simp only[List.length_append,List.length_singleton]
    rw[List.flatMap_cons,List.length_append,List.length_cons,e]
    omega
theorem clT_ge:∀ l:List S_api_Clause,l.length≤(l.flatMap clT).length
  | []=>Nat.zero_le _
  | x :: l=>by
    have:=clT_ge l
    have e:(clT x).length=(litsT x.Lits).length + 2:=by
      unfold clT
      simp
    rw[List.flatMap_cons,List.length_append,List.length_cons,e]
    omega
theorem fit_lits {f:S_api_Formula} (h:fitF f=true):(0≤f.Vars∧f.Vars≤4096)∧(∀ c∈f.Clauses,∀ y∈c.Lits,smallI y∧y≠0)∧∀ y∈f.Order,smallI y∧y≠0:=by
  have hs:=smF h
  unfold fitF at h
  simp only[Bool.and_eq_true,decide_eq_true_eq,List.all_eq_true] at h
  obtain⟨⟨⟨⟨h1,h2⟩,h3⟩,h4⟩,h5⟩:=h
  refine⟨⟨h1,h2⟩,fun c hc y hy=>⟨hs.c c hc y hy,(litB_iff.1 (clause_lits (h4 c hc) y hy)).1⟩,fun y hy=>⟨hs.o y hy,?_⟩⟩
  obtain⟨i,hi,rfl⟩:=List.getElem_of_mem hy
  have h6:=h5 i (List.mem_range.2 hi)
  unfold orB at h6
  rw[getD_get hi,Bool.and_eq_true] at h6
  exact (litB_iff.1 h6.1).1
theorem fit_unt (f:S_api_Formula):fitF (S_api_Formula.mk f.Vars (f.Clauses.map unt) f.Order)=fitF f:=by
  unfold fitF
  simp only[List.length_map,List.all_map]
  rfl
theorem read_dim {f:S_api_Formula} (h:fitF f=true) (hL:(dimT f).length≤65536):readT (dimT f)=(S_api_Formula.mk f.Vars (f.Clauses.map unt) f.Order,S_api_Fault.mk 0 0):=by
  obtain⟨⟨v0,v1⟩,hc,ho⟩:=fit_lits h
  have hn:=(smF h).n
  have hf0:=fit_unt f
  rw[h] at hf0
  have iv:Lib.itoa f.Vars=Lib.decDigits f.Vars.natAbs:=by
    rcases itoa_cases (smF h).v with ⟨q,_⟩ | ⟨_,q⟩
    · omega
    · exact q
  have ic:Lib.itoa (f.Clauses.length:Int)=Lib.decDigits f.Clauses.length:=by
    rcases itoa_cases (x:=(f.Clauses.length:Int)) ⟨by omega,by omega⟩ with ⟨q,_⟩ | ⟨_,q⟩
    · omega
    · exact q
  have hd:(dimT f).drop 0=hdrS ++ (Lib.decDigits f.Vars.natAbs ++ 32 :: (Lib.decDigits f.Clauses.length ++ 10 :: (f.Clauses.flatMap clT ++ ordT f.Order))):=by
    rw[List.drop_zero]
    unfold dimT hdrT
    rw[iv,ic]
    simp only[List.append_assoc,List.singleton_append]
    rfl
  generalize dimT f=s at hL hd
  have e1:=mustT_at _ _ _ hd
  have d1:=drop_app hd
  generalize 0 + hdrS.length=i1 at e1 d1
  have e2:=numT_at (by omega) (by decide) d1
  have d2:=drop_app d1
  generalize i1 + (Lib.decDigits f.Vars.natAbs).length=i2 at e2 d2
  have e3:=mustT_at [32] i2 _ d2
  obtain⟨_,_,d3⟩:=drop_get d2
  rw[List.length_singleton] at e3
  have e4:=numT_at (by omega) (by decide) d3
  have d4:=drop_app d3
  generalize i2 + 1 + (Lib.decDigits f.Clauses.length).length=i4 at e4 d4
  have e5:=mustT_at [10] i4 _ d4
  obtain⟨_,_,d5⟩:=drop_get d4
  rw[List.length_singleton] at e5
  have hcl:f.Clauses.length < s.length + 1:=by
    have:=clT_ge f.Clauses
    have:=drop_len d5
    omega
  have e6:=clausesT_at (s:=s) 0 f.Clauses (f.Clauses.length:Int) (s.length + 1) (i4 + 1) 0 [] _ hc hcl (by omega) d5
  have d6:=drop_app d5
  generalize i4 + 1 + (f.Clauses.flatMap clT).length=i6 at e6 d6
  have ht:tailT s i6 = .inr f.Order:=by
    unfold tailT
    unfold ordT at d6
    by_cases hO:0 < f.Order.length
    · rw[if_pos hO,show[99,32,111,114,100,101,114] ++ f.Order.flatMap ordI ++ [10]=ordS ++ (f.Order.flatMap ordI ++ 10 :: []) by simp[ordS]] at d6
      have hlt:i6 < s.length:=(drop_get (r:=[32,111,114,100,101,114] ++ (f.Order.flatMap ordI ++ 10 :: [])) d6).1
      have e7:=mustT_at _ _ _ d6
      have d7:=drop_app d6
      rw[if_pos hlt,e7]
      generalize i6 + ordS.length=i7 at d7
      have hlen:f.Order.length≤s.length + 1:=by
        have:=ordI_ge f.Order
        have:=drop_len d7
        omega
      have e8:=orderT_at (s:=s) f.Order (s.length + 1) i7 [] [] (by intro q; rw[q] at hO; simp at hO) ho hlen d7
      simp only
      rw[e8]
      have hend:=congrArg List.length d7
      rw[List.length_drop,List.length_append,List.length_singleton] at hend
      simp only[List.nil_append]
      rw[if_neg (by omega)]
    · rw[if_neg hO] at d6
      have hend:=congrArg List.length d6
      rw[List.length_drop,List.length_nil] at hend
      rw[if_neg (by omega)]
      have:f.Order=[]:=List.eq_nil_of_length_eq_zero (by omega)
      rw[this]
  unfold readT
  rw[if_neg (by omega),e1]
  simp only
  rw[e2]
  simp only
  rw[e3]
  simp only
  rw[e4]
  simp only
  rw[e5]
  simp only
  rw[e6]
  unfold endT
  simp only
  rw[ht]
  simp only[List.nil_append]
  rw[show ((f.Vars.natAbs:Nat):Int)=f.Vars by omega,if_pos hf0]
theorem cls_eq24 {l:List S_api_Clause} (hl:l.length≤1048576) (hc:∀ c∈l,c.Lits.length≤1048576):ref24_Clauses l l=some true:=by
  unfold ref24_Clauses
  rw[if_neg (by simp),rows_walk (n:=l.length) hl (fun i h=>by
    unfold ref24_Clauses_l1
    rw[if_pos (by simpa using h),ixl_nat h]
    simp only[Option.bind_some]
    rw[if_neg (by simp),ints_eq24 _ (hc _ (List.getElem_mem h))]
    simp only[Option.bind_some]
    rw[if_neg (by decide),w64_n i (by omega)]) (by
    unfold ref24_Clauses_l1
    rw[if_neg (by simp)])]
  rfl
theorem same_eq24 {f:S_api_Formula} (hf:BigF f) (hn:f.Clauses.length≤1048576):ref24_Same f f=some true:=by
  unfold ref24_Same
  rw[if_pos (by simp),cls_eq24 hn hf.c]
  simp only[Option.bind_some,if_true]
  rw[ints_eq24 _ hf.o]
  rfl
theorem texts_loop {f:S_api_Formula} (hf:BigF f) (hn:f.Clauses.length≤1048576):loopC (law24_CnfTexts_l1 f (S_api_Formula.mk f.Vars (f.Clauses.map unt) f.Order,S_api_Fault.mk 0 0)) 0=some (Sum.inr ()):=
  rows_walk (n:=f.Clauses.length) hn (fun i h=>by
    have h':i < (f.Clauses.map unt).length:=by rw[List.length_map]; exact h
    unfold law24_CnfTexts_l1
    rw[if_pos (by simpa using h)]
    simp only
    rw[if_neg (by simp),ixl_nat h',ixl_nat h]
    simp only[Option.bind_some,List.getElem_map]
    rw[show (unt f.Clauses[i]).Lits=f.Clauses[i].Lits from rfl,ints_eq24 _ (hf.c _ (List.getElem_mem h))]
    simp only[Option.bind_some]
    rw[if_neg (by decide)]
    simp only[Option.bind_some]
    rw[if_neg (by simp[unt]),w64_n i (by omega)]) (by
    unfold law24_CnfTexts_l1
    rw[if_neg (by simp)])
theorem CnfTexts_true (a0:S_api_Formula) (a1:Str) (_:((Lit.int .i64 a0.Vars).wf=true)∧(∀ c∈a0.Clauses,(∀ y∈c.Lits,(Lit.int .i64 y).wf=true)∧((Lit.int .i64 c.Tag).wf=true)∧True)∧(∀ y∈a0.Order,(Lit.int .i64 y).wf=true)∧True)
    (m0:(1 + (((a0.Clauses.map fun y=>(((y.Lits.map fun y=>1).sum + 1) + (1 + (0)) + 1)).sum + 1) + (((a0.Order.map fun y=>1).sum + 1) + (0))) + 1)≤1048576) (m1:a1.length + 1≤1048576):law24_CnfTexts a0 a1=some true:=by
  have hf:=bigF m0
  obtain⟨g1,g2⟩:=readT_big a1
  unfold law24_CnfTexts
  rw[cnf_Dimacs_eq hf,cnf_Read_eq,ref24_Read_eq,ref24_Dimacs_eq hf]
  simp only[Option.bind_some,beq_self_eq_true,Bool.not_true,Bool.false_eq_true,if_false,Bool.and_self,Bool.or_false]
  rw[same_eq24 g1 (by omega)]
  simp only[Option.bind_some,Bool.not_true,Bool.false_eq_true,if_false]
  have ha:law24_awake=some true:=rfl
  cases hft:fitF a0 with
  | false=>
    rw[if_pos (by simp),ha]
    rfl
  | true=>
    rw[if_pos rfl]
    by_cases hL:(dimT a0).length≤65536
    · have hne:¬ ((dimT a0 == []) || decide ((List.length (dimT a0):Int) > 65536))=true:=by
        have:dimT a0≠[]:=by unfold dimT hdrT; simp
        simp[this]
        omega
      rw[if_neg hne,cnf_Read_eq,read_dim hft hL]
      simp only[Option.bind_some]
      rw[texts_loop hf (by have:=(smF hft).n; omega)]
      simp only[Option.bind_some,beq_self_eq_true,Bool.and_self,if_true]
      rw[ints_eq24 _ hf.o]
      simp only[Option.bind_some,if_true]
      rw[ha]
      rfl
    · rw[if_pos (by simp; omega),ha]
      rfl
end Go.Vm

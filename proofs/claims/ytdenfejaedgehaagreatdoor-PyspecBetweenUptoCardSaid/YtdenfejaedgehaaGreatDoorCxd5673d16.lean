/- Canonical states of the abstract evaluator, and rules to show what code computes. -/
import Derived.Test.YtdenfejaedgehaaGreatDoorBxfe9d48f7
set_option linter.unusedVariables false
set_option linter.unusedSimpArgs false
set_option linter.unusedVariables false
set_option linter.unusedSimpArgs false
namespace Go.Vm
open Go
def AI {α β:Type} (R:α→β→Prop):List α→List β→Prop
 | [],[]=>True
 | a :: as,b :: bs=>R a b∧AI R as bs
 | _,_=>False
section
variable {α β:Type} {R:α→β→Prop}
theorem AI.length:∀ {a:List α} {b:List β},AI R a b→b.length=a.length
 | [],[],_=>rfl
 | _ :: _,_ :: _,h=>by simp[AI.length h.2]
 | [],_ :: _,h=>h.elim
 | _ :: _,[],h=>h.elim
theorem AI.get:∀ {a:List α} {b:List β},AI R a b→∀ {i:Nat} {x:α},a[i]? = some x→∃ y,b[i]? = some y∧R x y
 | [],[],_,i,x,hi=>by simp at hi
 | c :: cs,v :: vs,h,0,x,hi=>by
  simp only[List.getElem?_cons_zero,Option.some.injEq] at hi
  subst hi
  exact⟨v,rfl,h.1⟩
 | c :: cs,v :: vs,h,i + 1,x,hi=>by
  simp only[List.getElem?_cons_succ] at hi ⊢
  exact AI.get h.2 hi
 | [],_ :: _,h,_,_,_=>h.elim
 | _ :: _,[],h,_,_,_=>h.elim
theorem AI.of:∀ {a:List α} {b:List β},b.length=a.length→(∀ (i:Nat) (x:α) (y:β),a[i]? = some x→b[i]? = some y→R x y)→AI R a b
 | [],[],_,_=>trivial
 | c :: cs,v :: vs,hl,h=>⟨h 0 c v rfl rfl,AI.of (by simpa using hl) fun i x y h1 h2=>h (i + 1) x y (by simpa using h1) (by simpa using h2)⟩
 | [],_ :: _,hl,_=>by simp at hl
 | _ :: _,[],hl,_=>by simp at hl
theorem AI.mono {S:α→β→Prop} (hm:∀ x y,R x y→S x y):∀ {a:List α} {b:List β},AI R a b→AI S a b
 | [],[],_=>trivial
 | _ :: _,_ :: _,h=>⟨hm _ _ h.1,AI.mono hm h.2⟩
 | [],_ :: _,h=>h.elim
 | _ :: _,[],h=>h.elim
theorem AI.mono2 {S:α→β→Prop}:∀ {a:List α} {b:List β},(∀ x y,x∈a→R x y→S x y)→AI R a b→AI S a b
 | [],[],_,_=>trivial
 | x :: a,y :: b,hm,h=>⟨hm x y (by simp) h.1,AI.mono2 (fun u v hu=>hm u v (List.mem_cons_of_mem _ hu)) h.2⟩
 | [],_ :: _,_,h=>h.elim
 | _ :: _,[],_,h=>h.elim
theorem AI.append:∀ {a c:List α} {b d:List β},AI R a b→AI R c d→AI R (a ++ c) (b ++ d)
 | [],_,[],_,_,h=>h
 | _ :: _,_,_ :: _,_,h,k=>⟨h.1,AI.append h.2 k⟩
 | [],_,_ :: _,_,h,_=>h.elim
 | _ :: _,_,[],_,h,_=>h.elim
theorem AI.take:∀ {a:List α} {b:List β} (n:Nat),AI R a b→AI R (a.take n) (b.take n)
 | _,_,0,_=>by simp[AI]
 | [],[],_ + 1,_=>trivial
 | _ :: _,_ :: _,n + 1,h=>⟨h.1,AI.take n h.2⟩
 | [],_ :: _,_ + 1,h=>h.elim
 | _ :: _,[],_ + 1,h=>h.elim
theorem AI.drop:∀ {a:List α} {b:List β} (n:Nat),AI R a b→AI R (a.drop n) (b.drop n)
 | _,_,0,h=>by simpa using h
 | [],[],_ + 1,_=>trivial
 | _ :: _,_ :: _,n + 1,h=>AI.drop n h.2
 | [],_ :: _,_ + 1,h=>h.elim
 | _ :: _,[],_ + 1,h=>h.elim
theorem AI.set:∀ {a:List α} {b:List β} (i:Nat) {x:α} {y:β},AI R a b→R x y→AI R (a.set i x) (b.set i y)
 | [],[],_,_,_,_,_=>trivial
 | _ :: _,_ :: _,0,_,_,h,k=>⟨k,h.2⟩
 | _ :: _,_ :: _,i + 1,_,_,h,k=>⟨h.1,AI.set i h.2 k⟩
 | [],_ :: _,_,_,_,h,_=>h.elim
 | _ :: _,[],_,_,_,h,_=>h.elim
theorem AI.replicate {x:α} {y:β} (h:R x y):∀ n,AI R (List.replicate n x) (List.replicate n y)
 | 0=>trivial
 | n + 1=>⟨h,AI.replicate h n⟩
theorem AI.refl {R:α→α→Prop} (h:∀ x,R x x):∀ a:List α,AI R a a
 | []=>trivial
 | x :: a=>⟨h x,AI.refl h a⟩
theorem AI.refl' {R:α→α→Prop}:∀ a:List α,(∀ x∈a,R x x)→AI R a a
 | [],_=>trivial
 | x :: a,h=>⟨h x (by simp),AI.refl' a fun y hy=>h y (List.mem_cons_of_mem _ hy)⟩
theorem AI.map {γ δ:Type} {S:γ→δ→Prop} {f:α→γ} {g:β→δ} (hm:∀ x y,R x y→S (f x) (g y)):∀ {a:List α} {b:List β},AI R a b→AI S (a.map f) (b.map g)
 | [],[],_=>trivial
 | _ :: _,_ :: _,h=>⟨hm _ _ h.1,AI.map hm h.2⟩
 | [],_ :: _,h=>h.elim
 | _ :: _,[],h=>h.elim
end
inductive Im where
 | ph
 | at (a sh:Nat)
abbrev Rn:=Nat→Option Im
def Rn.nil:Rn:=fun _=>none
abbrev AQ:AV:=.s (.slice none 0 0)
mutual
def VLe (ρ:Rn):AV→AV→Prop
 | .any,_=>True
 | .s v,w=>w = .s v
 | .agg cs,w=>∃ ds,w = .agg ds∧VLes ρ cs ds
 | .tup cs,w=>∃ ds,w = .tup ds∧VLes ρ cs ds
 | .ptr id i sz off,w=>∃ a sh,ρ id=some (.at a sh)∧w = .ptr a (sh + i) sz off
 | .fptr row off,w=>∃ ds,w = .fptr ds off∧VLes Rn.nil row ds
 | .osl id off len sz,w=>(∃ a sh,ρ id=some (.at a sh)∧w = .osl a (sh + off) len sz)∨(ρ id=some .ph∧off=0∧len=0∧(w=AQ∨w = .esl))
 | .fsl sz rows,w=>(∃ rs,w = .fsl sz rs∧VLess Rn.nil rows rs)∨(rows=[]∧(w=AQ∨w = .esl))
 | .esl,w=>w = .esl
 | .fn f cs,w=>∃ ds,w = .fn f ds∧VLes ρ cs ds
 | .yld l,w=>∃ a sh,ρ l=some (.at a sh)∧w = .yld a
 | .mp l,w=>∃ a sh,ρ l=some (.at a sh)∧w = .mp a
 | .fmp es,w=>w = .fmp es
def VLes (ρ:Rn):List AV→List AV→Prop
 | [],ds=>ds=[]
 | c :: cs,ds=>∃ d es,ds=d :: es∧VLe ρ c d∧VLes ρ cs es
def VLess (ρ:Rn):List (List AV)→List (List AV)→Prop
 | [],ds=>ds=[]
 | c :: cs,ds=>∃ d es,ds=d :: es∧VLes ρ c d∧VLess ρ cs es
end
theorem KA {ρ:Rn}:∀ {a b:List AV},VLes ρ a b↔AI (VLe ρ) a b
 | [],[]=>by simp[VLes,AI]
 | [],_ :: _=>by simp[VLes,AI]
 | _ :: _,[]=>by simp[VLes,AI]
 | c :: cs,d :: ds=>by
  simp only[VLes,AI,List.cons.injEq]
  constructor
  · rintro⟨d',es,⟨rfl,rfl⟩,h1,h2⟩
    exact⟨h1,KA.1 h2⟩
  · rintro⟨h1,h2⟩
    exact⟨_,_,⟨rfl,rfl⟩,h1,KA.2 h2⟩
theorem Wm {ρ:Rn}:∀ {a b:List (List AV)},VLess ρ a b↔AI (AI (VLe ρ)) a b
 | [],[]=>by simp[VLess,AI]
 | [],_ :: _=>by simp[VLess,AI]
 | _ :: _,[]=>by simp[VLess,AI]
 | c :: cs,d :: ds=>by
  simp only[VLess,AI,List.cons.injEq]
  constructor
  · rintro⟨d',es,⟨rfl,rfl⟩,h1,h2⟩
    exact⟨KA.1 h1,Wm.1 h2⟩
  · rintro⟨h1,h2⟩
    exact⟨_,_,⟨rfl,rfl⟩,KA.2 h1,Wm.2 h2⟩
def Ext (ρ ρ':Rn):Prop:=∀ i m,ρ i=some m→ρ' i=some m
mutual
theorem VLe.ext {ρ ρ':Rn} (h:Ext ρ ρ'):∀ {a b:AV},VLe ρ a b→VLe ρ' a b
 | .any,_,_=>by simp[VLe]
 | .s _,_,hr=>by simpa[VLe] using hr
 | .agg _,_,hr=>by
  simp only[VLe] at hr ⊢
  obtain⟨ds,e,hs⟩:=hr
  exact⟨ds,e,VLes.ext h hs⟩
 | .tup _,_,hr=>by
  simp only[VLe] at hr ⊢
  obtain⟨ds,e,hs⟩:=hr
  exact⟨ds,e,VLes.ext h hs⟩
 | .ptr ..,_,hr=>by
  simp only[VLe] at hr ⊢
  obtain⟨a,sh,e,k⟩:=hr
  exact⟨a,sh,h _ _ e,k⟩
 | .fptr ..,_,hr=>by
  simp only[VLe] at hr ⊢
  exact hr
 | .osl ..,_,hr=>by
  simp only[VLe] at hr ⊢
  rcases hr with ⟨a,sh,e,k⟩ | ⟨e,k⟩
  · exact .inl ⟨a,sh,h _ _ e,k⟩
  · exact .inr ⟨h _ _ e,k⟩
 | .fsl ..,_,hr=>by
  simp only[VLe] at hr ⊢
  exact hr
 | .esl,_,hr=>by simpa[VLe] using hr
 | .fn ..,_,hr=>by
  simp only[VLe] at hr ⊢
  obtain⟨ds,e,hs⟩:=hr
  exact⟨ds,e,VLes.ext h hs⟩
 | .yld _,_,hr=>by
  simp only[VLe] at hr ⊢
  obtain⟨a,sh,e,k⟩:=hr
  exact⟨a,sh,h _ _ e,k⟩
 | .mp _,_,hr=>by
  simp only[VLe] at hr ⊢
  obtain⟨a,sh,e,k⟩:=hr
  exact⟨a,sh,h _ _ e,k⟩
 | .fmp _,_,hr=>by simpa[VLe] using hr
theorem VLes.ext {ρ ρ':Rn} (h:Ext ρ ρ'):∀ {a b:List AV},VLes ρ a b→VLes ρ' a b
 | [],_,hr=>by simpa[VLes] using hr
 | _ :: _,_,hr=>by
  simp only[VLes] at hr ⊢
  obtain⟨d,es,e,h1,h2⟩:=hr
  exact⟨d,es,e,VLe.ext h h1,VLes.ext h h2⟩
theorem VLess.ext {ρ ρ':Rn} (h:Ext ρ ρ'):∀ {a b:List (List AV)},VLess ρ a b→VLess ρ' a b
 | [],_,hr=>by simpa[VLess] using hr
 | _ :: _,_,hr=>by
  simp only[VLess] at hr ⊢
  obtain⟨d,es,e,h1,h2⟩:=hr
  exact⟨d,es,e,VLes.ext h h1,VLess.ext h h2⟩
end
section
variable {ρ ρ':Rn}
theorem Vq:Ext Rn.nil ρ:=fun _ _ e=>by cases e
theorem AI.ext (h:Ext ρ ρ') {a b:List AV} (k:AI (VLe ρ) a b):AI (VLe ρ') a b:=k.mono fun _ _=>VLe.ext h
theorem AI.ext2 (h:Ext ρ ρ') {a b:List (List AV)} (k:AI (AI (VLe ρ)) a b):AI (AI (VLe ρ')) a b:=k.mono fun _ _=>AI.ext h
theorem VLe.s_inv {v:Value} {w:AV} (h:VLe ρ (.s v) w):w = .s v:=by simpa[VLe] using h
theorem VLe.agg_iff {cs:List AV} {w:AV}:VLe ρ (.agg cs) w↔∃ ds,w = .agg ds∧AI (VLe ρ) cs ds:=by simp only[VLe,KA]
theorem VLe.tup_iff {cs:List AV} {w:AV}:VLe ρ (.tup cs) w↔∃ ds,w = .tup ds∧AI (VLe ρ) cs ds:=by simp only[VLe,KA]
theorem VLe.fptr_iff {cs:List AV} {off:Nat} {w:AV}:VLe ρ (.fptr cs off) w↔∃ ds,w = .fptr ds off∧AI (VLe Rn.nil) cs ds:=by simp only[VLe,KA]
theorem VLe.fn_iff {f:FuncId} {cs:List AV} {w:AV}:VLe ρ (.fn f cs) w↔∃ ds,w = .fn f ds∧AI (VLe ρ) cs ds:=by simp only[VLe,KA]
theorem VLe.fsl_iff {sz:Nat} {rows:List (List AV)} {w:AV}:VLe ρ (.fsl sz rows) w↔(∃ rs,w = .fsl sz rs∧AI (AI (VLe Rn.nil)) rows rs)∨(rows=[]∧(w=AQ∨w = .esl)):=by simp only[VLe,Wm]
theorem VLe.s_refl (v:Value):VLe ρ (.s v) (.s v):=by simp[VLe]
theorem yL (vs:List Value):AI (VLe ρ) (vs.map .s) (vs.map .s):=AI.refl' _ fun x hx=>by
 obtain⟨v,_,rfl⟩:=List.mem_map.1 hx
 exact VLe.s_refl v
theorem Ui (v:Value):VLe ρ (Vr v) (Vr v):=by
 unfold Vr
 split
 · exact VLe.agg_iff.2 ⟨_,rfl,yL _⟩
 · split
   · exact VLe.fn_iff.2 ⟨_,rfl,trivial⟩
   · exact VLe.s_refl _
 · exact VLe.s_refl _
mutual
theorem TM:∀ {a b:AV} {v:Value},Bc a=some v→VLe ρ a b→Bc b=some v
 | .s _,b,v,h,hr=>by rw[hr.s_inv]; exact h
 | .agg cs,b,v,h,hr=>by
  obtain⟨ds,rfl,hs⟩:=VLe.agg_iff.1 hr
  simp only[Bc] at h ⊢
  cases e:toVals cs with
  | none=>rw[e] at h; cases h
  | some vs=>rw[e] at h; rw[toVals_sim e hs]; exact h
 | .tup cs,b,v,h,hr=>by
  obtain⟨ds,rfl,hs⟩:=VLe.tup_iff.1 hr
  simp only[Bc] at h ⊢
  cases e:toVals cs with
  | none=>rw[e] at h; cases h
  | some vs=>rw[e] at h; rw[toVals_sim e hs]; exact h
 | .fn f [],b,v,h,hr=>by
  obtain⟨ds,rfl,hs⟩:=VLe.fn_iff.1 hr
  cases ds with
  | nil=>exact h
  | cons _ _=>exact hs.elim
 | .fn f (_ :: _),b,v,h,_=>by simp[Bc] at h
 | .ptr ..,b,v,h,_=>by simp[Bc] at h
 | .fptr ..,b,v,h,_=>by simp[Bc] at h
 | .osl ..,b,v,h,_=>by simp[Bc] at h
 | .fsl ..,b,v,h,_=>by simp[Bc] at h
 | .esl,b,v,h,_=>by simp[Bc] at h
 | .yld _,b,v,h,_=>by simp[Bc] at h
 | .mp _,b,v,h,_=>by simp[Bc] at h
 | .fmp _,b,v,h,_=>by simp[Bc] at h
 | .any,b,v,h,_=>by simp[Bc] at h
theorem toVals_sim:∀ {a b:List AV} {vs:List Value},toVals a=some vs→AI (VLe ρ) a b→toVals b=some vs
 | [],[],vs,h,_=>h
 | c :: cs,d :: ds,vs,h,hr=>by
  simp only[toVals] at h ⊢
  cases e1:Bc c with
  | none=>rw[e1] at h; cases h
  | some v=>
   cases e2:toVals cs with
   | none=>rw[e1,e2] at h; cases h
   | some us=>
    rw[e1,e2] at h
    rw[TM e1 hr.1,toVals_sim e2 hr.2]
    exact h
 | [],_ :: _,_,_,hr=>hr.elim
 | _ :: _,[],_,_,hr=>hr.elim
end
theorem uS {a b:AV} (h:cU a=true) (hr:VLe ρ a b):cU b=true:=by
 cases a <;> simp only[VLe] at hr <;> simp only[cU] at h
 case s v=>rw[hr]; exact h
 case ptr=>obtain⟨_,_,_,rfl⟩:=hr; rfl
 case fptr=>obtain⟨_,rfl,_⟩:=hr; rfl
 case osl=>rcases hr with ⟨_,_,_,rfl⟩ | ⟨_,_,_,rfl | rfl⟩ <;> rfl
 case fsl=>rcases hr with ⟨_,rfl,_⟩ | ⟨_,rfl | rfl⟩ <;> rfl
 case esl=>rw[hr]; rfl
 case fn=>obtain⟨_,rfl,_⟩:=hr; rfl
 case yld=>obtain⟨_,_,_,rfl⟩:=hr; rfl
 case mp=>obtain⟨_,_,_,rfl⟩:=hr; rfl
 case fmp=>rw[hr]; rfl
 all_goals cases h
theorem Vs:∀ {a b:List AV},a.all cU=true→AI (VLe ρ) a b→b.all cU=true
 | [],[],_,_=>rfl
 | c :: cs,d :: ds,h,hr=>by
  simp only[List.all_cons,Bool.and_eq_true] at h ⊢
  exact⟨uS h.1 hr.1,Vs h.2 hr.2⟩
 | [],_ :: _,_,hr=>hr.elim
 | _ :: _,[],_,hr=>hr.elim
theorem KD {a b:AV} {cs:List AV} (h:cellsOf a=some cs) (hr:VLe ρ a b):∃ ds,cellsOf b=some ds∧AI (VLe ρ) cs ds:=by
 cases a with
 | agg xs=>
  obtain⟨ds,rfl,hs⟩:=VLe.agg_iff.1 hr
  simp only[cellsOf] at h ⊢
  split at h
  · rename_i ho
    cases h
    exact⟨ds,by rw[if_pos (Vs ho hs)],hs⟩
  · cases h
 | s v=>
  rw[hr.s_inv]
  refine⟨cs,h,?_⟩
  unfold cellsOf at h
  split at h
  · rename_i e; cases e
  · split at h
    · cases h; exact yL _
    · cases h
  · split at h
    · cases h; exact⟨VLe.s_refl _,trivial⟩
    · cases h
 | _=>
  all_goals
   simp only[cellsOf] at h
   split at h
   · rename_i ho
     cases h
     have hb:=uS ho hr
     refine⟨[b],?_,⟨hr,trivial⟩⟩
     unfold cellsOf
     split
     · cases hb
     · rename_i v; simp only[cU] at hb; cases hb
     · rw[if_pos hb]
   · cases h
theorem BZ {t t':List AV} (ht:AI (VLe ρ) t t') {x:Operand} {v:AV} (h:A0 t x=some v):∃ v',A0 t' x=some v'∧VLe ρ v v':=by
 cases x with
 | tmp i=>exact ht.get h
 | const c=>simp only[A0,Option.some.injEq] at h ⊢; subst h; exact⟨_,rfl,Ui _⟩
 | global g=>simp only[A0,Option.some.injEq] at h ⊢; subst h; exact⟨_,rfl,VLe.s_refl _⟩
 | func f=>simp only[A0,Option.some.injEq] at h ⊢; subst h; exact⟨_,rfl,VLe.fn_iff.2 ⟨_,rfl,trivial⟩⟩
theorem Jb {t t':List AV} (ht:AI (VLe ρ) t t'):∀ {xs:List Operand} {vs:List AV},D5 t xs=some vs→∃ vs',D5 t' xs=some vs'∧AI (VLe ρ) vs vs'
 | [],vs,h=>by cases h; exact⟨[],rfl,trivial⟩
 | x :: xs,vs,h=>by
  simp only[D5] at h ⊢
  cases e1:A0 t x with
  | none=>rw[e1] at h; cases h
  | some v=>
   cases e2:D5 t xs with
   | none=>rw[e1,e2] at h; cases h
   | some us=>
    rw[e1,e2] at h
    cases h
    obtain⟨v',h1,h2⟩:=BZ ht e1
    obtain⟨us',h3,h4⟩:=Jb ht e2
    rw[h1,h3]
    exact⟨_,rfl,h2,h4⟩
theorem TA {t t':List AV} (ht:AI (VLe ρ) t t'):∀ {xs:List (Nat × Operand)} {vs:List (Nat × AV)},HX t xs=some vs→∃ vs',HX t' xs=some vs'∧AI (fun p q=>q.1=p.1∧VLe ρ p.2 q.2) vs vs'
 | [],vs,h=>by cases h; exact⟨[],rfl,trivial⟩
 | (i,x) :: xs,vs,h=>by
  simp only[HX] at h ⊢
  cases e1:A0 t x with
  | none=>rw[e1] at h; cases h
  | some v=>
   cases e2:HX t xs with
   | none=>rw[e1,e2] at h; cases h
   | some us=>
    rw[e1,e2] at h
    cases h
    obtain⟨v',h1,h2⟩:=BZ ht e1
    obtain⟨us',h3,h4⟩:=TA ht e2
    rw[h1,h3]
    exact⟨_,rfl,⟨rfl,h2⟩,h4⟩
def lK (ρ:Rn):Option AV→Option AV→Prop
 | none,b=>b=none
 | some a,b=>∃ c,b=some c∧VLe ρ a c
theorem mR {t t':List AV} (ht:AI (VLe ρ) t t') {x:Option Operand} {v:Option AV} (h:Eu t x=some v):∃ v',Eu t' x=some v'∧lK ρ v v':=by
 cases x with
 | none=>cases h; exact⟨none,rfl,rfl⟩
 | some o=>
  simp only[Eu] at h ⊢
  cases e:A0 t o with
  | none=>rw[e] at h; cases h
  | some u=>
   rw[e] at h
   cases h
   obtain⟨v',h1,h2⟩:=BZ ht e
   rw[h1]
   exact⟨_,rfl,_,rfl,h2⟩
theorem OW {t t':List AV} (ht:AI (VLe ρ) t t') {x:Operand} (h:BP t x=true):BP t' x=true∧A9 t' x=A9 t x:=by
 unfold BP A9 at *
 cases e:A0 t x with
 | none=>rw[e] at h; simp at h
 | some v=>
  rw[e] at h
  simp only[Option.bind_some] at h
  cases e2:Bc v with
  | none=>rw[e2] at h; simp at h
  | some u=>
   obtain⟨v',h1,h2⟩:=BZ ht e
   rw[h1]
   simp[TM e2 h2,e2]
theorem Wo {a b:AV} {k:Int} (h:DQ a=some k) (hr:VLe ρ a b):DQ b=some k:=by
 cases a with
 | s v=>rw[hr.s_inv]; exact h
 | _=>simp[DQ] at h
theorem yN {a b:AV} {k:Bool} (h:DD a=some k) (hr:VLe ρ a b):DD b=some k:=by
 cases a with
 | s v=>rw[hr.s_inv]; exact h
 | _=>simp[DD] at h
theorem N3 {t t':List AV} (ht:AI (VLe ρ) t t') {x:Operand} {k:Int} (h:(A0 t x).bind DQ = some k):(A0 t' x).bind DQ = some k:=by
 cases e:A0 t x with
 | none=>rw[e] at h; simp at h
 | some v=>
  rw[e] at h
  obtain⟨v',h1,h2⟩:=BZ ht e
  rw[h1]
  exact Wo h h2
theorem zL {t t':List AV} (ht:AI (VLe ρ) t t') {x:Operand} {k:Bool} (h:(A0 t x).bind DD = some k):(A0 t' x).bind DD = some k:=by
 cases e:A0 t x with
 | none=>rw[e] at h; simp at h
 | some v=>
  rw[e] at h
  obtain⟨v',h1,h2⟩:=BZ ht e
  rw[h1]
  exact yN h h2
end
end Go.Vm
namespace Go.Vm
open Go
def OLe (ρ:Rn) (sh:Nat):C0→C0→Prop
 | .rows sz rows,o'=>∃ pre mid post,o' = .rows sz (pre ++ mid ++ post)∧pre.length=sh∧AI (AI (VLe ρ)) rows mid
 | .loop R,o'=>sh=0∧∃ R',o' = .loop R'∧R'.state=R.state∧R'.pending=R.pending∧AI (VLe ρ) R.tmps R'.tmps∧R'.params=R.params∧R'.assign=R.assign∧R'.body=R.body
 | .map es,o'=>sh=0∧∃ es',o' = .map es'∧es'.map (·.1)=es.map (·.1)∧AI (VLe ρ) (es.map (·.2)) (es'.map (·.2))
theorem OLe.ext {ρ ρ':Rn} (h:Ext ρ ρ') {sh:Nat} {o o':C0} (k:OLe ρ sh o o'):OLe ρ' sh o o':=by
 cases o with
 | rows sz rows=>
  obtain⟨pre,mid,post,e,hl,hm⟩:=k
  exact⟨pre,mid,post,e,hl,hm.ext2 h⟩
 | loop R=>
  obtain⟨h0,R',e,h1,h2,h3,h4⟩:=k
  exact⟨h0,R',e,h1,h2,h3.ext h,h4⟩
 | map es=>
  obtain⟨h0,es',e,h1,h2⟩:=k
  exact⟨h0,es',e,h1,h2.ext h⟩
structure HLe (ρ:Rn) (h:AW) (n:Nat) (h':AW) (n':Nat):Prop where
 ob:∀ i o,h i=some o→(∃ a sh o',ρ i=some (.at a sh)∧h' a=some o'∧OLe ρ sh o o')∨(ρ i=some .ph∧∃ sz,o = .rows sz [])
 inj:∀ i j a sh sh',(h i).isSome=true→(h j).isSome=true→ρ i=some (.at a sh)→ρ j=some (.at a sh')→i=j
 lt:∀ i m,ρ i=some m→i < n
 lt':∀ i a sh,ρ i=some (.at a sh)→a < n'
structure Fr (ρ:Rn) (h':AW) (n':Nat) (ρ1:Rn) (h1':AW) (n1':Nat):Prop where
 le:n'≤n1'
 same:∀ j,j < n'→(∀ i sh,ρ i≠some (.at j sh))→h1' j=h' j
 im:∀ i a sh,ρ1 i=some (.at a sh)→(∃ i0 sh0,ρ i0=some (.at a sh0))∨n'≤a
 ext:Ext ρ ρ1
theorem Fr.refl (ρ:Rn) (h':AW) (n':Nat):Fr ρ h' n' ρ h' n':=⟨Nat.le_refl _,fun _ _ _=>rfl,fun i a sh e=>.inl ⟨i,sh,e⟩,fun _ _ e=>e⟩
theorem Fr.succ {ρ ρ1:Rn} {h' h1':AW} {n' n1' m:Nat} (k:Fr ρ h' n' ρ1 h1' n1') (hm:n1'≤m):Fr ρ h' n' ρ1 h1' m:=⟨Nat.le_trans k.le hm,k.same,k.im,k.ext⟩
theorem Fr.trans {ρ ρ1 ρ2:Rn} {h h1 h2:AW} {n n1 n2:Nat} (a:Fr ρ h n ρ1 h1 n1) (b:Fr ρ1 h1 n1 ρ2 h2 n2):Fr ρ h n ρ2 h2 n2:=by
 refine⟨Nat.le_trans a.le b.le,fun j hj hi=>?_,fun i c sh e=>?_,fun i m e=>b.ext i m (a.ext i m e)⟩
 · rw[b.same j (Nat.lt_of_lt_of_le hj a.le) ?_,a.same j hj hi]
   intro i sh e
   rcases a.im i j sh e with ⟨i0,sh0,e0⟩ | hge
   · exact hi i0 sh0 e0
   · omega
 · rcases b.im i c sh e with ⟨i0,sh0,e0⟩ | hge
   · exact a.im i0 c sh0 e0
   · exact .inr (Nat.le_trans a.le hge)
def Rn.put (ρ:Rn) (i:Nat) (m:Im):Rn:=fun j=>if j=i then some m else ρ j
theorem Rn.put_same (ρ:Rn) (i:Nat) (m:Im):(ρ.put i m) i=some m:=by simp[Rn.put]
theorem Rn.put_ext {ρ:Rn} {n:Nat} (hn:∀ i m,ρ i=some m→i < n) (m:Im):Ext ρ (ρ.put n m):=fun i m' e=>by
 have:=hn i m' e
 simp only[Rn.put]
 rw[if_neg (by omega)]
 exact e
section
variable {ρ:Rn} {h h':AW} {n n':Nat}
theorem HLe.mono (H:HLe ρ h n h' n') {m m':Nat} (h1:n≤m) (h2:n'≤m'):HLe ρ h m h' m':=
 ⟨H.ob,H.inj,fun i x e=>Nat.lt_of_lt_of_le (H.lt i x e) h1,fun i a sh e=>Nat.lt_of_lt_of_le (H.lt' i a sh e) h2⟩
theorem HLe.new (H:HLe ρ h n h' n') {o o':C0} (ho:OLe ρ 0 o o'):HLe (ρ.put n (.at n' 0)) (h.put n (some o)) (n + 1) (h'.put n' (some o')) (n' + 1)∧Fr ρ h' n' (ρ.put n (.at n' 0)) (h'.put n' (some o')) (n' + 1):=by
 have hext:=Rn.put_ext H.lt (.at n' 0)
 refine⟨⟨fun i p hp=>?_,fun i j a sh sh' hi hj e1 e2=>?_,fun i m e=>?_,fun i a sh e=>?_⟩,⟨Nat.le_succ _,fun j hj _=>?_,fun i a sh e=>?_,hext⟩⟩
 · by_cases e:i=n
   · subst e
     rw[AW.put_same] at hp
     cases hp
     exact .inl ⟨n',0,o',Rn.put_same _ _ _,AW.put_same _ _ _,ho.ext hext⟩
   · rw[AW.put_other _ e] at hp
     rcases H.ob i p hp with ⟨a,sh,p',h1,h2,h3⟩ | ⟨h1,h2⟩
     · refine .inl ⟨a,sh,p',hext _ _ h1,?_,h3.ext hext⟩
       rw[AW.put_other _ (by have:=H.lt' _ _ _ h1; omega)]
       exact h2
     · exact .inr ⟨hext _ _ h1,h2⟩
 · simp only[Rn.put] at e1 e2
   by_cases ei:i=n <;> by_cases ej:j=n
   · omega
   · rw[if_pos ei] at e1
     rw[if_neg ej] at e2
     cases e1
     have:=H.lt' _ _ _ e2
     omega
   · rw[if_neg ei] at e1
     rw[if_pos ej] at e2
     cases e2
     have:=H.lt' _ _ _ e1
     omega
   · rw[if_neg ei] at e1
     rw[if_neg ej] at e2
     rw[AW.put_other _ ei] at hi
     rw[AW.put_other _ ej] at hj
     exact H.inj i j a sh sh' hi hj e1 e2
 · simp only[Rn.put] at e
   split at e
   · omega
   · have:=H.lt i m e; omega
 · simp only[Rn.put] at e
   split at e
   · cases e; omega
   · have:=H.lt' i a sh e; omega
 · rw[AW.put_other _ (by omega)]
 · simp only[Rn.put] at e
   split at e
   · cases e; exact .inr (Nat.le_refl _)
   · exact .inl ⟨i,sh,e⟩
theorem HLe.set (H:HLe ρ h n h' n') {id a sh:Nat} {o o2 o2':C0} (hi:h id=some o) (hm:ρ id=some (.at a sh)) (ho:OLe ρ sh o2 o2'):HLe ρ (h.put id (some o2)) n (h'.put a (some o2')) n'∧Fr ρ h' n' ρ (h'.put a (some o2')) n':=by
 refine⟨⟨fun i p hp=>?_,fun i j b s s' h1 h2 e1 e2=>?_,H.lt,H.lt'⟩,⟨Nat.le_refl _,fun j hj hne=>?_,fun i b s e=>.inl ⟨i,s,e⟩,fun _ _ e=>e⟩⟩
 · by_cases e:i=id
   · subst e
     rw[AW.put_same] at hp
     cases hp
     exact .inl ⟨a,sh,o2',hm,AW.put_same _ _ _,ho⟩
   · rw[AW.put_other _ e] at hp
     rcases H.ob i p hp with ⟨b,s,p',h1,h2,h3⟩ | h1
     · refine .inl ⟨b,s,p',h1,?_,h3⟩
       rw[AW.put_other]
       · exact h2
       · rintro rfl
         exact e (H.inj i id b s sh (by rw[hp]; rfl) (by rw[hi]; rfl) h1 hm)
     · exact .inr h1
 · have key:∀ k,((h.put id (some o2)) k).isSome=true→(h k).isSome=true:=fun k hk=>by
    by_cases e:k=id
    · rw[e,hi]; rfl
    · rwa [AW.put_other _ e] at hk
   exact H.inj i j b s s' (key i h1) (key j h2) e1 e2
 · rw[AW.put_other]
   rintro rfl
   exact hne id sh hm
theorem HLe.drop (H:HLe ρ h n h' n') (id:Nat):HLe ρ (h.put id none) n h' n':=by
 have key:∀ k o,(h.put id none) k=some o→h k=some o:=fun k o hk=>by
  by_cases e:k=id
  · rw[e,AW.put_same] at hk; cases hk
  · rwa [AW.put_other _ e] at hk
 refine⟨fun i p hp=>H.ob i p (key i p hp),fun i j b s s' h1 h2 e1 e2=>?_,H.lt,H.lt'⟩
 obtain⟨o1,h1⟩:=Option.isSome_iff_exists.1 h1
 obtain⟨o2,h2⟩:=Option.isSome_iff_exists.1 h2
 exact H.inj i j b s s' (by rw[key _ _ h1]; rfl) (by rw[key _ _ h2]; rfl) e1 e2
theorem HLe.renew (H:HLe ρ h n h' n') {id a sh sh2:Nat} {o o2 o2':C0} (hi:h id=some o) (hm:ρ id=some (.at a sh)) (ho:OLe ρ sh2 o2 o2') :
 HLe (ρ.put n (.at a sh2)) ((h.put id none).put n (some o2)) (n + 1) (h'.put a (some o2')) (n' + 1)∧Fr ρ h' n' (ρ.put n (.at a sh2)) (h'.put a (some o2')) (n' + 1):=by
 have hext:=Rn.put_ext H.lt (.at a sh2)
 have hidn:id < n:=H.lt _ _ hm
 refine⟨⟨fun i p hp=>?_,fun i j b s s' h1 h2 e1 e2=>?_,fun i m e=>?_,fun i b s e=>?_⟩,⟨Nat.le_succ _,fun j hj hne=>?_,fun i b s e=>?_,hext⟩⟩
 · by_cases e:i=n
   · subst e
     rw[AW.put_same] at hp
     cases hp
     exact .inl ⟨a,sh2,o2',Rn.put_same _ _ _,AW.put_same _ _ _,ho.ext hext⟩
   · rw[AW.put_other _ e] at hp
     by_cases e2:i=id
     · rw[e2,AW.put_same] at hp; cases hp
     · rw[AW.put_other _ e2] at hp
       rcases H.ob i p hp with ⟨b,s,p',h1,h2,h3⟩ | ⟨h1,h2⟩
       · refine .inl ⟨b,s,p',hext _ _ h1,?_,h3.ext hext⟩
         rw[AW.put_other]
         · exact h2
         · rintro rfl
           exact e2 (H.inj i id b s sh (by rw[hp]; rfl) (by rw[hi]; rfl) h1 hm)
       · exact .inr ⟨hext _ _ h1,h2⟩
 · have key:∀ k,(((h.put id none).put n (some o2)) k).isSome=true→k=n∨(k≠n∧k≠id∧(h k).isSome=true):=fun k hk=>by
    by_cases e:k=n
    · exact .inl e
    · rw[AW.put_other _ e] at hk
      by_cases e2:k=id
      · rw[e2,AW.put_same] at hk; cases hk
      · rw[AW.put_other _ e2] at hk
        exact .inr ⟨e,e2,hk⟩
   simp only[Rn.put] at e1 e2
   rcases key i h1 with ei | ⟨ei,ei2,hi2⟩ <;> rcases key j h2 with ej | ⟨ej,ej2,hj2⟩
   · omega
   · rw[if_pos ei] at e1
     rw[if_neg ej] at e2
     cases e1
     exact absurd (H.inj j id a s' sh hj2 (by rw[hi]; rfl) e2 hm) ej2
   · rw[if_neg ei] at e1
     rw[if_pos ej] at e2
     cases e2
     exact absurd (H.inj i id a s sh hi2 (by rw[hi]; rfl) e1 hm) ei2
   · rw[if_neg ei] at e1
     rw[if_neg ej] at e2
     exact H.inj i j b s s' hi2 hj2 e1 e2
 · simp only[Rn.put] at e
   split at e
   · omega
   · have:=H.lt i m e; omega
 · simp only[Rn.put] at e
   split at e
   · cases e; have:=H.lt' _ _ _ hm; omega
   · have:=H.lt' i b s e; omega
 · rw[AW.put_other]
   rintro rfl
   exact hne id sh hm
 · simp only[Rn.put] at e
   split at e
   · cases e; exact .inl ⟨id,sh,hm⟩
   · exact .inl ⟨i,s,e⟩
theorem AAn {α:Type} {pre mid post:List α} {i:Nat} (hi:i < mid.length):(pre ++ mid ++ post)[pre.length + i]? = mid[i]?:=by
 rw[List.append_assoc,List.getElem?_append_right (by omega),List.getElem?_append_left (by omega)]
 congr 1; omega
theorem m6 (H:HLe ρ h n h' n') {id i sz:Nat} {row:List AV} (hr:Kh h id i sz=some row) :
 ∃ a sh row' rows pre mid post,ρ id=some (.at a sh)∧h id=some (.rows sz rows)∧h' a=some (.rows sz (pre ++ mid ++ post))∧pre.length=sh∧AI (AI (VLe ρ)) rows mid∧Kh h' a (sh + i) sz=some row'∧AI (VLe ρ) row row'∧rows[i]? = some row∧mid[i]? = some row':=by
 unfold Kh at hr
 split at hr
 · rename_i sz2 rows ho
   split at hr
   · rename_i e
     subst e
     rcases H.ob id _ ho with ⟨a,sh,o',h1,h2,pre,mid,post,rfl,hl,hm⟩ | ⟨_,s,e⟩
     · obtain⟨row',h3,h4⟩:=hm.get hr
       refine⟨a,sh,row',rows,pre,mid,post,h1,ho,h2,hl,hm,?_,h4,hr,h3⟩
       unfold Kh
       rw[h2]
       simp only[if_true]
       rw[← hl,AAn,h3]
       rcases Nat.lt_or_ge i mid.length with hlt | hge
       · exact hlt
       · rw[List.getElem?_eq_none hge] at h3; cases h3
     · cases e
       simp at hr
   · cases hr
 · cases hr
theorem PK {P:Program} {ty:TypeId} {row row':List AV} {off:Nat} {v:AV} (hp:Ho P ty row off=some v) (hr:AI (VLe ρ) row row'):∃ v',Ho P ty row' off=some v'∧VLe ρ v v':=by
 unfold Ho at hp ⊢
 cases e1:Ue P ty with
 | none=>rw[e1] at hp; cases hp
 | some g=>
  cases e2:CQ P ty with
  | none=>rw[e1,e2] at hp; cases hp
  | some k=>
   rw[e1,e2] at hp
   simp only[Option.bind_eq_bind,Option.bind_some] at hp ⊢
   cases g with
   | true=>
    simp only[if_true] at hp ⊢
    split at hp
    · rename_i hl
      cases hp
      rw[if_pos (by rw[hr.length]; exact hl)]
      exact⟨_,rfl,VLe.agg_iff.2 ⟨_,rfl,(hr.drop off).take k⟩⟩
    · cases hp
   | false=>
    simp only[Bool.false_eq_true,if_false] at hp ⊢
    exact hr.get hp
theorem cH (H:HLe ρ h n h' n') {P:Program} {ty:TypeId} {p p' v:AV} (hl:Kz P h ty p=some v) (hp:VLe ρ p p'):∃ v',Kz P h' ty p' = some v'∧VLe ρ v v':=by
 cases p with
 | ptr id i sz off=>
  simp only[VLe] at hp
  obtain⟨a,sh,e,rfl⟩:=hp
  simp only[Kz] at hl ⊢
  cases er:Kh h id i sz with
  | none=>rw[er] at hl; cases hl
  | some row=>
   rw[er] at hl
   obtain⟨a2,sh2,row',rows,pre,mid,post,h1,_,_,_,_,h3,h4,_,_⟩:=m6 H er
   rw[e] at h1
   cases h1
   rw[h3]
   exact PK hl h4
 | fptr row off=>
  obtain⟨ds,rfl,hs⟩:=VLe.fptr_iff.1 hp
  obtain⟨v',h1,h2⟩:=PK hl hs
  exact⟨v',h1,h2.ext Vq⟩
 | _=>simp[Kz] at hl
theorem MG (H:HLe ρ h n h' n') {sz:Nat} {x x':AV} {rows:List (List AV)} (hr:Bn h sz x=some rows) (hx:VLe ρ x x'):∃ rows',Bn h' sz x' = some rows'∧AI (AI (VLe ρ)) rows rows':=by
 cases x with
 | s v=>
  rw[hx.s_inv]
  unfold Bn at hr ⊢
  split at hr
  · cases hr; exact⟨[],rfl,trivial⟩
  · rename_i e; cases e
  · rename_i e; cases e
  · rename_i e; cases e
  · rename_i b e
    cases e
    split at hr
    · rename_i hs
      cases hr
      refine⟨_,by rw[if_pos hs],?_⟩
      refine AI.refl' _ fun r hr=>?_
      obtain⟨c,_,rfl⟩:=List.mem_map.1 hr
      exact⟨VLe.s_refl _,trivial⟩
    · cases hr
  · cases hr
 | esl=>
  simp only[VLe] at hx
  subst hx
  simp only[Bn] at hr ⊢
  cases hr
  exact⟨[],rfl,trivial⟩
 | fsl sz' rs=>
  simp only[Bn] at hr
  split at hr
  · rename_i hs
    cases hr
    rcases VLe.fsl_iff.1 hx with ⟨rs',rfl,h2⟩ | ⟨rfl,h2⟩
    · refine⟨rs',?_,h2.ext2 Vq⟩
      simp only[Bn]
      rw[if_pos]
      rcases hs with e | e
      · exact .inl e
      · right
        subst e
        cases rs' with
        | nil=>rfl
        | cons _ _=>exact h2.elim
    · rcases h2 with rfl | rfl <;> exact⟨[],rfl,trivial⟩
  · cases hr
 | osl id off len sz'=>
  simp only[Bn] at hr
  split at hr
  · rename_i hs
    subst hs
    split at hr
    · rename_i sz2 rows2 ho
      split at hr
      · rename_i hc
        obtain⟨rfl,hlen⟩:=hc
        cases hr
        simp only[VLe] at hx
        rcases hx with ⟨a,sh,e,rfl⟩ | ⟨e,rfl,rfl,hx⟩
        · rcases H.ob id _ ho with ⟨a2,sh2,o',h1,h2,pre,mid,post,rfl,hl,hm⟩ | ⟨h1,_⟩
          · rw[e] at h1
            cases h1
            refine⟨(mid.drop off).take len,?_,(hm.drop off).take len⟩
            simp only[Bn,if_true,h2]
            have:=hm.length
            rw[if_pos ⟨trivial,by simp only[List.length_append]; omega⟩]
            congr 1
            rw[List.append_assoc,List.drop_append,List.drop_eq_nil_of_le (by omega),List.nil_append,← hl,Nat.add_sub_cancel_left,List.drop_append,List.take_append]
            rw[show len - (List.drop off mid).length=0 by simp only[List.length_drop]; omega]
            simp
          · rw[e] at h1; cases h1
        · refine⟨[],?_,?_⟩
          · rcases hx with rfl | rfl <;> rfl
          · simp[AI]
      · cases hr
    · cases hr
  · cases hr
 | _=>simp[Bn] at hr
theorem ABb {x x':AV} {k:Nat} (hl:lenOf x=some k) (hx:VLe ρ x x'):lenOf x' = some k:=by
 cases x with
 | s v=>rw[hx.s_inv]; exact hl
 | fsl sz rows=>
  rcases VLe.fsl_iff.1 hx with ⟨rs',rfl,h2⟩ | ⟨rfl,h2⟩
  · simp only[lenOf] at hl ⊢
    rw[h2.length]; exact hl
  · rcases h2 with rfl | rfl <;> exact hl
 | osl id off len sz=>
  simp only[VLe] at hx
  rcases hx with ⟨a,sh,_,rfl⟩ | ⟨_,_,rfl,rfl | rfl⟩ <;> exact hl
 | esl=>simp only[VLe] at hx; subst hx; exact hl
 | _=>simp[lenOf] at hl
theorem Fy {f f':AV→Option (AV × Bool)} (hf:∀ x x' u b,f x=some (u,b)→VLe ρ x x'→∃ u' b',f' x' = some (u',b')∧VLe Rn.nil u u'∧(b' = true→b=true)):∀ {xs xs' us:List AV} {b:Bool},B4 f xs=some (us,b)→AI (VLe ρ) xs xs'→∃ us' b',B4 f' xs' = some (us',b')∧AI (VLe Rn.nil) us us'∧(b' = true→b=true)
 | [],[],us,b,h,_=>by cases h; exact⟨[],false,rfl,trivial,fun e=>e⟩
 | c :: cs,d :: ds,us,b,h,hr=>by
  simp only[B4] at h ⊢
  cases e1:f c with
  | none=>rw[e1] at h; cases h
  | some q=>
   obtain⟨v,a⟩:=q
   cases e2:B4 f cs with
   | none=>rw[e1,e2] at h; cases h
   | some q2=>
    obtain⟨vs,b2⟩:=q2
    rw[e1,e2] at h
    cases h
    obtain⟨u',b',h1,h2,h3⟩:=hf _ _ _ _ e1 hr.1
    obtain⟨us',b'',h4,h5,h6⟩:=Fy hf e2 hr.2
    rw[h1,h4]
    refine⟨_,_,rfl,⟨h2,h5⟩,fun e=>?_⟩
    rcases Bool.or_eq_true_iff.1 e with e | e
    · simp[h3 e]
    · simp[h6 e]
 | [],_ :: _,_,_,_,hr=>hr.elim
 | _ :: _,[],_,_,_,hr=>hr.elim
theorem nD {f f':AV→Option (AV × Bool)} (hf:∀ x x' u b,f x=some (u,b)→VLe ρ x x'→∃ u' b',f' x' = some (u',b')∧VLe Rn.nil u u'∧(b' = true→b=true)):∀ {xs xs' us:List (List AV)},M3 f xs=some us→AI (AI (VLe ρ)) xs xs'→∃ us',M3 f' xs' = some us'∧AI (AI (VLe Rn.nil)) us us'
 | [],[],us,h,_=>by cases h; exact⟨[],rfl,trivial⟩
 | c :: cs,d :: ds,us,h,hr=>by
  simp only[M3] at h ⊢
  cases e1:B4 f c with
  | none=>rw[e1] at h; cases h
  | some q=>
   obtain⟨v,a⟩:=q
   cases e2:M3 f cs with
   | none=>rw[e1,e2] at h; cases h
   | some vs=>
    rw[e1,e2] at h
    cases h
    obtain⟨u',b',h1,h2,h3⟩:=Fy hf e1 hr.1
    obtain⟨us',h4,h5⟩:=nD hf e2 hr.2
    rw[h1,h4]
    exact⟨_,rfl,h2,h5⟩
 | [],_ :: _,_,_,hr=>hr.elim
 | _ :: _,[],_,_,hr=>hr.elim
def Cj (h:AW):Nat→AV→Option (AV × Bool)
 | _,.s v=>some (.s v,false)
 | _,.any=>none
 | _,.esl=>some (.esl,false)
 | _,.fsl sz rows=>some (.fsl sz rows,false)
 | _,.fptr row off=>some (.fptr row off,false)
 | _,.fmp es=>some (.fmp es,false)
 | 0,_=>none
 | k + 1,.agg cs=>(B4 (Cj h k) cs).map fun (vs,b)=>(.agg vs,b)
 | k + 1,.tup cs=>(B4 (Cj h k) cs).map fun (vs,b)=>(.tup vs,b)
 | k + 1,.fn f cs=>(B4 (Cj h k) cs).map fun (vs,b)=>(.fn f vs,b)
 | k + 1,.ptr id i sz off=>match Kh h id i sz with
  | some row=>(B4 (Cj h k) row).map fun (vs,_)=>(.fptr vs off,true)
  | none=>none
 | k + 1,.osl id off len sz=>match Bn h sz (.osl id off len sz) with
  | some rows=>(M3 (Cj h k) rows).map fun vs=>(.fsl sz vs,true)
  | none=>none
 | k + 1,.mp id=>match h id with
  | some (.map es)=>(EF es).map fun vs=>(.fmp vs,true)
  | _=>none
 | _,.yld _=>none
theorem SC:∀ {es es':List (Value × AV)} {vs:List (Value × Value)},EF es=some vs→es'.map (·.1)=es.map (·.1)→AI (VLe ρ) (es.map (·.2)) (es'.map (·.2))→EF es' = some vs
 | [],[],vs,h,_,_=>h
 | [],_ :: _,vs,h,h1,_=>by simp at h1
 | (k,x) :: es,[],vs,h,h1,_=>by simp at h1
 | (k,x) :: es,(k',x') :: es',vs,h,h1,h2=>by
  simp only[List.map_cons,List.cons.injEq] at h1
  obtain⟨rfl,h1⟩:=h1
  cases x with
  | s v=>
   simp only[EF] at h
   obtain⟨l,g1,rfl⟩:=Option.map_eq_some_iff.1 h
   have e:x' = .s v:=h2.1.s_inv
   subst e
   simp only[EF,SC g1 h1 h2.2,Option.map_some]
  | fn f cs=>
   cases cs with
   | nil=>
    simp only[EF] at h
    obtain⟨l,g1,rfl⟩:=Option.map_eq_some_iff.1 h
    have e:=h2.1
    simp only[VLe] at e
    obtain⟨cs',rfl,hc⟩:=e
    cases cs' with
    | nil=>simp only[EF,SC g1 h1 h2.2,Option.map_some]
    | cons c cs'=>simp[VLes] at hc
   | cons c cs=>simp[EF] at h
  | _=>simp[EF] at h
theorem Sk (H:HLe ρ h n h' n'):∀ {k:Nat} {x x' u:AV} {b:Bool},Cj h k x=some (u,b)→VLe ρ x x'→∃ u' b',CC h' k x' = some (u',b')∧VLe Rn.nil u u'∧(b' = true→b=true):=by
 have hs:∀ {k:Nat} {v:Value} {x' u:AV} {b:Bool},Cj h k (.s v)=some (u,b)→VLe ρ (.s v) x'→∃ u' b',CC h' k x' = some (u',b')∧VLe Rn.nil u u'∧(b' = true→b=true):=by
  intro k v x' u b e hx
  rw[hx.s_inv]
  cases k <;> (simp only[CC,Cj] at e ⊢; cases e; exact⟨_,_,rfl,VLe.s_refl _,fun e=>e⟩)
 have hfz:∀ {k:Nat} {x':AV},(x' = AQ∨x' = .esl)→CC h' k x' = some (x',false):=by
  rintro k x' (rfl | rfl) <;> cases k <;> rfl
 have hf:∀ {k sz:Nat} {rows:List (List AV)} {x' u:AV} {b:Bool},Cj h k (.fsl sz rows)=some (u,b)→VLe ρ (.fsl sz rows) x'→∃ u' b',CC h' k x' = some (u',b')∧VLe Rn.nil u u'∧(b' = true→b=true):=by
  intro k sz rows x' u b e hx
  have e':u = .fsl sz rows∧b=false:=by cases k <;> (simp only[Cj,Option.some.injEq,Prod.mk.injEq] at e; exact⟨e.1.symm,e.2.symm⟩)
  obtain⟨rfl,rfl⟩:=e'
  rcases VLe.fsl_iff.1 hx with ⟨rs',rfl,h2⟩ | ⟨hr,h2⟩
  · exact⟨_,false,by cases k <;> rfl,VLe.fsl_iff.2 (.inl ⟨_,rfl,h2⟩),fun e=>e⟩
  · exact⟨_,false,hfz h2,VLe.fsl_iff.2 (.inr ⟨hr,h2⟩),fun e=>e⟩
 have hp:∀ {k off:Nat} {row:List AV} {x' u:AV} {b:Bool},Cj h k (.fptr row off)=some (u,b)→VLe ρ (.fptr row off) x'→∃ u' b',CC h' k x' = some (u',b')∧VLe Rn.nil u u'∧(b' = true→b=true):=by
  intro k off row x' u b e hx
  have e':u = .fptr row off∧b=false:=by cases k <;> (simp only[Cj,Option.some.injEq,Prod.mk.injEq] at e; exact⟨e.1.symm,e.2.symm⟩)
  obtain⟨rfl,rfl⟩:=e'
  obtain⟨ds,rfl,h2⟩:=VLe.fptr_iff.1 hx
  exact⟨_,false,by cases k <;> rfl,VLe.fptr_iff.2 ⟨_,rfl,h2⟩,fun e=>e⟩
 have he:∀ {k:Nat} {x' u:AV} {b:Bool},Cj h k .esl=some (u,b)→VLe ρ .esl x'→∃ u' b',CC h' k x' = some (u',b')∧VLe Rn.nil u u'∧(b' = true→b=true):=by
  intro k x' u b e hx
  have e':u = .esl∧b=false:=by cases k <;> (simp only[Cj,Option.some.injEq,Prod.mk.injEq] at e; exact⟨e.1.symm,e.2.symm⟩)
  obtain⟨rfl,rfl⟩:=e'
  simp only[VLe] at hx
  subst hx
  exact⟨_,false,hfz (.inr rfl),by simp[VLe],fun e=>e⟩
 have hm:∀ {k:Nat} {es:List (Value × Value)} {x' u:AV} {b:Bool},Cj h k (.fmp es)=some (u,b)→VLe ρ (.fmp es) x'→∃ u' b',CC h' k x' = some (u',b')∧VLe Rn.nil u u'∧(b' = true→b=true):=by
  intro k es x' u b e hx
  have e':u = .fmp es∧b=false:=by cases k <;> (simp only[Cj,Option.some.injEq,Prod.mk.injEq] at e; exact⟨e.1.symm,e.2.symm⟩)
  obtain⟨rfl,rfl⟩:=e'
  simp only[VLe] at hx
  subst hx
  exact⟨_,false,by cases k <;> rfl,by simp[VLe],fun e=>e⟩
 intro k
 induction k with
 | zero=>
  intro x x' u b e hx
  cases x with
  | s v=>exact hs e hx
  | fmp=>exact hm e hx
  | fsl=>exact hf e hx
  | fptr=>exact hp e hx
  | esl=>exact he e hx
  | _=>simp[Cj] at e
 | succ k ih=>
  intro x x' u b e hx
  cases x with
  | s v=>exact hs e hx
  | fmp=>exact hm e hx
  | mp id=>
   simp only[Cj] at e
   split at e
   · rename_i es hid
     obtain⟨vs,e1,e2⟩:=Option.map_eq_some_iff.1 e
     cases e2
     simp only[VLe] at hx
     obtain⟨a,sh,g1,rfl⟩:=hx
     rcases H.ob id _ hid with ⟨a',sh',o',g2,g3,rfl,es',rfl,g4,g5⟩ | ⟨_,sz,e3⟩
     · rw[g1] at g2
       cases g2
       exact⟨.fmp vs,true,by simp only[CC,g3,SC e1 g4 g5,Option.map_some],by simp[VLe],fun e=>e⟩
     · cases e3
   · cases e
  | fsl=>exact hf e hx
  | fptr=>exact hp e hx
  | esl=>exact he e hx
  | agg cs=>
   obtain⟨ds,rfl,h2⟩:=VLe.agg_iff.1 hx
   simp only[Cj] at e
   obtain⟨⟨us,b1⟩,e1,e2⟩:=Option.map_eq_some_iff.1 e
   cases e2
   obtain⟨us',b',h3,h4,h5⟩:=Fy (f':=CC h' k) (fun _ _ _ _ e hx=>ih e hx) e1 h2
   exact⟨.agg us',b',by simp only[CC,h3,Option.map_some],VLe.agg_iff.2 ⟨_,rfl,h4⟩,h5⟩
  | tup cs=>
   obtain⟨ds,rfl,h2⟩:=VLe.tup_iff.1 hx
   simp only[Cj] at e
   obtain⟨⟨us,b1⟩,e1,e2⟩:=Option.map_eq_some_iff.1 e
   cases e2
   obtain⟨us',b',h3,h4,h5⟩:=Fy (f':=CC h' k) (fun _ _ _ _ e hx=>ih e hx) e1 h2
   exact⟨.tup us',b',by simp only[CC,h3,Option.map_some],VLe.tup_iff.2 ⟨_,rfl,h4⟩,h5⟩
  | fn f cs=>
   obtain⟨ds,rfl,h2⟩:=VLe.fn_iff.1 hx
   simp only[Cj] at e
   obtain⟨⟨us,b1⟩,e1,e2⟩:=Option.map_eq_some_iff.1 e
   cases e2
   obtain⟨us',b',h3,h4,h5⟩:=Fy (f':=CC h' k) (fun _ _ _ _ e hx=>ih e hx) e1 h2
   exact⟨.fn f us',b',by simp only[CC,h3,Option.map_some],VLe.fn_iff.2 ⟨_,rfl,h4⟩,h5⟩
  | ptr id i sz off=>
   simp only[Cj] at e
   split at e
   · rename_i row er
     obtain⟨⟨us,b1⟩,e1,e2⟩:=Option.map_eq_some_iff.1 e
     cases e2
     obtain⟨a,sh,row',rows,pre,mid,post,h1,_,_,_,_,h3,h4,_,_⟩:=m6 H er
     simp only[VLe] at hx
     obtain⟨a2,sh2,hm,rfl⟩:=hx
     rw[hm] at h1
     cases h1
     obtain⟨us',b',h6,h7,h8⟩:=Fy (f':=CC h' k) (fun _ _ _ _ e hx=>ih e hx) e1 h4
     exact⟨.fptr us' off,true,by simp only[CC,h3,h6,Option.map_some],VLe.fptr_iff.2 ⟨_,rfl,h7⟩,fun _=>rfl⟩
   · cases e
  | osl id off len sz=>
   simp only[Cj] at e
   split at e
   · rename_i rows er
     obtain⟨us,e1,e2⟩:=Option.map_eq_some_iff.1 e
     cases e2
     obtain⟨rows',h1,h2⟩:=MG H er hx
     obtain⟨us',h6,h7⟩:=nD (f':=CC h' k) (fun _ _ _ _ e hx=>ih e hx) e1 h2
     simp only[VLe] at hx
     rcases hx with ⟨a,sh,hm,rfl⟩ | ⟨hm,rfl,rfl,h3⟩
     · exact⟨.fsl sz us',true,by simp only[CC,h1,h6,Option.map_some],VLe.fsl_iff.2 (.inl ⟨_,rfl,h7⟩),fun _=>rfl⟩
     · have:rows=[]:=by
        have hl:rows' = []:=by
         rcases h3 with rfl | rfl <;> (simp only[Bn,Option.some.injEq] at h1; exact h1.symm)
        subst hl
        cases rows with
        | nil=>rfl
        | cons _ _=>exact h2.elim
       subst this
       cases e1
       exact⟨_,false,hfz h3,VLe.fsl_iff.2 (.inr ⟨rfl,h3⟩),fun e=>by cases e⟩
   · cases e
  | _=>simp[Cj] at e
end
end Go.Vm
namespace Go.Vm
open Go
def MM (ρ:Rn) (h:AW) (n:Nat) (h':AW) (n':Nat) (k:Nat) (r r':Res):Prop:=
 ∀ v us,r=some (v,us)→∃ v' us' ρ1,r' = some (v',us')∧VLe ρ1 v v'∧HLe ρ1 (h.upd us) (n + k) (h'.upd us') (n' + k)∧Fr ρ h' n' ρ1 (h'.upd us') (n' + k)
section
variable {ρ:Rn} {h h':AW} {n n':Nat} {P:Program} {t t':List AV}
theorem Cf {k:Nat} {r:Res}:MM ρ h n h' n' k none r:=fun _ _ e=>by cases e
theorem DY (H:HLe ρ h n h' n') (k:Nat) {v v':AV} (hv:VLe ρ v v'):MM ρ h n h' n' k (some (v,[])) (some (v',[])):=fun _ _ e=>by
 cases e
 exact⟨v',[],ρ,rfl,hv,H.mono (by omega) (by omega),(Fr.refl _ _ _).succ (by omega)⟩
theorem HG (H:HLe ρ h n h' n') (k:Nat) {r r':Option AV} (hr:∀ v,r=some v→∃ v',r' = some v'∧VLe ρ v v'):MM ρ h n h' n' k (r.map (·,[])) (r'.map (·,[])):=by
 cases r with
 | none=>exact Cf
 | some v=>
  obtain⟨v',e,hv⟩:=hr v rfl
  rw[e]
  exact DY H k hv
theorem MH (H:HLe ρ h n h' n') {sz:Nat} {rows rows':List (List AV)} (hr:AI (AI (VLe ρ)) rows rows') {v v':AV} (hv:VLe (ρ.put n (.at n' 0)) v v') :
 MM ρ h n h' n' 1 (some (v,CT n sz rows)) (some (v',CT n' sz rows')):=fun _ _ e=>by
 cases e
 have ho:OLe ρ 0 (.rows sz rows) (.rows sz rows'):=⟨[],rows',[],by simp,rfl,hr⟩
 obtain⟨h1,h2⟩:=H.new ho
 exact⟨v',_,_,rfl,hv,h1,h2⟩
theorem yD (sz:Nat):VLe (ρ.put n (.at n' 0)) (.ptr n 0 sz 0) (.ptr n' 0 sz 0):=by
 simp only[VLe]
 exact⟨n',0,Rn.put_same _ _ _,by simp⟩
theorem Su (len sz:Nat):VLe (ρ.put n (.at n' 0)) (.osl n 0 len sz) (.osl n' 0 len sz):=by
 simp only[VLe]
 exact .inl ⟨n',0,Rn.put_same _ _ _,by simp⟩
theorem J0 {ty:TypeId} {z:List AV} (hz:E1 P ty=some z):AI (VLe ρ) z z:=by
 unfold E1 at hz
 split at hz
 · split at hz
   · cases hz; exact yL _
   · cases hz
 · cases hz
theorem lT {pl:Nat→Option (Nat × Nat)}:∀ {vs vs':List (Nat × AV)} {cs cs' ds:List AV},T5 pl cs vs=some ds→AI (fun p q=>q.1=p.1∧VLe ρ p.2 q.2) vs vs'→AI (VLe ρ) cs cs'→∃ ds',T5 pl cs' vs' = some ds'∧AI (VLe ρ) ds ds'
 | [],[],cs,cs',ds,hf,_,hc=>by cases hf; exact⟨cs',rfl,hc⟩
 | (i,v) :: vs,(j,w) :: ws,cs,cs',ds,hf,hv,hc=>by
  obtain⟨⟨e,hvw⟩,hr⟩:=hv
  simp only at e
  subst e
  simp only[T5] at hf ⊢
  cases e1:pl j with
  | none=>rw[e1] at hf; cases hf
  | some q=>
   obtain⟨off,size⟩:=q
   cases e2:cellsOf v with
   | none=>rw[e1,e2] at hf; cases hf
   | some xs=>
    rw[e1,e2] at hf
    obtain⟨ys,h1,h2⟩:=KD e2 hvw
    simp only at hf ⊢
    rw[h1]
    simp only
    split at hf
    · rename_i hl
      rw[h2.length,hc.length,if_pos hl]
      refine lT hf hr ?_
      unfold KG
      rw[h2.length]
      exact ((hc.take off).append h2).append (hc.drop _)
    · cases hf
 | [],_ :: _,_,_,_,_,hv,_=>hv.elim
 | _ :: _,[],_,_,_,_,hv,_=>hv.elim
theorem Wv {sz:Nat}:∀ {vs vs':List (Nat × AV)} {cs cs' ds:List (List AV)},Nv sz cs vs=some ds→AI (fun p q=>q.1=p.1∧VLe ρ p.2 q.2) vs vs'→AI (AI (VLe ρ)) cs cs'→∃ ds',Nv sz cs' vs' = some ds'∧AI (AI (VLe ρ)) ds ds'
 | [],[],cs,cs',ds,hf,_,hc=>by cases hf; exact⟨cs',rfl,hc⟩
 | (i,v) :: vs,(j,w) :: ws,cs,cs',ds,hf,hv,hc=>by
  obtain⟨⟨e,hvw⟩,hr⟩:=hv
  simp only at e
  subst e
  simp only[Nv] at hf ⊢
  cases e2:cellsOf v with
  | none=>rw[e2] at hf; cases hf
  | some xs=>
   rw[e2] at hf
   obtain⟨ys,h1,h2⟩:=KD e2 hvw
   simp only at hf ⊢
   rw[h1]
   simp only
   split at hf
   · rename_i hl
     rw[h2.length,hc.length,if_pos hl]
     exact Wv hf hr (hc.set _ h2)
   · cases hf
 | [],_ :: _,_,_,_,_,hv,_=>hv.elim
 | _ :: _,[],_,_,_,_,hv,_=>hv.elim
theorem YK:∀ {rows rows':List (List AV)} {bs:List UInt8},F4 rows=some bs→AI (AI (VLe ρ)) rows rows'→F4 rows' = some bs
 | [],[],_,hb,_=>hb
 | r :: rows,r' :: rows',bs,hb,hr=>by
  unfold F4 at hb
  split at hb
  · rename_i e; cases e
  · rename_i k rest e
    cases e
    obtain⟨h1,h2⟩:=hr
    match r',h1 with
    | [c],h1=>
     rw[h1.1.s_inv]
     simp only[F4]
     split at hb
     · rename_i bs2 e2
       rw[YK e2 h2]
       exact hb
     · cases hb
    | [],h1=>exact h1.elim
    | _ :: _ :: _,h1=>exact h1.2.elim
  · cases hb
 | [],_ :: _,_,_,hr=>hr.elim
 | _ :: _,[],_,_,hr=>hr.elim
theorem xU {o o':Option AV} {k:Int} (hk:TH o=some k) (ho:lK ρ o o'):TH o' = some k:=by
 cases o with
 | none=>cases ho; exact hk
 | some v=>obtain⟨c,rfl,hv⟩:=ho; exact Wo hk hv
theorem xT {m:Nat} {o o':Option AV} {k:Int} (hk:TG m o=some k) (ho:lK ρ o o'):TG m o' = some k:=by
 cases o with
 | none=>cases ho; exact hk
 | some v=>obtain⟨c,rfl,hv⟩:=ho; exact Wo hk hv
theorem sO {x x' v:AV} {l k m:Nat} (hm:lenOf x=some m) (hlk:l≤k) (hkm:k≤m) (hv:ED l k x=some v) (hx:VLe ρ x x'):∃ v',ED l k x' = some v'∧VLe ρ v v':=by
 cases x with
 | s w=>
  rw[hx.s_inv]
  refine⟨v,hv,?_⟩
  unfold ED at hv
  split at hv
  all_goals first
   | (rename_i e; cases e; done)
   | (cases hv; exact VLe.s_refl _)
   | cases hv
 | fsl sz rows=>
  simp only[ED] at hv
  cases hv
  rcases VLe.fsl_iff.1 hx with ⟨rs',rfl,h2⟩ | ⟨rfl,h2⟩
  · exact⟨_,rfl,VLe.fsl_iff.2 (.inl ⟨_,rfl,(h2.drop l).take _⟩)⟩
  · refine⟨x',?_,VLe.fsl_iff.2 (.inr ⟨by simp,h2⟩)⟩
    rcases h2 with rfl | rfl <;> rfl
 | osl id off len sz=>
  simp only[ED] at hv
  cases hv
  simp only[lenOf,Option.some.injEq] at hm
  subst hm
  simp only[VLe] at hx ⊢
  rcases hx with ⟨a,sh,e,rfl⟩ | ⟨e,rfl,rfl,h2⟩
  · exact⟨_,rfl,.inl ⟨a,sh,e,by rw[Nat.add_assoc]⟩⟩
  · refine⟨x',?_,.inr ⟨e,by omega,by omega,h2⟩⟩
    rcases h2 with rfl | rfl <;> rfl
 | esl=>simp only[VLe] at hx; subst hx; exact⟨v,hv,by simp only[ED] at hv; cases hv; simp[VLe]⟩
 | _=>simp[ED] at hv
theorem xW {x x' v:AV} {lo lo' hi hi' mx mx':Option AV} (hv:Ea x lo hi mx=some v) (hns:mx=none) (hx:VLe ρ x x') (h1:lK ρ lo lo') (h2:lK ρ hi hi') (h3:lK ρ mx mx'):∃ v',Ea x' lo' hi' mx' = some v'∧VLe ρ v v':=by
 subst hns
 cases h3
 unfold Ea at hv ⊢
 split at hv
 · rename_i l m e1 e2
   rw[xU e1 h1,ABb e2 hx]
   simp only at hv ⊢
   split at hv
   · rename_i k e3
     rw[xT e3 h2]
     simp only at hv ⊢
     split at hv
     · rename_i hc
       rw[if_pos hc]
       exact sO e2 (by omega) (by omega) hv hx
     · cases hv
   · cases hv
 · cases hv
theorem Yt {xt:TypeId} {x x' v:AV} {i:Int} (hv:DO P xt x i=some v) (hx:VLe ρ x x'):∃ v',DO P xt x' i=some v'∧VLe ρ v v':=by
 unfold DO at hv
 split at hv
 · rename_i e id off len sz hu
   split at hv
   · rename_i hc
     cases hv
     simp only[VLe] at hx
     rcases hx with ⟨a,sh,hm,rfl⟩ | ⟨_,_,rfl,_⟩
     · refine⟨_,by unfold DO; rw[hu]; simp only; rw[if_pos hc],?_⟩
       simp only[VLe]
       exact⟨a,sh,hm,by rw[Nat.add_assoc]⟩
     · omega
   · cases hv
 · rename_i e sz rows hu
   split at hv
   · rename_i hc
     obtain⟨r,hr,e⟩:=Option.map_eq_some_iff.1 hv
     cases e
     rcases VLe.fsl_iff.1 hx with ⟨rs',rfl,h2⟩ | ⟨rfl,h2⟩
     · obtain⟨r',h3,h4⟩:=h2.get hr
       refine⟨.fptr r' 0,by unfold DO; rw[hu]; simp only; rw[if_pos hc,h3]; rfl,VLe.fptr_iff.2 ⟨_,rfl,h4⟩⟩
     · simp at hr
   · cases hv
 · rename_i k e id j sz off hu
   split at hv
   · rename_i z hz
     split at hv
     · rename_i hc
       cases hv
       simp only[VLe] at hx
       obtain⟨a,sh,hm,rfl⟩:=hx
       refine⟨_,by unfold DO; rw[hu]; simp only; rw[hz]; simp only; rw[if_pos hc],?_⟩
       simp only[VLe]
       exact⟨a,sh,hm,rfl⟩
     · cases hv
   · cases hv
 · rename_i k e r off hu
   split at hv
   · rename_i z hz
     split at hv
     · rename_i hc
       cases hv
       obtain⟨ds,rfl,h2⟩:=VLe.fptr_iff.1 hx
       exact⟨_,by unfold DO; rw[hu]; simp only; rw[hz]; simp only; rw[if_pos hc],VLe.fptr_iff.2 ⟨_,rfl,h2⟩⟩
     · cases hv
   · cases hv
 · cases hv
theorem Yq {xt:TypeId} {x x' v:AV} {f:Nat} (hv:GV P xt x f=some v) (hx:VLe ρ x x'):∃ v',GV P xt x' f=some v'∧VLe ρ v v':=by
 unfold GV at hv ⊢
 split at hv
 · rename_i fields hu
   split at hv
   · rename_i fd hf
     split at hv
     · rename_i k hz
       split at hv
       · rename_i id i sz off
         cases hv
         simp only[VLe] at hx
         obtain⟨a,sh,hm,rfl⟩:=hx
         refine⟨.ptr a (sh + i) sz (off + fd.offset),by simp only[hf,hz],?_⟩
         simp only[VLe]
         exact⟨a,sh,hm,rfl⟩
       · rename_i r off
         cases hv
         obtain⟨ds,rfl,h2⟩:=VLe.fptr_iff.1 hx
         exact⟨.fptr ds (off + fd.offset),by simp only[hf,hz],VLe.fptr_iff.2 ⟨_,rfl,h2⟩⟩
       · cases hv
     · cases hv
   · cases hv
 · cases hv
theorem oS {α:Type} {pre mid post:List α} {i:Nat} {x:α} (hi:i < mid.length):(pre ++ mid ++ post).set (pre.length + i) x=pre ++ mid.set i x ++ post:=by
 rw[List.append_assoc,List.set_append_right _ _ (by omega),Nat.add_sub_cancel_left,List.set_append_left _ _ hi,List.append_assoc]
theorem ABa {row row' cs cs':List AV} {off:Nat} (h1:AI (VLe ρ) row row') (h2:AI (VLe ρ) cs cs'):AI (VLe ρ) (KG row off cs) (KG row' off cs'):=by
 unfold KG
 rw[h2.length]
 exact ((h1.take off).append h2).append (h1.drop _)
theorem ACA (H:HLe ρ h n h' n') {ty:TypeId} {p p' x x':AV} (hp:VLe ρ p p') (hx:VLe ρ x x') :
 MM ρ h n h' n' 0 ((Gx P h ty p x).map fun us=>(.s undef,us)) ((Gx P h' ty p' x').map fun us=>(.s undef,us)):=by
 intro v us hs0
 obtain⟨us2,hs,e⟩:=Option.map_eq_some_iff.1 hs0
 clear hs0
 cases e
 unfold Gx at hs
 split at hs
 · rename_i id i sz off cs hc
   split at hs
   · rename_i sz' rows ho
     split at hs
     · rename_i hk
       obtain⟨rfl,hz⟩:=hk
       split at hs
       · rename_i row hr
         split at hs
         · rename_i hl
           cases hs
           simp only[VLe] at hp
           obtain⟨a,sh,hm,rfl⟩:=hp
           obtain⟨cs',h1,h2⟩:=KD hc hx
           rcases H.ob id _ ho with ⟨a2,sh2,o',e1,e2,pre,mid,post,rfl,e3,e4⟩ | ⟨e1,_⟩
           · rw[hm] at e1
             cases e1
             obtain⟨row',h3,h4⟩:=e4.get hr
             have hi:i < mid.length:=by
              rcases Nat.lt_or_ge i mid.length with hlt | hge
              · exact hlt
              · rw[List.getElem?_eq_none hge] at h3; cases h3
             obtain⟨k1,k2⟩:=H.set ho hm (o2:=.rows sz' (rows.set i (KG row off cs))) (o2':=.rows sz' (pre ++ mid.set i (KG row' off cs') ++ post)) ⟨pre,_,post,rfl,e3,e4.set i (ABa h4 h2)⟩
             refine⟨.s undef,[(a,some (.rows sz' (pre ++ mid.set i (KG row' off cs') ++ post)))],ρ,?_,VLe.s_refl _,k1,k2⟩
             unfold Gx
             rw[h1]
             simp only[e2]
             rw[if_pos ⟨trivial,by rw[h2.length]; exact hz⟩]
             rw[← e3,AAn hi,h3]
             simp only
             rw[if_pos (by rw[h2.length,h4.length]; exact hl),oS hi]
             rfl
           · rw[hm] at e1; cases e1
         · cases hs
       · cases hs
     · cases hs
   · cases hs
 · cases hs
end
end Go.Vm
namespace Go.Vm
open Go
section
variable {ρ:Rn} {h h':AW} {n n':Nat} {P:Program} {t t':List AV}
theorem HL (H:HLe ρ h n h' n') {e:TypeId} {x x' y y':AV} (hx:VLe ρ x x') (hy:VLe ρ y y') :
 MM ρ h n h' n' 1 (Br P h n e x y) (Br P h' n' e x' y'):=by
 intro v us hs
 unfold Br at hs ⊢
 simp only[Option.bind_eq_bind] at hs ⊢
 cases e1:CQ P e with
 | none=>rw[e1] at hs; simp at hs
 | some sz=>
 cases e2:O0 P e with
 | none=>rw[e1,e2] at hs; simp at hs
 | some b=>
 cases e3:Bn h sz y with
 | none=>rw[e1,e2] at hs; simp[e3] at hs
 | some news=>
 cases e4:E1 P e with
 | none=>rw[e1,e2] at hs; simp[e3,e4] at hs
 | some z=>
 rw[e1,e2,e4] at hs
 simp only[Option.bind_some,e3] at hs
 obtain⟨news',f1,f2⟩:=MG H e3 hy
 simp only[Option.bind_some,f1]
 split at hs
 · cases hs
 · rename_i hz
   rw[if_neg hz]
   split at hs
   · rename_i hn
     subst hn
     have hn':news' = []:=by
      cases news' with
      | nil=>rfl
      | cons _ _=>exact f2.elim
     rw[if_pos hn']
     split at hs
     · cases hs
       rw[hx.s_inv]
       exact⟨_,[],ρ,rfl,VLe.s_refl _,H.mono (by omega) (by omega),(Fr.refl _ _ _).succ (by omega)⟩
     · cases hs
       simp only[VLe] at hx
       subst hx
       exact⟨_,[],ρ,rfl,by simp[VLe],H.mono (by omega) (by omega),(Fr.refl _ _ _).succ (by omega)⟩
     · cases hs
       refine⟨x',[],ρ,?_,hx,H.mono (by omega) (by omega),(Fr.refl _ _ _).succ (by omega)⟩
       simp only[VLe] at hx
       rcases hx with ⟨_,_,_,rfl⟩ | ⟨_,_,_,rfl | rfl⟩ <;> rfl
     · cases hs
   · rename_i hn
     have hn':¬ news' = []:=by
      intro e
      subst e
      cases news with
      | nil=>exact hn rfl
      | cons _ _=>exact f2.elim
     have hlen:news'.length=news.length:=f2.length
     have hnl:0 < news.length:=List.length_pos_iff.2 hn
     rw[if_neg hn']
     have fresh:∀ (x':AV),(x' = AQ∨x' = .esl)→(news.length * b≤140737488355328∧news.length≤9223372036854775807)→MM ρ h n h' n' 1 (some (.osl n 0 news.length sz,CT n sz news)) (match x' with
      | .s (.slice none 0 0) | .esl=>
       if news'.length * b≤140737488355328∧news'.length≤9223372036854775807 then some (.osl n' 0 news'.length sz,CT n' sz news') else none
      | .osl id off len sz'=>
       match h' id with
       | some (.rows sz'' rows)=>
        if sz' = sz∧sz'' = sz∧off + len≤rows.length then
         if off + len + news'.length≤rows.length then
          some (.osl id off (len + news'.length) sz,[(id,some (.rows sz (rows.take (off + len) ++ news' ++ rows.drop (off + len + news'.length))))])
         else if (len + news'.length) * b≤140737488355328∧len + news'.length≤9223372036854775807 then
          some (.osl n' 0 (len + news'.length) sz,[(id,none),(n',some (.rows sz ((rows.drop off).take len ++ news')))])
         else none
        else none
       | _=>none
      | _=>none):=by
      rintro x' (rfl | rfl) hc <;>
      · simp only
        rw[if_pos (by rw[hlen]; exact hc),hlen]
        exact MH H f2 (Su _ _)
     split at hs
     · split at hs
       · rename_i hc
         cases hs
         rw[hx.s_inv]
         exact fresh _ (.inl rfl) hc _ _ rfl
       · cases hs
     · split at hs
       · rename_i hc
         cases hs
         simp only[VLe] at hx
         subst hx
         exact fresh _ (.inr rfl) hc _ _ rfl
       · cases hs
     · rename_i id off len sz'
       split at hs
       · rename_i sz'' rows ho
         split at hs
         · rename_i hc
           obtain⟨rfl,rfl,hlr⟩:=hc
           simp only[VLe] at hx
           rcases hx with ⟨a,sh,hm,rfl⟩ | ⟨hm,rfl,rfl,hx⟩
           · rcases H.ob id _ ho with ⟨a2,sh2,o',g1,g2,pre,mid,post,rfl,g3,g4⟩ | ⟨g1,_⟩
             · rw[hm] at g1
               cases g1
               have hml:=g4.length
               simp only[g2]
               rw[if_pos ⟨trivial,trivial,by simp only[List.length_append]; omega⟩]
               split at hs
               · rename_i hin
                 cases hs
                 rw[if_pos (by simp only[List.length_append]; omega)]
                 have key:∀ (A B C:List (List AV)) (k m:Nat),A.length=sh→k≤B.length→m≤B.length→(A ++ B ++ C).take (sh + k)=A ++ B.take k∧(A ++ B ++ C).drop (sh + m)=B.drop m ++ C:=by
                  intro A B C k m hA hk hm
                  constructor
                  · rw[← hA,List.append_assoc,List.take_length_add_append,List.take_append_of_le_length hk]
                  · rw[← hA,List.append_assoc,List.drop_length_add_append,List.drop_append_of_le_length hm]
                 have hk:=key pre mid post (off + len) (off + len + news'.length) g3 (by omega) (by omega)
                 obtain⟨k1,k2⟩:=H.set ho hm (o2:=.rows sz'' (rows.take (off + len) ++ news ++ rows.drop (off + len + news.length))) (o2':=.rows sz'' (pre ++ (mid.take (off + len) ++ news' ++ mid.drop (off + len + news'.length)) ++ post)) ⟨pre,_,post,rfl,g3,by rw[hlen]; exact ((g4.take _).append f2).append (g4.drop _)⟩
                 refine⟨.osl a (sh + off) (len + news'.length) sz'',[(a,some (.rows sz'' (pre ++ (mid.take (off + len) ++ news' ++ mid.drop (off + len + news'.length)) ++ post)))],ρ,?_,?_,k1.mono (by omega) (by omega),k2.succ (by omega)⟩
                 · rw[Nat.add_assoc sh off len,Nat.add_assoc sh (off + len),hk.1,hk.2]
                   simp only[List.append_assoc]
                 · simp only[VLe]
                   exact .inl ⟨a,sh,hm,by rw[hlen]⟩
               · rename_i hout
                 split at hs
                 · rename_i hb
                   cases hs
                   by_cases hin:sh + off + len + news'.length≤(pre ++ mid ++ post).length
                   · rw[if_pos hin]
                     have hT:(pre ++ mid ++ post).take (sh + off + len)=pre ++ mid.take off ++ (mid.drop off).take len:=by
                      rw[← g3,Nat.add_assoc,List.append_assoc,List.take_length_add_append,List.take_append_of_le_length (by omega),List.append_assoc,← List.take_add]
                     have hs2:sh + off=(pre ++ mid.take off).length:=by simp only[List.length_append,List.length_take]; omega
                     obtain⟨k1,k2⟩:=H.renew ho hm (sh2:=sh + off) (o2:=.rows sz'' ((rows.drop off).take len ++ news)) (o2':=.rows sz'' ((pre ++ mid.take off) ++ ((mid.drop off).take len ++ news') ++ (pre ++ mid ++ post).drop (sh + off + len + news'.length))) ⟨pre ++ mid.take off,_,_,rfl,hs2.symm,((g4.drop off).take len).append f2⟩
                     refine⟨.osl a (sh + off) (len + news'.length) sz'',[(a,some (.rows sz'' ((pre ++ mid.take off) ++ ((mid.drop off).take len ++ news') ++ (pre ++ mid ++ post).drop (sh + off + len + news'.length))))],_,?_,?_,k1,k2⟩
                     · rw[hT]
                       simp only[List.append_assoc]
                     · simp only[VLe]
                       exact .inl ⟨a,sh + off,Rn.put_same _ _ _,by rw[hlen]; simp⟩
                   · rw[if_neg hin,if_pos (by rw[hlen]; exact hb)]
                     have hD:((pre ++ mid ++ post).drop (sh + off)).take len=(mid.drop off).take len:=by
                      rw[← g3,List.append_assoc,List.drop_length_add_append,List.drop_append_of_le_length (by omega),List.take_append_of_le_length (by simp only[List.length_drop]; omega)]
                     have ho2:OLe ρ 0 (.rows sz'' ((rows.drop off).take len ++ news)) (.rows sz'' ((mid.drop off).take len ++ news')):=⟨[],_,[],by simp,rfl,((g4.drop off).take len).append f2⟩
                     obtain⟨k1,k2⟩:=(H.drop id).new ho2
                     have ha:a < n':=H.lt' _ _ _ hm
                     refine⟨.osl n' 0 (len + news'.length) sz'',[(a,none),(n',some (.rows sz'' ((mid.drop off).take len ++ news')))],ρ.put n (.at n' 0),by rw[hD],?_,?_,?_⟩
                     · simp only[VLe]
                       exact .inl ⟨n',0,Rn.put_same _ _ _,by rw[hlen]⟩
                     · show HLe _ ((h.put id none).put n _) (n + 1) ((h'.put a none).put n' _) (n' + 1)
                       refine⟨fun i p hp=>?_,k1.inj,k1.lt,k1.lt'⟩
                       rcases k1.ob i p hp with ⟨b2,s2,p',q1,q2,q3⟩ | q1
                       · refine .inl ⟨b2,s2,p',q1,?_,q3⟩
                         by_cases eb:b2=n'
                         · subst eb
                           rw[AW.put_same] at q2 ⊢
                           exact q2
                         · rw[AW.put_other _ eb] at q2 ⊢
                           rw[AW.put_other]
                           · exact q2
                           · rintro rfl
                             have hin2:i≠n:=by
                              rintro rfl
                              rw[Rn.put_same] at q1
                              cases q1
                              exact eb rfl
                             have hid2:i≠id:=by
                              rintro rfl
                              rw[AW.put_other _ hin2,AW.put_same] at hp
                              cases hp
                             rw[AW.put_other _ hin2,AW.put_other _ hid2] at hp
                             simp only[Rn.put] at q1
                             rw[if_neg hin2] at q1
                             exact hid2 (H.inj i id b2 s2 sh (by rw[hp]; rfl) (by rw[ho]; rfl) q1 hm)
                       · exact .inr q1
                     · refine⟨k2.le,fun j hj hne=>?_,k2.im,k2.ext⟩
                       show ((h'.put a none).put n' _) j=h' j
                       rw[AW.put_other _ (by omega),AW.put_other]
                       rintro rfl
                       exact hne id sh hm
                 · cases hs
             · rw[hm] at g1; cases g1
           · have hr:rows=[]:=by
              rcases H.ob id _ ho with ⟨a2,sh2,o',g1,_⟩ | ⟨_,s,g1⟩
              · rw[hm] at g1; cases g1
              · cases g1; rfl
             subst hr
             rw[if_neg (by simp only[List.length_nil]; omega)] at hs
             split at hs
             · rename_i hb
               cases hs
               simp only[Nat.zero_add] at hb
               obtain⟨v2,us2,ρ2,q1,q2,q3,q4⟩:=fresh x' hx hb _ _ rfl
               refine⟨v2,us2,ρ2,q1,?_,?_,q4⟩
               · simp only[Nat.zero_add]; exact q2
               · have:(h.upd [(id,none),(n,some (C0.rows sz'' (([]:List (List AV)).take 0 ++ news)))])=(h.put id none).upd (CT n sz'' news):=by
                  simp[AW.upd,CT]
                 simp only[List.drop_nil]
                 rw[this]
                 have hd:(h.put id none).upd (CT n sz'' news)=(h.upd (CT n sz'' news)).put id none:=by
                  have:id < n:=H.lt _ _ hm
                  funext j
                  simp only[CT,AW.upd,AW.put]
                  by_cases e1:j=n
                  · rw[if_pos e1,if_neg (by omega),if_pos e1]
                  · rw[if_neg e1,if_neg e1]
                 rw[hd]
                 exact q3.drop id
             · cases hs
         · cases hs
       · cases hs
     · cases hs
theorem AC1 (H:HLe ρ h n h' n') {e:TypeId} {m:Int}:MM ρ h n h' n' 1 (Ud P n e m) (Ud P n' e m):=by
 intro v us hs
 unfold Ud at hs ⊢
 cases e1:CQ P e with
 | none=>rw[e1] at hs; simp at hs
 | some sz=>
 cases e2:O0 P e with
 | none=>rw[e1,e2] at hs; simp at hs
 | some b=>
 cases e3:E1 P e with
 | none=>rw[e1,e2,e3] at hs; simp at hs
 | some z=>
 rw[e1,e2,e3] at hs
 simp only at hs ⊢
 split at hs
 · cases hs
 rename_i hc
 rw[if_neg hc]
 exact MH H (AI.replicate (J0 e3) _) (Su _ _) _ _ hs
theorem ABG (H:HLe ρ h n h' n') {e:TypeId} {x x':AV} (hx:VLe ρ x x'):MM ρ h n h' n' 0 (Sw P h e x) (Sw P h' e x'):=by
 intro v us hs
 unfold Sw at hs ⊢
 cases e1:CQ P e with
 | none=>rw[e1] at hs; simp at hs
 | some sz=>
 cases e2:E1 P e with
 | none=>rw[e1,e2] at hs; simp at hs
 | some z=>
 rw[e1,e2] at hs
 simp only at hs ⊢
 split at hs
 · cases hs
 rename_i hz
 rw[if_neg hz]
 have triv:HLe ρ (h.upd []) (n + 0) (h'.upd []) (n' + 0)∧Fr ρ h' n' ρ (h'.upd []) (n' + 0):=⟨H,Fr.refl _ _ _⟩
 split at hs
 · cases hs
   rw[hx.s_inv]
   exact⟨_,[],ρ,rfl,VLe.s_refl _,triv⟩
 · cases hs
   simp only[VLe] at hx
   subst hx
   exact⟨_,[],ρ,rfl,VLe.s_refl _,triv⟩
 · rename_i id off len sz'
   split at hs
   case h_2=>cases hs
   rename_i sz'' rows ho
   split at hs
   case isFalse=>cases hs
   rename_i hc
   obtain⟨rfl,rfl,hlr⟩:=hc
   cases hs
   simp only[VLe] at hx
   rcases hx with ⟨a,sh,hm,rfl⟩ | ⟨hm,rfl,rfl,hx⟩
   · rcases H.ob id _ ho with ⟨a2,sh2,o',g1,g2,pre,mid,post,rfl,g3,g4⟩ | ⟨g1,_⟩
     · rw[hm] at g1
       cases g1
       have hml:=g4.length
       simp only[g2]
       rw[if_pos ⟨trivial,trivial,by simp only[List.length_append]; omega⟩]
       have k1:(pre ++ mid ++ post).take (sh + off)=pre ++ mid.take off:=by
        rw[← g3,List.append_assoc,List.take_length_add_append,List.take_append_of_le_length (by omega)]
       have k2:(pre ++ mid ++ post).drop (sh + off + len)=mid.drop (off + len) ++ post:=by
        rw[← g3,Nat.add_assoc,List.append_assoc,List.drop_length_add_append,List.drop_append_of_le_length (by omega)]
       obtain⟨q1,q2⟩:=H.set ho hm (o2:=.rows sz'' (rows.take off ++ List.replicate len z ++ rows.drop (off + len))) (o2':=.rows sz'' (pre ++ (mid.take off ++ List.replicate len z ++ mid.drop (off + len)) ++ post)) ⟨pre,_,post,rfl,g3,((g4.take _).append (AI.replicate (J0 e2) _)).append (g4.drop _)⟩
       refine⟨_,[(a,some (.rows sz'' (pre ++ (mid.take off ++ List.replicate len z ++ mid.drop (off + len)) ++ post)))],ρ,?_,VLe.s_refl _,q1,q2⟩
       rw[k1,k2]
       simp only[List.append_assoc]
     · rw[hm] at g1; cases g1
   · have hr:rows=[]:=by
      rcases H.ob id _ ho with ⟨a2,sh2,o',g1,_⟩ | ⟨_,s,g1⟩
      · rw[hm] at g1; cases g1
      · cases g1; rfl
     subst hr
     have hh:h.upd [(id,some (C0.rows sz'' (([]:List (List AV)).take 0 ++ List.replicate 0 z ++ ([]:List (List AV)).drop (0 + 0))))]=h:=by
      funext j
      simp only[AW.upd,AW.put]
      split
      · rename_i e; rw[e,ho]; rfl
      · rfl
     rw[hh]
     refine⟨.s (.tuple #[]),[],ρ,?_,VLe.s_refl _,triv⟩
     rcases hx with rfl | rfl <;> rfl
 · cases hs
end
end Go.Vm
namespace Go.Vm
open Go
section
variable {ρ:Rn} {h h':AW} {n n':Nat} {P:Program} {t t':List AV}
def MLe (ρ:Rn) (es es':List (Value × AV)):Prop:=es'.map (·.1)=es.map (·.1)∧AI (VLe ρ) (es.map (·.2)) (es'.map (·.2))
theorem MLe.cons {e e':Value × AV} {es es':List (Value × AV)}:MLe ρ (e :: es) (e' :: es')↔e'.1=e.1∧VLe ρ e.2 e'.2∧MLe ρ es es':=by
 unfold MLe
 simp only[List.map_cons,List.cons.injEq,AI]
 constructor
 · rintro⟨⟨h1,h2⟩,h3,h4⟩; exact⟨h1,h3,h2,h4⟩
 · rintro⟨h1,h3,h2,h4⟩; exact⟨⟨h1,h2⟩,h3,h4⟩
theorem MLe.length {es es':List (Value × AV)} (hm:MLe ρ es es'):es'.length=es.length:=by
 have:=congrArg List.length hm.1
 simpa using this
theorem MLe.nil_inv {es':List (Value × AV)} (hm:MLe ρ [] es'):es' = []:=List.eq_nil_of_length_eq_zero (by rw[hm.length]; rfl)
theorem MLe.get:∀ {es es':List (Value × AV)},MLe ρ es es'→∀ {i:Nat} {e:Value × AV},es[i]? = some e→∃ x',es'[i]? = some (e.1,x')∧VLe ρ e.2 x'
 | [],_,_,i,e,hi=>by simp at hi
 | d :: es,[],hm,_,_,_=>by have:=hm.length; simp at this
 | d :: es,d' :: es',hm,0,e,hi=>by
  obtain⟨h1,h2,_⟩:=MLe.cons.1 hm
  simp at hi
  subst hi
  exact⟨d'.2,by simp[← h1],h2⟩
 | d :: es,d' :: es',hm,i + 1,e,hi=>by
  obtain⟨_,_,h3⟩:=MLe.cons.1 hm
  obtain⟨x',g1,g2⟩:=MLe.get h3 (i:=i) (by simpa using hi)
  exact⟨x',by simpa using g1,g2⟩
theorem MLe.set:∀ {es es':List (Value × AV)},MLe ρ es es'→∀ (i:Nat) (k:Value) {x x':AV},VLe ρ x x'→MLe ρ (es.set i (k,x)) (es'.set i (k,x'))
 | [],es',hm,i,k,x,x',hx=>by rw[hm.nil_inv]; exact⟨rfl,trivial⟩
 | d :: es,[],hm,_,_,_,_,_=>by have:=hm.length; simp at this
 | d :: es,d' :: es',hm,0,k,x,x',hx=>by
  obtain⟨_,_,h3⟩:=MLe.cons.1 hm
  exact MLe.cons.2 ⟨rfl,hx,h3⟩
 | d :: es,d' :: es',hm,i + 1,k,x,x',hx=>by
  obtain⟨h1,h2,h3⟩:=MLe.cons.1 hm
  exact MLe.cons.2 ⟨h1,h2,MLe.set h3 i k hx⟩
theorem MLe.push:∀ {es es':List (Value × AV)},MLe ρ es es'→∀ (k:Value) {x x':AV},VLe ρ x x'→MLe ρ (es ++ [(k,x)]) (es' ++ [(k,x')])
 | [],es',hm,k,x,x',hx=>by rw[hm.nil_inv]; exact MLe.cons.2 ⟨rfl,hx,⟨rfl,trivial⟩⟩
 | d :: es,[],hm,_,_,_,_=>by have:=hm.length; simp at this
 | d :: es,d' :: es',hm,k,x,x',hx=>by
  obtain⟨h1,h2,h3⟩:=MLe.cons.1 hm
  exact MLe.cons.2 ⟨h1,h2,MLe.push h3 k hx⟩
theorem lX {kd:TypeDesc} {k:Value}:∀ {es es':List (Value × AV)} {i:Nat} {r:Option (Nat × AV)},MLe ρ es es'→T6 kd k es i=some r →
 (r=none∧T6 kd k es' i=some none)∨∃ j x x',r=some (j,x)∧T6 kd k es' i=some (some (j,x'))∧VLe ρ x x'
 | [],es',i,r,hm,hf=>by
  rw[hm.nil_inv]
  simp only[T6,Option.some.injEq] at hf
  exact .inl ⟨hf.symm,rfl⟩
 | e :: es,[],i,r,hm,hf=>by have:=hm.length; simp at this
 | e :: es,e' :: es',i,r,hm,hf=>by
  obtain⟨h1,h2,h3⟩:=MLe.cons.1 hm
  simp only[T6] at hf ⊢
  rw[h1]
  split at hf
  · cases hf
    exact .inr ⟨i,e.2,e'.2,rfl,rfl,h2⟩
  · exact lX h3 hf
  · cases hf
theorem X5 {kt:TypeId} {k:Value} {es es':List (Value × AV)} {r:Option (Nat × AV)} (hm:MLe ρ es es') (hf:HF P kt k es=some r) :
 (r=none∧HF P kt k es' = some none)∨∃ j x x',r=some (j,x)∧HF P kt k es' = some (some (j,x'))∧VLe ρ x x':=by
 unfold HF at hf ⊢
 split at hf
 · rename_i hk
   rw[if_pos hk]
   cases hd:P.underlying kt with
   | none=>rw[hd] at hf; cases hf
   | some kd=>
    rw[hd] at hf
    exact lX hm hf
 · cases hf
theorem AA8 {e:TypeId} {z:AV} (hz:nL P e=some z):∃ x,z = .s x:=by
 unfold nL at hz
 split at hz
 · split at hz
   · cases hz; exact⟨_,rfl⟩
   · cases hz
 · cases hz
theorem Wj {x x':AV} (v:Value) (hx:VLe ρ x x'):VLe ρ (.tup [x,.s v]) (.tup [x',.s v]):=VLe.tup_iff.2 ⟨_,rfl,hx,VLe.s_refl _,trivial⟩
theorem ABe {kt et:TypeId} {k:Value} {ok:Bool} {es es':List (Value × AV)} {v:AV} (hm:MLe ρ es es') (hv:Rj P et ok (HF P kt k es)=some v):∃ v',Rj P et ok (HF P kt k es')=some v'∧VLe ρ v v':=by
 cases hs:HF P kt k es with
 | none=>rw[hs] at hv; cases hv
 | some r=>
  rw[hs] at hv
  rcases X5 hm hs with ⟨rfl,h2⟩ | ⟨j,x,x',rfl,h2,h3⟩
  · rw[h2]
    refine⟨v,hv,?_⟩
    simp only[Rj] at hv
    obtain⟨z,hz,rfl⟩:=Option.map_eq_some_iff.1 hv
    obtain⟨y,rfl⟩:=AA8 hz
    cases ok
    · exact VLe.s_refl _
    · exact Wj _ (VLe.s_refl _)
  · rw[h2]
    simp only[Rj,Option.some.injEq] at hv
    refine⟨_,rfl,?_⟩
    subst hv
    cases ok
    · exact h3
    · exact Wj _ h3
theorem vR {kt:TypeId} {k:Value} {es es' es1:List (Value × AV)} {x x':AV} (hm:MLe ρ es es') (hx:VLe ρ x x') (hv:zI P kt k x es=some es1):∃ es1',zI P kt k x' es' = some es1'∧MLe ρ es1 es1':=by
 unfold zI at hv ⊢
 cases hs:HF P kt k es with
 | none=>rw[hs] at hv; cases hv
 | some r=>
  rw[hs] at hv
  rcases X5 hm hs with ⟨rfl,h2⟩ | ⟨j,y,y',rfl,h2,h3⟩
  · rw[h2]; cases hv; exact⟨_,rfl,hm.push k hx⟩
  · rw[h2]; cases hv; exact⟨_,rfl,hm.set j k hx⟩
theorem ACn {kt et:TypeId} {k:Value} {es es':List (Value × AV)} {r:AV × List (Value × AV)} (hm:MLe ρ es es') (hv:ABM P kt et k es=some r):∃ r',ABM P kt et k es' = some r'∧VLe ρ r.1 r'.1∧MLe ρ r.2 r'.2:=by
 unfold ABM at hv ⊢
 cases hs:HF P kt k es with
 | none=>rw[hs] at hv; cases hv
 | some q=>
  rw[hs] at hv
  rcases X5 hm hs with ⟨rfl,h2⟩ | ⟨j,y,y',rfl,h2,h3⟩
  · rw[h2]
    obtain⟨z,hz,rfl⟩:=Option.map_eq_some_iff.1 hv
    obtain⟨x,rfl⟩:=AA8 hz
    simp only[hz,Option.map_some]
    refine⟨_,rfl,?_,hm.push k (VLe.s_refl _)⟩
    rw[hm.length]
    exact Wj _ (VLe.s_refl _)
  · rw[h2]; cases hv; exact⟨_,rfl,Wj _ h3,hm⟩
theorem AAS {j:Int} {es es' es1:List (Value × AV)} {x x':AV} (hm:MLe ρ es es') (hx:VLe ρ x x') (hv:X6 j x es=some es1):∃ es1',X6 j x' es' = some es1'∧MLe ρ es1 es1':=by
 unfold X6 at hv ⊢
 split at hv
 · rename_i h0
   rw[if_pos h0]
   cases he:es[j.toNat]? with
   | none=>rw[he] at hv; cases hv
   | some e=>
    rw[he] at hv
    cases hv
    obtain⟨y,g1,g2⟩:=hm.get he
    rw[g1]
    exact⟨_,rfl,hm.set _ _ hx⟩
 · cases hv
theorem mM (H:HLe ρ h n h' n') {id:Nat} {w:AV} (hw:VLe ρ (.mp id) w) {es:List (Value × AV)} (hid:h id=some (.map es)):∃ a es',w = .mp a∧ρ id=some (.at a 0)∧h' a=some (.map es')∧MLe ρ es es':=by
 simp only[VLe] at hw
 obtain⟨a,sh,e1,rfl⟩:=hw
 rcases H.ob id _ hid with ⟨a',sh',o',g1,g2,rfl,es',rfl,g4,g5⟩ | ⟨_,sz,e⟩
 · rw[e1] at g1
   cases g1
   exact⟨a,es',rfl,e1,g2,g4,g5⟩
 · cases e
theorem ABg (H:HLe ρ h n h' n') {w w':AV} (hw:VLe ρ w w') {es:List (Value × AV)} (hm:QS h w=some es):∃ es',QS h' w' = some es'∧MLe ρ es es':=by
 unfold QS at hm
 split at hm
 · rename_i id
   split at hm
   · rename_i es0 hid
     cases hm
     obtain⟨a,es',rfl,_,h2,h3⟩:=mM H hw hid
     exact⟨es',by simp only[QS,h2],h3⟩
   · cases hm
 · rename_i es'
   cases hm
   simp only[VLe] at hw
   subst hw
   refine⟨_,rfl,rfl,?_⟩
   induction es' with
   | nil=>trivial
   | cons e es' ih=>exact⟨Ui _,ih⟩
 · cases hm
   rw[hw.s_inv]
   exact⟨[],rfl,rfl,trivial⟩
 · cases hm
theorem S7 (ht:AI (VLe ρ) t t') {k:Operand} {v:Value} (hk:(A0 t k).bind Bc=some v):(A0 t' k).bind Bc=some v:=by
 obtain⟨u,h1,h2⟩:=Option.bind_eq_some_iff.1 hk
 obtain⟨u',h3,h4⟩:=BZ ht h1
 rw[h3]
 exact TM h2 h4
theorem TF (H:HLe ρ h n h' n') {id a:Nat} {es es1 es1':List (Value × AV)} (hid:h id=some (.map es)) (hm:ρ id=some (.at a 0)) (h1:MLe ρ es1 es1') {v v':AV} (hv:VLe ρ v v') :
 MM ρ h n h' n' 0 (some (v,[(id,some (.map es1))])) (some (v',[(a,some (.map es1'))])):=fun _ _ e=>by
 cases e
 obtain⟨q1,q2⟩:=H.set (o2:=.map es1) (o2':=.map es1') hid hm ⟨rfl,es1',rfl,h1.1,h1.2⟩
 exact⟨v',_,ρ,rfl,hv,q1,q2⟩
theorem mK (H:HLe ρ h n h' n') (ht:AI (VLe ρ) t t') {o:Oper}:MM ρ h n h' n' (if Be o.op then 1 else 0) (Gz P o t h n) (Gz P o t' h' n'):=by
 intro v us hs
 unfold Gz at hs
 split at hs
 · rename_i ty hop
   cases hs
   simp only[Gz,hop,Be,if_true]
   have ho:OLe ρ 0 (.map []) (.map []):=⟨rfl,[],rfl,rfl,trivial⟩
   obtain⟨h1,h2⟩:=H.new ho
   exact⟨_,_,_,rfl,by simp only[VLe]; exact⟨n',0,Rn.put_same _ _ _,rfl⟩,h1,h2⟩
 · rename_i xt x k ok hop
   simp only[Gz,hop,Be]
   split at hs
   · rename_i kt et es kv h1 h2 h3
     obtain⟨w,g1,g2⟩:=Option.bind_eq_some_iff.1 h2
     obtain⟨w',g3,g4⟩:=BZ ht g1
     obtain⟨es',g5,g6⟩:=ABg H g4 g2
     have:=HG (k:=0) H (r:=Rj P et ok (HF P kt kv es)) (r':=Rj P et ok (HF P kt kv es')) fun v hv=>ABe g6 hv
     simp only[h1,g3,Option.bind_some,g5,S7 ht h3]
     exact this v us hs
   · cases hs
 · rename_i mt m k x hop
   simp only[Gz,hop,Be]
   split at hs
   · rename_i kt et id kv xa h1 h2 h3 h4
     split at hs
     · rename_i es hid
       obtain⟨es1,q1,q2⟩:=Option.map_eq_some_iff.1 hs
       obtain⟨w',g3,g4⟩:=BZ ht h2
       obtain⟨x',g5,g6⟩:=BZ ht h4
       obtain⟨a,es',rfl,g7,g8,g9⟩:=mM H g4 hid
       obtain⟨es1',g10,g11⟩:=vR g9 g6 q1
       simp only[h1,g3,g5,S7 ht h3,g8,g10,Option.map_some]
       exact TF H hid g7 g11 (VLe.s_refl _) v us (by rw[q2])
     · cases hs
   · cases hs
 · rename_i mt m k hop
   simp only[Gz,hop,Be]
   split at hs
   · rename_i kt et id kv h1 h2 h3
     split at hs
     · rename_i es hid
       obtain⟨r,q1,q2⟩:=Option.map_eq_some_iff.1 hs
       obtain⟨w',g3,g4⟩:=BZ ht h2
       obtain⟨a,es',rfl,g7,g8,g9⟩:=mM H g4 hid
       obtain⟨r',g10,g11,g12⟩:=ACn g9 q1
       simp only[h1,g3,S7 ht h3,g8,g10,Option.map_some]
       exact TF H hid g7 g12 g11 v us (by rw[q2])
     · cases hs
   · cases hs
 · rename_i mt m k x hop
   simp only[Gz,hop,Be]
   split at hs
   · rename_i id j xa h1 h2 h3
     split at hs
     · rename_i es hid
       obtain⟨es1,q1,q2⟩:=Option.map_eq_some_iff.1 hs
       obtain⟨w',g3,g4⟩:=BZ ht h1
       obtain⟨x',g5,g6⟩:=BZ ht h3
       obtain⟨a,es',rfl,g7,g8,g9⟩:=mM H g4 hid
       obtain⟨es1',g10,g11⟩:=AAS g9 g6 q1
       simp only[g3,g5,N3 ht h2,g8,g10,Option.map_some]
       exact TF H hid g7 g11 (VLe.s_refl _) v us (by rw[q2])
     · cases hs
   · cases hs
 · rename_i mt m k x hop
   simp only[Gz,hop,Be]
   split at hs
   · rename_i kt et id kv xa h1 h2 h3 h4
     split at hs
     · rename_i es hid
       obtain⟨es1,q1,q2⟩:=Option.map_eq_some_iff.1 hs
       obtain⟨w',g3,g4⟩:=BZ ht h2
       obtain⟨x',g5,g6⟩:=BZ ht h4
       obtain⟨a,es',rfl,g7,g8,g9⟩:=mM H g4 hid
       obtain⟨es1',g10,g11⟩:=vR g9 g6 q1
       simp only[h1,g3,g5,S7 ht h3,g8,g10,Option.map_some]
       exact TF H hid g7 g11 (VLe.s_refl _) v us (by rw[q2])
     · cases hs
   · cases hs
 · cases hs
end
end Go.Vm
namespace Go.Vm
open Go
section
variable {ρ:Rn} {h h':AW} {n n':Nat} {P:Program}
theorem mO {c c':AV} (hn:Dx c=true) (hv:VLe ρ c c'):Dx c' = true∧VLe Rn.nil c c':=by
 cases c <;> simp only[Dx] at hn <;> try (cases hn; done)
 · rw[hv.s_inv]; exact⟨rfl,VLe.s_refl _⟩
 · have:=hv
   obtain⟨ds,rfl,h2⟩:=VLe.fptr_iff.1 hv
   exact⟨rfl,VLe.fptr_iff.2 ⟨ds,rfl,h2⟩⟩
 · rcases VLe.fsl_iff.1 hv with ⟨rs,rfl,h2⟩ | ⟨rfl,rfl | rfl⟩
   · exact⟨rfl,VLe.fsl_iff.2 (.inl ⟨rs,rfl,h2⟩)⟩
   · exact⟨rfl,VLe.fsl_iff.2 (.inr ⟨rfl,.inl rfl⟩)⟩
   · exact⟨rfl,VLe.fsl_iff.2 (.inr ⟨rfl,.inr rfl⟩)⟩
 · simp only[VLe] at hv ⊢
   subst hv
   exact⟨rfl,rfl⟩
theorem cR:∀ {cs ds:List AV},cs.all Dx=true→AI (VLe ρ) cs ds→ds.all Dx=true∧AI (VLe Rn.nil) cs ds
 | [],[],_,_=>⟨rfl,trivial⟩
 | c :: cs,d :: ds,hn,hv=>by
  simp only[List.all_cons,Bool.and_eq_true] at hn ⊢
  obtain⟨h1,h2⟩:=mO hn.1 hv.1
  obtain⟨h3,h4⟩:=cR hn.2 hv.2
  exact⟨⟨h1,h3⟩,h2,h4⟩
 | [],_ :: _,_,hv=>hv.elim
 | _ :: _,[],_,hv=>hv.elim
theorem Uh:∀ {cs ds:List (List AV)},(cs.all fun r=>r.all Dx)=true→AI (AI (VLe ρ)) cs ds→(ds.all fun r=>r.all Dx)=true∧AI (AI (VLe Rn.nil)) cs ds
 | [],[],_,_=>⟨rfl,trivial⟩
 | c :: cs,d :: ds,hn,hv=>by
  simp only[List.all_cons,Bool.and_eq_true] at hn ⊢
  obtain⟨h1,h2⟩:=cR hn.1 hv.1
  obtain⟨h3,h4⟩:=Uh hn.2 hv.2
  exact⟨⟨h1,h3⟩,h2,h4⟩
 | [],_ :: _,_,hv=>hv.elim
 | _ :: _,[],_,hv=>hv.elim
theorem HLe.drops (H:HLe ρ h n h' n') {A B:List Nat} (hB:∀ b∈B,∃ i∈A,(h i).isSome=true∧∃ sh,ρ i=some (.at b sh)):HLe ρ (h.upd (drops A)) n (h'.upd (drops B)) n'∧Fr ρ h' n' ρ (h'.upd (drops B)) n':=by
 have key:∀ k o,(h.upd (Vm.drops A)) k=some o→k∉A∧h k=some o:=fun k o hk=>by
  rw[Ov] at hk
  split at hk
  · cases hk
  · rename_i e; exact⟨e,hk⟩
 refine⟨⟨fun i o hi=>?_,fun i j b s s' h1 h2 e1 e2=>?_,H.lt,H.lt'⟩,Nat.le_refl _,fun j hj hi=>?_,fun i a sh e=>.inl ⟨i,sh,e⟩,fun _ _ e=>e⟩
 · obtain⟨k1,k2⟩:=key i o hi
   rcases H.ob i o k2 with ⟨a,sh,o',g1,g2,g3⟩ | g
   · refine .inl ⟨a,sh,o',g1,?_,g3⟩
     rw[Ov]
     split
     · rename_i hb
       obtain⟨i2,m1,m2,sh2,m3⟩:=hB a hb
       exact absurd (H.inj i i2 a sh sh2 (by rw[k2]; rfl) m2 g1 m3 ▸ m1) k1
     · exact g2
   · exact .inr g
 · obtain⟨o1,h1⟩:=Option.isSome_iff_exists.1 h1
   obtain⟨o2,h2⟩:=Option.isSome_iff_exists.1 h2
   exact H.inj i j b s s' (by rw[(key _ _ h1).2]; rfl) (by rw[(key _ _ h2).2]; rfl) e1 e2
 · rw[Ov]
   split
   · rename_i hb
     obtain⟨i2,_,_,sh2,m3⟩:=hB j hb
     exact absurd m3 (hi i2 sh2)
   · rfl
theorem Yc {id sz:Nat} {rows:List (List AV)} (hr:Bn h sz (.osl id 0 0 sz)=some rows):rows=[]:=by
 unfold Bn at hr
 simp only[if_true] at hr
 split at hr
 · split at hr
   · cases hr; rfl
   · cases hr
 · cases hr
theorem ACv (H:HLe ρ h n h' n') {c c' d:AV} {ids:List Nat} (hc:bT h c=some (d,ids)) (hv:VLe ρ c c') :
 ∃ d' ids',bT h' c' = some (d',ids')∧VLe Rn.nil d d'∧(Dx c' = true→VLe Rn.nil d c')∧∀ b∈ids',∃ i∈ids,(h i).isSome=true∧∃ sh,ρ i=some (.at b sh):=by
 have plain:Dx c=true→d=c→∃ d' ids',bT h' c' = some (d',ids')∧VLe Rn.nil d d'∧(Dx c' = true→VLe Rn.nil d c')∧∀ b∈ids',∃ i∈ids,(h i).isSome=true∧∃ sh,ρ i=some (.at b sh):=by
  rintro hn rfl
  obtain⟨h1,h2⟩:=mO hn hv
  refine⟨c',[],?_,h2,fun _=>h2,fun b hb=>by cases hb⟩
  cases c' <;> simp only[Dx] at h1 <;> first | rfl | cases h1
 unfold bT at hc
 split at hc
 · rename_i id off len sz
   split at hc
   · rename_i rows hr
     split at hc
     · rename_i hno
       cases hc
       have hv2:=hv
       simp only[VLe] at hv2
       rcases hv2 with ⟨a,sh,e1,rfl⟩ | ⟨e1,rfl,rfl,hc'⟩
       · obtain⟨rows',k1,k2⟩:=MG H hr hv
         obtain⟨k3,k4⟩:=Uh hno k2
         refine⟨.fsl sz rows',[a],by simp only[bT,k1,k3,if_true],VLe.fsl_iff.2 (.inl ⟨rows',rfl,k4⟩),fun e=>(by cases e),fun b hb=>⟨id,List.mem_singleton.2 rfl,?_,sh,?_⟩⟩
         · obtain⟨o,ho⟩:=ER hr
           rw[ho]; rfl
         · rw[List.mem_singleton.1 hb]; exact e1
       · have:=Yc hr
         subst this
         have hz:VLe Rn.nil (.fsl sz []) c':=VLe.fsl_iff.2 (.inr ⟨rfl,hc'⟩)
         refine⟨c',[],?_,hz,fun _=>hz,fun b hb=>by cases hb⟩
         rcases hc' with rfl | rfl <;> rfl
     · cases hc
   · cases hc
 · split at hc
   · rename_i hn
     cases hc
     exact plain hn rfl
   · cases hc
theorem uA (H:HLe ρ h n h' n'):∀ {cs cs' ds:List AV} {ids:List Nat},oA h cs=some (ds,ids)→AI (VLe ρ) cs cs' →
 ∃ ds' ids',oA h' cs' = some (ds',ids')∧AI (VLe Rn.nil) ds ds'∧(cs'.all Dx=true→AI (VLe Rn.nil) ds cs')∧∀ b∈ids',∃ i∈ids,(h i).isSome=true∧∃ sh,ρ i=some (.at b sh)
 | [],[],ds,ids,hl,_=>by
  cases hl
  exact⟨[],[],rfl,trivial,fun _=>trivial,fun b hb=>by cases hb⟩
 | c :: cs,c' :: cs',ds,ids,hl,hv=>by
  simp only[oA] at hl
  split at hl
  · rename_i v x vs y h1 h2
    cases hl
    obtain⟨d',i1,k1,k2,k3,k4⟩:=ACv H h1 hv.1
    obtain⟨ds',i2,m1,m2,m3,m4⟩:=uA H h2 hv.2
    refine⟨d' :: ds',i1 ++ i2,by simp only[oA,k1,m1],⟨k2,m2⟩,fun e=>?_,fun b hb=>?_⟩
    · simp only[List.all_cons,Bool.and_eq_true] at e
      exact⟨k3 e.1,m3 e.2⟩
    · rcases List.mem_append.1 hb with hb | hb
      · obtain⟨i,q1,q2⟩:=k4 b hb
        exact⟨i,List.mem_append_left _ q1,q2⟩
      · obtain⟨i,q1,q2⟩:=m4 b hb
        exact⟨i,List.mem_append_right _ q1,q2⟩
  · cases hl
 | [],_ :: _,_,_,_,hv=>hv.elim
 | _ :: _,[],_,_,_,hv=>hv.elim
theorem uB (H:HLe ρ h n h' n'):∀ {cs cs' ds:List (List AV)} {ids:List Nat},gS h cs=some (ds,ids)→AI (AI (VLe ρ)) cs cs' →
 ∃ ds' ids',gS h' cs' = some (ds',ids')∧AI (AI (VLe Rn.nil)) ds ds'∧((cs'.all fun r=>r.all Dx)=true→AI (AI (VLe Rn.nil)) ds cs')∧∀ b∈ids',∃ i∈ids,(h i).isSome=true∧∃ sh,ρ i=some (.at b sh)
 | [],[],ds,ids,hl,_=>by
  cases hl
  exact⟨[],[],rfl,trivial,fun _=>trivial,fun b hb=>by cases hb⟩
 | c :: cs,c' :: cs',ds,ids,hl,hv=>by
  simp only[gS] at hl
  split at hl
  · rename_i v x vs y h1 h2
    cases hl
    obtain⟨d',i1,k1,k2,k3,k4⟩:=uA H h1 hv.1
    obtain⟨ds',i2,m1,m2,m3,m4⟩:=uB H h2 hv.2
    refine⟨d' :: ds',i1 ++ i2,by simp only[gS,k1,m1],⟨k2,m2⟩,fun e=>?_,fun b hb=>?_⟩
    · simp only[List.all_cons,Bool.and_eq_true] at e
      exact⟨k3 e.1,m3 e.2⟩
    · rcases List.mem_append.1 hb with hb | hb
      · obtain⟨i,q1,q2⟩:=k4 b hb
        exact⟨i,List.mem_append_left _ q1,q2⟩
      · obtain⟨i,q1,q2⟩:=m4 b hb
        exact⟨i,List.mem_append_right _ q1,q2⟩
  · cases hl
 | [],_ :: _,_,_,_,hv=>hv.elim
 | _ :: _,[],_,_,_,hv=>hv.elim
theorem gF {sz:Nat} {e:TypeId} {x y y2:AV} (hs:CQ P e=some sz) (hr:Bn h sz y=Bn h sz y2):Br P h n e x y=Br P h n e x y2:=by
 unfold Br
 simp only[hs,Option.bind_eq_bind,Option.bind_some,hr]
theorem T2 {e:TypeId} {x y v:AV} {us:Ups} (ha:Br P h n e x y=some (v,us)):∃ sz rows,CQ P e=some sz∧Bn h sz y=some rows:=by
 unfold Br at ha
 simp only[Option.bind_eq_bind,Option.bind_eq_some_iff] at ha
 obtain⟨sz,h1,b,_,rows,h3,_⟩:=ha
 exact⟨sz,rows,h1,h3⟩
theorem YF {e:TypeId} {x y:AV} (hy:y=AQ∨y = .esl):EW P h n e x y=Br P h n e x y:=by
 rcases hy with rfl | rfl <;> rfl
theorem tJ (H:HLe ρ h n h' n') {e:TypeId} {x x' y y':AV} (hx:VLe ρ x x') (hy:VLe ρ y y') :
 MM ρ h n h' n' 1 (EW P h n e x y) (EW P h' n' e x' y'):=by
 have plain:EW P h n e x y=Br P h n e x y→EW P h' n' e x' y' = Br P h' n' e x' y'→MM ρ h n h' n' 1 (EW P h n e x y) (EW P h' n' e x' y'):=fun e1 e2=>by
  rw[e1,e2]; exact HL H hx hy
 cases y with
 | osl id off len sz=>
  have hy2:=hy
  simp only[VLe] at hy2
  cases hrows:Bn h sz (.osl id off len sz) with
  | none=>
   intro v us hs
   simp only[EW,hrows] at hs
   cases hs
  | some rows=>
   rcases hy2 with ⟨a,sh,e1,rfl⟩ | ⟨e1,rfl,rfl,hy'⟩
   · obtain⟨rows',k1,k2⟩:=MG H hrows hy
     by_cases hno:(rows.all fun r=>r.all Dx)=true
     · have hno':=(Uh hno k2).1
       exact plain (by simp only[EW,hrows,hno,if_true]) (by simp only[EW,k1,hno',if_true])
     · intro v us hs
       simp only[EW,hrows,if_neg hno] at hs
       cases hf:gS h rows with
       | none=>rw[hf] at hs; cases hs
       | some q=>
        obtain⟨rs,ids⟩:=q
        rw[hf] at hs
        obtain⟨⟨v0,us0⟩,h1,h2⟩:=Option.map_eq_some_iff.1 hs
        cases h2
        obtain⟨rs',ids',f1,f2,f3,f4⟩:=uB H hf k2
        have hne:rs≠[]:=fun e0=>by
         subst e0
         have:=(aN hf).1
         have:rows=[]:=List.eq_nil_of_length_eq_zero (by simpa using this.symm)
         subst this
         exact hno rfl
        obtain⟨sz0,rws,g1,g2⟩:=T2 h1
        have hsz:sz=sz0:=by
         simp only[Bn] at g2
         split at g2
         · rename_i hh
           rcases hh with hh | hh
           · exact hh
           · exact absurd hh hne
         · cases g2
        subst hsz
        obtain⟨o,ho⟩:=ER hrows
        by_cases hno':(rows'.all fun r=>r.all Dx)=true
        · have H1:=(H.drops (A:=id :: ids) (B:=[]) (fun b hb=>by cases hb)).1
          obtain⟨v',us',ρ1,m1,m2,m3,m4⟩:=HL (P:=P) (e:=e) H1 hx (y:=.fsl sz rs) (y':=.fsl sz rows') (VLe.fsl_iff.2 (.inl ⟨rows',rfl,f3 hno'⟩)) _ _ h1
          have e2:EW P h' n' e x' (.osl a (sh + off) len sz)=Br P h' n' e x' (.fsl sz rows'):=by
           simp only[EW,k1,hno',if_true]
           exact gF g1 (by rw[k1]; simp[Bn])
          refine⟨v',us',ρ1,e2.trans m1,m2,?_,m4⟩
          rw[Jy]
          exact m3
        · obtain⟨H1,F1⟩:=H.drops (A:=id :: ids) (B:=a :: ids') (fun b hb=>by
           rcases List.mem_cons.1 hb with rfl | hb
           · exact⟨id,List.mem_cons_self ..,by rw[ho]; rfl,sh,e1⟩
           · obtain⟨i,q1,q2⟩:=f4 b hb
             exact⟨i,List.mem_cons_of_mem id q1,q2⟩)
          obtain⟨v',us',ρ1,m1,m2,m3,m4⟩:=HL (P:=P) (e:=e) H1 hx (y:=.fsl sz rs) (y':=.fsl sz rs') (VLe.fsl_iff.2 (.inl ⟨rs',rfl,f2⟩)) _ _ h1
          refine⟨v',Vm.drops (a :: ids') ++ us',ρ1,?_,m2,?_,?_⟩
          · simp only[EW,k1,if_neg hno',f1,m1,Option.map_some]
          · rw[Jy,Jy]; exact m3
          · rw[Jy]; exact F1.trans m4
   · have:=Yc hrows
     subst this
     exact plain (by simp only[EW,hrows]; rfl) (YF hy')
 | s w=>rw[hy.s_inv]; exact HL H hx (VLe.s_refl w)
 | fsl sz rows=>
  rcases VLe.fsl_iff.1 hy with ⟨rs,rfl,h2⟩ | ⟨rfl,hy'⟩
  · exact plain rfl rfl
  · exact plain rfl (YF hy')
 | esl=>simp only[VLe] at hy; subst hy; exact HL H hx (by simp[VLe])
 | _=>intro v us hs; obtain⟨sz,rows,_,h2⟩:=T2 (P:=P) (show Br P h n e x _=some _ from hs); simp[Bn] at h2
theorem tK (H:HLe ρ h n h' n') {tx e:TypeId} {x x' y y':AV} (hx:VLe ρ x x') (hy:VLe ρ y y') :
 MM ρ h n h' n' 1 (Mo P h n tx e x y) (Mo P h' n' tx e x' y'):=by
 unfold Mo
 split
 · exact tJ H hx hy
 · exact HL H hx hy
end
end Go.Vm
namespace Go.Vm
open Go
section
variable {ρ:Rn} {h h':AW} {n n':Nat} {P:Program} {t t':List AV}
theorem tE {α β:Type} {R:α→β→Prop} {a:List α} {b:List β} (h:AI R a b):AI (AI R) [a] [b]:=⟨h,trivial⟩
def kN (o:Op):Nat:=if Be o then 1 else 0
def JZ:Op→Bool
 | .slice _ _ _ _ m=>m.isNone
 | .binOp _ _ _ (.const (.slice none 0 0)) _=>false
 | _=>true
theorem ABi {op:BinOp} {xt yt:TypeId} {x y:Operand} {b:Bool} (h:gZ P op xt y=some b) (hn:JZ (.binOp op xt x y yt)=true):False:=by
 unfold gZ at h
 split at h
 · cases hn
 · cases hn
 · cases h
theorem ABj {op:BinOp} {xt yt:TypeId} {x y:Operand} {v:Option AV} (hn:JZ (.binOp op xt x y yt)=true):zH P op xt y v=none:=by
 have key:gZ P op xt y=none:=by
  cases h:gZ P op xt y with
  | none=>rfl
  | some b=>exact (ABi h hn).elim
 unfold zH
 split
 · exact key
 · exact key
 · exact key
 · rfl
theorem AAI (r r':Res) (k:Nat) (hk:∀ v us,r=some (v,us)→MM ρ h n h' n' k r r'):MM ρ h n h' n' k r r':=fun v us e=>hk v us e v us e
theorem OX (H:HLe ρ h n h' n') {k:Nat} {o:Oper} (he:execOp (A9 t') o=execOp (A9 t) o):MM ρ h n h' n' k ((DK P (A9 t) o).map (·,[])) ((DK P (A9 t') o).map (·,[])):=by
 refine HG H k fun v hv=>⟨v,?_,?_⟩
 · unfold DK at hv ⊢
   rw[he]; exact hv
 · unfold DK at hv
   split at hv
   · cases hv; exact Ui _
   · cases hv
theorem PV (ht:AI (VLe ρ) t t'):∀ (xs:List Operand),xs.all (BP t)=true→xs.all (BP t')=true∧xs.map (A9 t')=xs.map (A9 t)
 | [],_=>⟨rfl,rfl⟩
 | x :: xs,hx=>by
  simp only[List.all_cons,Bool.and_eq_true] at hx ⊢
  obtain⟨h1,h2⟩:=OW ht hx.1
  obtain⟨h3,h4⟩:=PV ht xs hx.2
  exact⟨⟨h1,h3⟩,by simp only[List.map_cons,h2,h4]⟩
theorem Uj (t:List AV):Eu t none=some none:=rfl
theorem sW {w:AV} {b:ByteArray} (hw:VLe ρ w (.s (.string b))) (ha:w ≠ .any):w = .s (.string b):=by
 cases w with
 | any=>exact absurd rfl ha
 | s v=>rw[show v = .string b by have:=hw.s_inv; cases this; rfl]
 | _=>simp[VLe] at hw
theorem AAb (H:HLe ρ h n h' n') (ht:AI (VLe ρ) t t') {o:Oper} (hns:JZ o.op=true):MM ρ h n h' n' (kN o.op) (aop P o t h n) (aop P o t' h' n'):=by
 refine AAI _ _ _ fun v us hs=>?_
 have mapo:∀ (x:Operand),MM ρ h n h' n' 0 ((A0 t x).map (·,[])) ((A0 t' x).map (·,[])):=fun x=>HG H 0 fun v hv=>BZ ht hv
 unfold aop at hs ⊢
 cases ho:o.op with
 | move x=>exact mapo x
 | assign x=>exact mapo x
 | pick c a b=>
  simp only[ho] at hs ⊢
  cases hb:(A0 t c).bind DD with
  | none=>rw[hb] at hs; cases hs
  | some q=>
   rw[zL ht hb]
   cases q
   · exact mapo b
   · exact mapo a
 | alloc e=>
  simp only[ho] at hs ⊢
  cases hz:E1 P e with
  | none=>exact Cf
  | some cs=>exact MH H (tE (J0 hz)) (yD _)
 | box e x=>
  simp only[ho] at hs ⊢
  cases hx:A0 t x with
  | none=>rw[hx] at hs; cases hs
  | some w=>
   rw[hx] at hs
   cases hc:cellsOf w with
   | none=>simp[hc] at hs
   | some cs=>
    obtain⟨w',h1,h2⟩:=BZ ht hx
    obtain⟨ds,h3,h4⟩:=KD hc h2
    simp only[h1,hc,h3,Option.bind_some]
    rw[h4.length]
    exact MH H (tE h4) (yD _)
 | build ty ps=>
  simp only[ho] at hs ⊢
  cases h1:E1 P ty with
  | none=>rw[h1] at hs; simp at hs
  | some z=>cases h2:aT P ty with
   | none=>rw[h1,h2] at hs; simp at hs
   | some pl=>cases h3:HX t ps.toList with
    | none=>rw[h1,h2,h3] at hs; simp at hs
    | some vs=>
     obtain⟨vs',h4,h5⟩:=TA ht h3
     simp only[h4]
     rw[h1,h2,h3] at hs
     simp only at hs
     cases h6:T5 pl z vs with
     | none=>rw[h6] at hs; cases hs
     | some cs=>
      obtain⟨cs',h7,h8⟩:=lT h6 h5 (J0 h1)
      rw[h7]
      exact DY H 0 (VLe.agg_iff.2 ⟨_,rfl,h8⟩)
 | buildSlice ty len ps=>
  simp only[ho] at hs ⊢
  cases h0:LF P ty with
  | none=>rw[h0] at hs; simp at hs
  | some e=>cases h1:CQ P e with
   | none=>rw[h0] at hs; simp[h1] at hs
   | some sz=>cases h2:E1 P e with
    | none=>rw[h0] at hs; simp[h1,h2] at hs
    | some z=>cases h3:HX t ps.toList with
     | none=>rw[h0] at hs; simp[h1,h2,h3] at hs
     | some vs=>
      obtain⟨vs',h4,h5⟩:=TA ht h3
      simp only[h4,h1,h2]
      rw[h0] at hs
      simp only[h1,h2,h3] at hs
      split at hs
      · rename_i hc
        rw[if_pos hc]
        cases h6:Nv sz (List.replicate len z) vs with
        | none=>rw[h6] at hs; cases hs
        | some cs=>
         obtain⟨cs',h7,h8⟩:=Wv h6 h5 (AI.replicate (J0 h2) _)
         rw[h7,if_pos hc]
         exact MH H h8 (Su _ _)
      · cases hs
 | load ty a=>
  simp only[ho] at hs ⊢
  cases hx:A0 t a with
  | none=>exact Cf
  | some w=>
   obtain⟨w',h1,h2⟩:=BZ ht hx
   simp only[h1]
   exact HG H 0 fun v hv=>cH H hv h2
 | store ty a x=>
  simp only[ho] at hs ⊢
  cases hx:A0 t a with
  | none=>exact Cf
  | some w=>cases hy:A0 t x with
   | none=>exact Cf
   | some u=>
    obtain⟨w',h1,h2⟩:=BZ ht hx
    obtain⟨u',h3,h4⟩:=BZ ht hy
    simp only[h1,h3]
    exact ACA H h2 h4
 | nilCheck x=>
  simp only[ho] at hs ⊢
  cases hx:A0 t x with
  | none=>exact Cf
  | some w=>
   rw[hx] at hs
   obtain⟨w',h1,h2⟩:=BZ ht hx
   simp only[h1]
   cases w with
   | ptr id i sz off=>
    have h3:=h2
    simp only[VLe] at h3
    obtain⟨a,sh,_,rfl⟩:=h3
    exact DY H 0 h2
   | fptr row off=>
    have h3:=h2
    obtain⟨ds,rfl,_⟩:=VLe.fptr_iff.1 h3
    exact DY H 0 h2
   | _=>exact Cf
 | binOp op xt x y yt=>
  simp only[ho] at hs ⊢
  by_cases hp:(BP t x && BP t y)=true
  · obtain⟨hx,hy⟩:=Bool.and_eq_true_iff.1 hp
    obtain⟨h1,h2⟩:=OW ht hx
    obtain⟨h3,h4⟩:=OW ht hy
    rw[if_pos hp,if_pos (by rw[h1,h3]; rfl),h2,h4]
    cases hb:Ym op (A9 t x) (A9 t y) with
    | some w=>exact DY H 0 (VLe.s_refl _)
    | none=>exact OX H (by simp only[execOp,ho,h2,h4])
  · rw[if_neg hp,ABj (by rw[ho] at hns; exact hns)]; exact Cf
 | unOp op xt x=>
  simp only[ho] at hs ⊢
  by_cases hp:BP t x=true
  · obtain⟨h1,h2⟩:=OW ht hp
    rw[if_pos hp,if_pos h1]
    exact OX H (by simp only[execOp,ho,h2])
  · rw[if_neg hp]; exact Cf
 | convert src dst x=>
  simp only[ho] at hs ⊢
  cases hx:A0 t x with
  | none=>exact Cf
  | some w=>
   rw[hx] at hs
   obtain⟨w',h1,h2⟩:=BZ ht hx
   simp only[h1]
   have plainCase:(Bc w).isSome=true→BP t x=true:=fun hv=>by unfold BP; rw[hx]; exact hv
   have plain2:(Bc w).isSome=true→(Bc w').isSome=true∧BP t' x=true∧MM ρ h n h' n' 1 ((DK P (A9 t) o).map (·,[])) ((DK P (A9 t') o).map (·,[])):=fun hv=>by
    obtain⟨q,hq⟩:=Option.isSome_iff_exists.1 hv
    obtain⟨h3,h4⟩:=OW ht (plainCase hv)
    exact⟨by rw[TM hq h2]; rfl,h3,OX H (by simp only[execOp,ho,h4])⟩
   cases hS:P.underlying src with
   | none=>
    rw[hS] at hs
    split at hs
    · rename_i e _; cases e
    · rename_i b e1 e2
      cases e1
      have:=h2.s_inv
      subst this
      obtain⟨q1,q2,q3⟩:=plain2 rfl
      rw[e2]
      simp only
      rw[if_pos (plainCase rfl),if_pos q2]
      exact q3
    · rename_i e _; cases e
    · rename_i e _; cases e
    · cases hs
   | some ty=>
    rw[hS] at hs
    split at hs
    · rename_i b u e e1 e2 e3
      cases e1
      have:=h2.s_inv
      subst this
      rw[e3]
      simp only
      split
      · split
        · exact MH H (AI.refl' _ fun r hr=>by
           obtain⟨c,_,rfl⟩:=List.mem_map.1 hr
           exact⟨VLe.s_refl _,trivial⟩) (Su _ _)
        · exact Cf
      · exact Cf
    · rename_i b e1 e2
      cases e1
      have:=h2.s_inv
      subst this
      obtain⟨q1,q2,q3⟩:=plain2 rfl
      rw[e2]
      simp only
      rw[if_pos (plainCase rfl),if_pos q2]
      exact q3
    · rename_i v2 e hn2 e1 e2 e3
      cases e1
      cases e2
      have hwa:w ≠ .any:=by
       rintro rfl
       have:Bn h 1 .any=none:=rfl
       rw[this] at hs
       simp at hs
      have fin:MM ρ h n h' n' 1 (match P.underlying e,(Bn h 1 w).bind F4 with
       | some (.int .u8),some bs=>some (AV.s (Value.string ⟨bs.toArray⟩),[])
       | _,_=>none) (match P.underlying e,(Bn h' 1 w').bind F4 with
       | some (.int .u8),some bs=>some (AV.s (Value.string ⟨bs.toArray⟩),[])
       | _,_=>none):=by
       split at hs
       · rename_i bs q1 q2
         cases q3:Bn h 1 w with
         | none=>rw[q3] at q2; cases q2
         | some rows=>
          rw[q3] at q2
          obtain⟨rows',q4,q5⟩:=MG H q3 h2
          rw[q4,q1]
          simp only[Option.bind_some] at q2 ⊢
          rw[q2,YK q2 q5]
          exact DY H 1 (VLe.s_refl _)
       · cases hs
      rw[e3]
      cases w' with
      | s val=>cases val with
       | string b=>exact absurd (sW h2 hwa) (hn2 b)
       | _=>exact fin
      | _=>exact fin
    · rename_i v2 s1 s2 hn1 hn2 hn3 e1 e2 e3
      cases e1
      cases e2
      rw[e3]
      split at hs
      · rename_i hv
        obtain⟨q1,q2,q3⟩:=plain2 hv
        rw[if_pos hv]
        have hwa:w ≠ .any:=by rintro rfl; simp[Bc] at hv
        split
        · rename_i b u e g1 g2 g3
          cases g1
          cases g3
          exact (hn1 b e (sW h2 hwa) rfl).elim
        · rename_i b g1 g2
          cases g1
          cases g2
          exact (hn2 b (sW h2 hwa) rfl).elim
        · rename_i e hh g1 g2 g3
          cases g2
          cases g3
          exact (hn3 e rfl rfl).elim
        · rename_i g1 g2 g3
          cases g1
          rw[if_pos q1]
          exact q3
        · rename_i g1 g2 g3 g4
          exact (g4 _ _ _ rfl rfl rfl).elim
      · cases hs
    · cases hs
 | makeFunc f first caps=>
  simp only[ho] at hs ⊢
  cases f with
  | func f=>
   simp only at hs ⊢
   split
   · refine AAI _ _ _ fun v us hs=>?_
     cases hx:D5 t caps.toList with
     | none=>rw[hx] at hs; cases hs
     | some vs=>
      obtain⟨vs',h1,h2⟩:=Jb ht hx
      rw[h1]
      exact DY H 0 (VLe.fn_iff.2 ⟨_,rfl,h2⟩)
   · exact Cf
  | _=>simp[Gz,ho] at hs
 | makeSlice ty l c=>
  simp only[ho] at hs ⊢
  cases h0:LF P ty with
  | none=>rw[h0] at hs; simp at hs
  | some e=>cases h1:CQ P e with
   | none=>rw[h0] at hs; simp[h1] at hs
   | some sz=>cases h2:O0 P e with
    | none=>rw[h0] at hs; simp[h1,h2] at hs
    | some b=>cases h3:E1 P e with
     | none=>rw[h0] at hs; simp[h1,h2,h3] at hs
     | some z=>cases h4:(A0 t l).bind DQ with
      | none=>rw[h0] at hs; simp[h1,h2,h3,h4] at hs
      | some ln=>cases h5:(A0 t c).bind DQ with
       | none=>rw[h0] at hs; simp[h1,h2,h3,h4,h5] at hs
       | some cp=>
        simp only[h1,h2,h3,h4,h5,N3 ht h4,N3 ht h5]
        split
        · exact MH H (AI.replicate (J0 h3) _) (Su _ _)
        · exact Cf
 | slice xt x lo hi mx=>
  simp only[ho] at hs ⊢
  have hmx:mx=none:=by rw[ho] at hns; simpa[JZ] using hns
  subst hmx
  cases hx:A0 t x with
  | none=>rw[hx] at hs; simp at hs
  | some w=>cases h1:Eu t lo with
   | none=>rw[hx,h1] at hs; simp at hs
   | some l=>cases h2:Eu t hi with
    | none=>rw[hx,h1,h2] at hs; simp at hs
    | some u=>
     obtain⟨w',g1,g2⟩:=BZ ht hx
     obtain⟨l',g3,g4⟩:=mR ht h1
     obtain⟨u',g5,g6⟩:=mR ht h2
     rw[hx,h1,h2] at hs
     simp only[g1,g3,g5,Uj] at hs ⊢
     have key:MM ρ h n h' n' 0 ((Ea w l u none).map (·,[])) ((Ea w' l' u' none).map (·,[])):=HG H 0 fun v hv=>xW hv rfl g2 g4 g6 rfl
     cases hu:P.underlying xt with
     | none=>rw[hu] at hs; simp at hs
     | some ty=>
      rw[hu] at hs
      cases ty with
      | slice e=>
       simp only at hs ⊢
       cases hz:CQ P e with
       | none=>rw[hz] at hs; simp at hs
       | some z=>
        rw[hz] at hs
        simp only at hs ⊢
        cases w with
        | osl id off len sz=>
         simp only at hs ⊢
         split at hs
         · rename_i hsz
           rw[if_pos hsz]
           have h3:=g2
           simp only[VLe] at h3
           rcases h3 with ⟨a,sh,_,rfl⟩ | ⟨_,_,_,rfl | rfl⟩
           · simp only
             rw[if_pos hsz]
             exact key
           · exact key
           · exact key
         · cases hs
        | fsl sz rows=>
         simp only at hs ⊢
         split at hs
         · rename_i hsz
           rw[if_pos hsz]
           have h3:=g2
           rcases VLe.fsl_iff.1 h3 with ⟨rs',rfl,_⟩ | ⟨_,rfl | rfl⟩
           · simp only
             rw[if_pos hsz]
             exact key
           · exact key
           · exact key
         · cases hs
        | esl=>
         have h3:=g2
         simp only[VLe] at h3
         subst h3
         exact key
        | s val=>
         have:=g2.s_inv
         subst this
         split at hs
         · rename_i e1; cases e1
         · rename_i e1; cases e1
         · rename_i e1; cases e1
         · rename_i e1; cases e1; exact key
         · cases hs
        | _=>simp at hs
      | string=>
       simp only at hs ⊢
       cases w with
       | s val=>
        have:=g2.s_inv
        subst this
        split at hs
        · rename_i e1; cases e1; exact key
        · cases hs
       | _=>simp at hs
      | _=>simp at hs
 | fieldAddr xt x f=>
  simp only[ho] at hs ⊢
  cases hx:A0 t x with
  | none=>exact Cf
  | some w=>
   obtain⟨w',h1,h2⟩:=BZ ht hx
   simp only[h1]
   exact HG H 0 fun v hv=>Yq hv h2
 | field xt x f=>
  simp only[ho] at hs ⊢
  cases hx:A0 t x with
  | none=>rw[hx] at hs; simp at hs
  | some w=>
   rw[hx] at hs
   cases w with
   | agg cs=>
    obtain⟨w',h1,h2⟩:=BZ ht hx
    obtain⟨ds,rfl,h3⟩:=VLe.agg_iff.1 h2
    cases hu:P.underlying xt with
    | none=>rw[hu] at hs; simp at hs
    | some ty=>
     rw[hu] at hs
     cases ty with
     | struct fields=>
      simp only[h1] at hs ⊢
      cases hf:fields[f]? with
      | none=>exact Cf
      | some fd=>exact HG H 0 fun v hv=>PK hv h3
     | _=>simp at hs
   | _=>simp at hs
 | indexAddr xt x i=>
  simp only[ho] at hs ⊢
  cases hx:A0 t x with
  | none=>rw[hx] at hs; simp at hs
  | some w=>cases hi:(A0 t i).bind DQ with
   | none=>rw[hx,hi] at hs; simp at hs
   | some j=>
    obtain⟨w',h1,h2⟩:=BZ ht hx
    simp only[h1,N3 ht hi]
    exact HG H 0 fun v hv=>Yt hv h2
 | index xt x i=>
  simp only[ho] at hs ⊢
  cases hx:A0 t x with
  | none=>rw[hx] at hs; simp at hs
  | some w=>cases hi:(A0 t i).bind DQ with
   | none=>rw[hx,hi] at hs; simp at hs
   | some j=>
    obtain⟨w',h1,h2⟩:=BZ ht hx
    cases hu:P.underlying xt with
    | none=>rw[hx,hi,hu] at hs; simp at hs
    | some ty=>
     simp only[h1,N3 ht hi]
     rw[hx,hi,hu] at hs
     split at hs
     · rename_i b j2 e1 e2 e3
       cases e1
       cases e2
       cases e3
       have:=h2.s_inv
       subst this
       simp only
       split
       · exact DY H 0 (VLe.s_refl _)
       · exact Cf
     · rename_i cs j2 len e e1 e2 e3
       cases e1
       cases e2
       cases e3
       obtain⟨ds,rfl,h3⟩:=VLe.agg_iff.1 h2
       simp only
       split
       · split
         · exact HG H 0 fun v hv=>PK hv h3
         · exact Cf
       · exact Cf
     · cases hs
 | extract x i=>
  simp only[ho] at hs ⊢
  cases hx:A0 t x with
  | none=>rw[hx] at hs; simp at hs
  | some w=>
   rw[hx] at hs
   cases w with
   | tup vs=>
    obtain⟨w',h1,h2⟩:=BZ ht hx
    obtain⟨ds,rfl,h3⟩:=VLe.tup_iff.1 h2
    simp only[h1]
    exact HG H 0 fun v hv=>h3.get hv
   | _=>simp at hs
 | call c=>
  obtain⟨callee,args,ats⟩:=c
  cases callee with
  | builtin b=>
   simp only[ho] at hs ⊢
   cases b with
   | len=>
    simp only at hs ⊢
    split at hs
    · rename_i x hargs
      cases hx:A0 t x with
      | none=>rw[hx] at hs; cases hs
      | some w=>
       rw[hx] at hs
       obtain⟨w',h1,h2⟩:=BZ ht hx
       simp only[h1]
       cases hu:(ats[0]?).bind P.underlying with
       | none=>rw[hu] at hs; simp at hs
       | some ty=>
        rw[hu] at hs
        have hsv:∀ {val:Value},w = .s val→w' = .s val:=fun e=>by rw[e] at h2; exact h2.s_inv
        cases ty with
        | slice e=>
         cases w with
         | osl id off len sz=>
          simp only[VLe] at h2
          rcases h2 with ⟨a,sh,_,rfl⟩ | ⟨_,_,rfl,rfl | rfl⟩ <;> exact DY H 0 (VLe.s_refl _)
         | fsl sz rows=>
          rcases VLe.fsl_iff.1 h2 with ⟨rs',rfl,h3⟩ | ⟨rfl,rfl | rfl⟩
          · simp only[lenOf]
            rw[h3.length]
            exact DY H 0 (VLe.s_refl _)
          · exact DY H 0 (VLe.s_refl _)
          · exact DY H 0 (VLe.s_refl _)
         | esl=>simp only[VLe] at h2; subst h2; exact DY H 0 (VLe.s_refl _)
         | s val=>
          have:=hsv rfl
          subst this
          cases val with
          | slice a b c=>cases a <;> cases b <;> cases c <;> first | (simp at hs; done) | exact DY H 0 (VLe.s_refl _)
          | _=>simp at hs
         | _=>simp at hs
        | string=>
         cases w with
         | s val=>
          have:=hsv rfl
          subst this
          cases val with
          | string b=>exact DY H 0 (VLe.s_refl _)
          | _=>simp at hs
         | _=>simp at hs
        | array k e=>exact DY H 0 (VLe.s_refl _)
        | map kt et=>
         cases w with
         | mp id=>
          simp only at hs
          split at hs
          · rename_i hty
            split at hs
            · rename_i es hid
              obtain⟨a,es',rfl,g1,g2,g3⟩:=mM H h2 hid
              simp only[hty,if_true,g2,g3.length,hid]
              exact DY H 0 (VLe.s_refl _)
            · cases hs
          · cases hs
         | fmp es=>
          simp only[VLe] at h2
          subst h2
          exact DY H 0 (VLe.s_refl _)
         | _=>simp at hs
        | _=>simp at hs
    · cases hs
   | append=>
    simp only at hs ⊢
    split at hs
    · rename_i x y tx ty hargs hats
      cases hx:A0 t x with
      | none=>rw[hx] at hs; simp at hs
      | some w=>cases hy:A0 t y with
       | none=>rw[hx,hy] at hs; simp at hs
       | some u=>cases h0:LF P tx with
        | none=>rw[hx,hy,h0] at hs; simp at hs
        | some e=>
         obtain⟨w',h1,h2⟩:=BZ ht hx
         obtain⟨u',h3,h4⟩:=BZ ht hy
         simp only[h1,h3]
         rw[hx,hy,h0] at hs
         split at hs
         · rename_i e1 e2 e3 e4
           cases e1
           cases e2
           cases e3
           rw[e4]
           exact tK H h2 h4
         · rename_i e1 e2 e3 e4
           cases e1
           cases e2
           cases e3
           rw[e4]
           exact HL H h2 h4
         · rename_i e1 e2 e3 e4
           cases e1
           cases e2
           cases e3
           rw[e4,h2.s_inv,h4.s_inv]
           exact AC1 H
         · cases hs
    · cases hs
   | clear=>
    simp only at hs ⊢
    split at hs
    · rename_i x tx hargs hats
      cases hx:A0 t x with
      | none=>rw[hx] at hs; simp at hs
      | some w=>cases h0:LF P tx with
       | none=>rw[hx,h0] at hs; simp at hs
       | some e=>
        obtain⟨w',h1,h2⟩:=BZ ht hx
        simp only[h1]
        rw[hx,h0] at hs
        exact ABG H h2
    · cases hs
   | min=>
    simp only at hs ⊢
    split at hs
    · rename_i hp
      have hp2:args.toList.all (BP t)=true:=by simpa using hp
      obtain⟨q1,q2⟩:=PV ht _ hp2
      rw[if_pos hp,if_pos (by simpa using q1)]
      refine OX H ?_
      have he:args.map (A9 t')=args.map (A9 t):=by
       apply Array.ext'
       rw[Array.toList_map,Array.toList_map]
       exact q2
      simp only[execOp,ho,resolve,he]
    · cases hs
   | max=>
    simp only at hs ⊢
    split at hs
    · rename_i hp
      have hp2:args.toList.all (BP t)=true:=by simpa using hp
      obtain⟨q1,q2⟩:=PV ht _ hp2
      rw[if_pos hp,if_pos (by simpa using q1)]
      refine OX H ?_
      have he:args.map (A9 t')=args.map (A9 t):=by
       apply Array.ext'
       rw[Array.toList_map,Array.toList_map]
       exact q2
      simp only[execOp,ho,resolve,he]
    · cases hs
   | cap=>
    simp only at hs ⊢
    split at hs
    · rename_i hp
      have hp2:args.toList.all (BP t)=true:=by simpa using hp
      obtain⟨q1,q2⟩:=PV ht _ hp2
      rw[if_pos hp,if_pos (by simpa using q1)]
      refine OX H ?_
      have he:args.map (A9 t')=args.map (A9 t):=by
       apply Array.ext'
       rw[Array.toList_map,Array.toList_map]
       exact q2
      simp only[execOp,ho,resolve,he]
    · cases hs
   | _=>simp at hs
  | _=>
   have hm:=mK (P:=P) H ht (o:=o)
   rw[ho] at hm
   exact hm
 | _=>
  have hm:=mK (P:=P) H ht (o:=o)
  rw[ho] at hm
  exact hm
end
end Go.Vm
namespace Go.Vm
open Go
theorem BJ {P:Program} {α β:Type}:∀ (x:Sem α) (f:α→Sem β),Bs P (x >>= f)=(Bs P x).bind fun a=>Bs P (f a)
 | .pure a,f=>rfl
 | .program k,f=>by show Bs P ((k P) >>= f)=_; rw[BJ (k P) f]; rfl
 | .mark _ k,f=>by show Bs P (k >>= f)=_; rw[BJ k f]; rfl
 | .load ..,f=>rfl
 | .store ..,f=>rfl
 | .new ..,f=>rfl
 | .shape ..,f=>rfl
 | .freeze ..,f=>rfl
 | .frozen ..,f=>rfl
 | .getObj ..,f=>rfl
 | .setObj ..,f=>rfl
 | .choose ..,f=>rfl
 | .sys ..,f=>rfl
 | .halt _,f=>rfl
theorem LW {P:Program} {α:Type} (a:α):Bs P (pure a:Sem α)=some a:=rfl
theorem FT {P:Program}:Bs P program=some P:=rfl
theorem G9 {P:Program} {t:TypeId} {d:TypeDesc} (h:P.underlying t=some d):Bs P (underlying t)=some d:=by
 unfold underlying
 rw[BJ,FT]
 simp only[Option.bind_some,h]
 rfl
theorem qJ {P:Program} {t:TypeId} {n:Nat} (h:CQ P t=some n):Bs P (sizeOf t)=some n:=by
 unfold CQ at h
 unfold sizeOf typeInfo
 rw[BJ,BJ,FT]
 simp only[Option.bind_some]
 cases hi:P.info? t with
 | none=>rw[hi] at h; cases h
 | some i=>
  rw[hi] at h
  simp only[Option.map_some,Option.some.injEq] at h
  subst h
  rfl
theorem Yb {P:Program} {t:TypeId} {b:Bool} (h:Ue P t=some b):Bs P (isAgg t)=some b:=by
 unfold Ue at h
 unfold isAgg
 rw[BJ]
 cases hu:P.underlying t with
 | none=>rw[hu] at h; cases h
 | some d=>
  rw[G9 hu]
  rw[hu] at h
  simp only[Option.bind_some]
  cases d <;> (cases h; rfl)
def T9 (P:Program) (t:TypeId) (cs:List AV) (off:Nat):Option AV:=
 match Ue P t with
 | some true=>(CQ P t).map fun n=>.agg ((cs.drop off).take n)
 | some false=>lk2 cs off
 | none=>none
where lk2:List AV→Nat→Option AV
 | [],_=>none
 | c :: _,0=>some c
 | _ :: cs,n + 1=>lk2 cs n
theorem ADG:∀ (cs:List AV) (n:Nat),T9.lk2 cs n=cs[n]?
 | [],_=>by simp[T9.lk2]
 | _ :: _,0=>by simp[T9.lk2]
 | _ :: cs,n + 1=>by simp[T9.lk2,ADG cs n]
def yU (P:Program) (f:TypeId→AV→AV→Option Bool) (xs ys:List AV):List Field→Option Bool
 | []=>some true
 | fd :: fs=>if fd.name = "_" then yU P f xs ys fs else match T9 P fd.type xs fd.offset,T9 P fd.type ys fd.offset with
  | some u,some v=>match f fd.type u v with
   | some a=>match fs with
    | []=>some a
    | _=>(yU P f xs ys fs).map (a && ·)
   | none=>none
  | _,_=>none
def eqA (P:Program):Nat→TypeId→AV→AV→Option Bool
 | 0,_,_,_=>none
 | d + 1,t,x,y=>match P.underlying t,x,y with
  | some .bool,.s (.bool a),.s (.bool b)=>some (a == b)
  | some (.int _),.s (.int k a),.s (.int k' b)=>if k=k' then some (a == b) else none
  | some .string,.s (.string a),.s (.string b)=>some (a.data.toList == b.data.toList)
  | some (.struct fs),.agg xs,.agg ys=>cond (P.stoodInHeld t) none (yU P (eqA P d) xs ys fs.toList)
  | _,_,_=>none
theorem fZ:∀ {cs:List AV} {vs:List Value},toVals cs=some vs→∀ {i:Nat} {c:AV},cs[i]? = some c→∃ v,vs[i]? = some v∧Bc c=some v
 | [],_,_,_,_,h=>by simp at h
 | c :: cs,vs,h,i,d,hd=>by
  simp only[toVals] at h
  split at h
  · rename_i v us h1 h2
    cases h
    cases i with
    | zero=>simp only[List.getElem?_cons_zero,Option.some.injEq] at hd; subst hd; exact⟨v,rfl,h1⟩
    | succ i=>simp only[List.getElem?_cons_succ] at hd ⊢; exact fZ h2 hd
  · cases h
theorem Yg {c:AV} {cs:List AV} {vs:List Value} (h:toVals (c :: cs)=some vs):∃ v us,vs=v :: us∧Bc c=some v∧toVals cs=some us:=by
 simp only[toVals] at h
 split at h
 · rename_i v us h1 h2; cases h; exact⟨v,us,rfl,h1,h2⟩
 · cases h
theorem Yh:∀ {cs:List AV} {vs:List Value} (n:Nat),toVals cs=some vs→toVals (cs.drop n)=some (vs.drop n)
 | cs,vs,0,h=>by simpa using h
 | [],vs,n + 1,h=>by simp only[toVals,Option.some.injEq] at h; subst h; rfl
 | c :: cs,vs,n + 1,h=>by
  obtain⟨v,us,rfl,h1,h2⟩:=Yg h
  simpa using Yh n h2
theorem Yi:∀ {cs:List AV} {vs:List Value} (n:Nat),toVals cs=some vs→toVals (cs.take n)=some (vs.take n)
 | cs,vs,0,h=>by simp[toVals]
 | [],vs,n + 1,h=>by simp only[toVals,Option.some.injEq] at h; subst h; rfl
 | c :: cs,vs,n + 1,h=>by
  obtain⟨v,us,rfl,h1,h2⟩:=Yg h
  simp only[List.take_succ_cons,toVals,h1,Yi n h2]
theorem nG {cs:List AV} {u:Value} (h:Bc (.agg cs)=some u):∃ vs,toVals cs=some vs∧u = .agg vs.toArray:=by
 simp only[Bc] at h
 split at h
 · rename_i vs h1; cases h; exact⟨vs,h1,rfl⟩
 · cases h
theorem uW {P:Program} {t:TypeId} {cs:List AV} {vs:List Value} {off:Nat} {c:AV} (h:T9 P t cs off=some c) (hv:toVals cs=some vs):∃ u,Bc c=some u∧Bs P (part t vs.toArray off)=some u:=by
 unfold T9 at h
 unfold part
 rw[BJ]
 split at h
 · rename_i ha
   rw[Yb ha]
   cases hs:CQ P t with
   | none=>rw[hs] at h; cases h
   | some n=>
    rw[hs] at h
    simp only[Option.map_some,Option.some.injEq] at h
    subst h
    refine⟨.agg ((vs.drop off).take n).toArray,by simp only[Bc,Yi n (Yh off hv)],?_⟩
    simp only[Option.bind_some,if_true]
    rw[BJ,qJ hs]
    simp only[Option.bind_some,LW]
    congr 2
    apply Array.ext'
    simp[List.take_drop]
 · rename_i ha
   rw[Yb ha]
   rw[ADG] at h
   obtain⟨v,h1,h2⟩:=fZ hv h
   refine⟨v,h2,?_⟩
   simp only[Option.bind_some,Bool.false_eq_true,if_false,List.getElem?_toArray,h1]
   rfl
 · cases h
theorem nI {P:Program} {f:TypeId→AV→AV→Option Bool} {F:TypeId→Value→Value→Sem Bool} (hf:∀ t x y b u v,f t x y=some b→Bc x=some u→Bc y=some v→Bs P (F t u v)=some b) {xs ys:List AV} {us vs:List Value} (hx:toVals xs=some us) (hy:toVals ys=some vs) :
 ∀ {fs:List Field} {b:Bool},yU P f xs ys fs=some b→∀ k:Option Bool × Unit→Sem Bool,Bs P (k (none,()))=some true→(∀ r u,Bs P (k (some r,u))=some r) →
  Bs P (do
   let __s ← forIn fs ((none:Option Bool),()) fun f __s=>
    if f.name ≠ "_" then do
     let a ← part f.type us.toArray f.offset
     let c ← part f.type vs.toArray f.offset
     let e ← F f.type a c
     if (!e)=true then pure (ForInStep.done (some false,())) else pure (ForInStep.yield (none,()))
    else pure (ForInStep.yield (none,()))
   k __s)=some b
 | [],b,h,k,hk1,hk2=>by
  simp only[yU,Option.some.injEq] at h
  subst h
  exact hk1
 | fd :: fs,b,h,k,hk1,hk2=>by
  rw[List.forIn_cons]
  simp only[yU] at h
  by_cases hn:fd.name = "_"
  · rw[if_pos hn] at h
    have ih:=nI hf hx hy h k hk1 hk2
    rw[BJ,BJ]
    simp only[hn,ne_eq,not_true_eq_false,if_false,LW,Option.bind_some]
    rw[BJ] at ih
    exact ih
  · rw[if_neg hn] at h
    cases h1:T9 P fd.type xs fd.offset with
    | none=>rw[h1] at h; cases h
    | some u=>
     cases h2:T9 P fd.type ys fd.offset with
     | none=>rw[h1,h2] at h; cases h
     | some v=>
      rw[h1,h2] at h
      simp only at h
      cases h3:f fd.type u v with
      | none=>rw[h3] at h; cases h
      | some a=>
       rw[h3] at h
       simp only at h
       have h':∃ b2,yU P f xs ys fs=some b2∧b=(a && b2):=by
        cases fs with
        | nil=>simp only[Option.some.injEq] at h; subst h; exact⟨true,rfl,by simp⟩
        | cons g gs=>
         simp only[Option.map_eq_some_iff] at h
         obtain⟨b2,e1,e2⟩:=h
         exact⟨b2,e1,e2.symm⟩
       obtain⟨b2,e1,rfl⟩:=h'
       obtain⟨u',k1,k2⟩:=uW h1 hx
       obtain⟨v',k3,k4⟩:=uW h2 hy
       have ih:=nI hf hx hy e1 k hk1 hk2
       have k5:=hf _ _ _ _ _ _ h3 k1 k3
       rw[BJ,BJ]
       simp only[ne_eq,hn,not_false_eq_true,if_true]
       rw[BJ,k2]
       simp only[Option.bind_some]
       rw[BJ,k4]
       simp only[Option.bind_some]
       rw[BJ,k5]
       simp only[Option.bind_some]
       cases a with
       | false=>exact hk2 false ()
       | true=>
        simp only[Bool.not_true,Bool.false_eq_true,if_false,LW,Option.bind_some,Bool.true_and]
        rw[BJ] at ih
        exact ih
theorem ACo {P:Program}:∀ (d:Nat) (t:TypeId) (x y:AV) (b:Bool) (u v:Value),eqA P d t x y=some b→Bc x=some u→Bc y=some v→∀ D,d≤D→Bs P (Op.equalIn D t u v)=some b
 | 0,_,_,_,_,_,_,h,_,_,_,_=>by simp[eqA] at h
 | d + 1,t,x,y,b,u,v,h,hu,hv,0,hD=>by omega
 | d + 1,t,x,y,b,u,v,h,hu,hv,D + 1,hD=>by
  simp only[eqA] at h
  split at h
  · rename_i ht
    simp only[Bc,Option.some.injEq] at hu hv h
    subst hu hv h
    unfold Op.equalIn
    rw[BJ,G9 ht]
    rfl
  · rename_i ht
    simp only[Bc,Option.some.injEq] at hu hv
    subst hu hv
    split at h
    · rename_i hk
      cases h
      unfold Op.equalIn
      rw[BJ,G9 ht]
      simp only[Option.bind_some,hk,if_true]
      rfl
    · cases h
  · rename_i ht
    simp only[Bc,Option.some.injEq] at hu hv h
    subst hu hv h
    unfold Op.equalIn
    rw[BJ,G9 ht]
    simp only[Option.bind_some,LW,Option.some.injEq]
    show (_root_.BEq.beq (α:=Array UInt8) _ _)=_
    rw[Bool.eq_iff_iff]
    simp only[beq_iff_eq]
    exact⟨fun e=>by rw[e],fun e=>Array.ext' e⟩
  · rename_i fs xs ys ht
    obtain⟨us,h1,rfl⟩:=nG hu
    obtain⟨vs,h2,rfl⟩:=nG hv
    cases hst:P.stoodInHeld t with
    | true=>rw[hst] at h; cases h
    | false=>
     rw[hst,cond_false] at h
     have:=nI (F:=Op.equalIn D) (fun t' x' y' b' u' v' h' hu' hv'=>ACo d t' x' y' b' u' v' h' hu' hv' D (by omega)) h1 h2 h
     unfold Op.equalIn
     rw[BJ,G9 ht]
     simp only[Option.bind_some]
     rw[BJ,FT]
     simp only[Option.bind_some,hst,Bool.false_eq_true,if_false]
     rw[← Array.forIn_toList]
     exact this _ rfl fun _ _=>rfl
  · cases h
end Go.Vm
namespace Go.Vm
open Go
inductive KV where
 | av (v:AV)
 | lit (b:Bool)
 | cd (g:Nat) (w:Bool) (v:AV)
def lk {α:Type}:List (Nat × α)→Nat→Option α
 | [],_=>none
 | (k,a) :: l,i=>cond (Nat.beq k i) (some a) (lk l i)
def rmv {α:Type} (i:Nat):List (Nat × α)→List (Nat × α)
 | []=>[]
 | (k,a) :: l=>cond (Nat.beq k i) (rmv i l) ((k,a) :: rmv i l)
def AEX (d:Nat):KV→Bool
 | .cd g _ _=>Nat.beq g d
 | _=>false
def AB0 (d:Nat):List (Nat × KV)→List (Nat × KV)
 | []=>[]
 | (k,e) :: l=>cond (Nat.beq k d) (AB0 d l) ((k,cond (AEX d e) (.av .any) e) :: AB0 d l)
structure CS where
 K:List (Nat × KV)
 H:List (Nat × C0)
 n:Nat
def mZ (K:List (Nat × KV)):Nat→Nat→Bool→Nat→Bool→Bool
 | 0,a,u,g,w=>Nat.beq a g && (u == w)
 | k + 1,a,u,g,w=>(Nat.beq a g && (u == w)) || (match lk K a with
  | some (.cd g' w' _)=>mZ K k g' w' g w
  | _=>false)
def vw (K:List (Nat × KV)) (a:Option (Nat × Bool)) (i:Nat):AV:=
 match lk K i with
 | some (.av v)=>v
 | some (.lit b)=>bv b
 | some (.cd g w v)=>match a with
  | some q=>cond (mZ K 6 q.1 q.2 g w) v .any
  | none=>.any
 | none=>.any
def tlF (f:Nat→AV):Nat→Nat→List AV
 | _,0=>[]
 | i,k + 1=>f i :: tlF f (i + 1) k
def tl (N:Nat) (K:List (Nat × KV)) (a:Option (Nat × Bool)):List AV:=tlF (vw K a) 0 N
def hl (H:List (Nat × C0)):AW:=fun i=>lk H i
def AE3 (op:BinOp) (u v:Value):Option Value:=
 match op,u,v with
 | .eql,.string a,.string b=>some (.bool (a.data.toList == b.data.toList))
 | .neq,.string a,.string b=>some (.bool (!(a.data.toList == b.data.toList)))
 | .lss,.string a,.string b=>some (.bool (Op.bytesLess a.data.toList b.data.toList))
 | .leq,.string a,.string b=>some (.bool (Op.bytesLess a.data.toList b.data.toList || a.data.toList == b.data.toList))
 | .gtr,.string a,.string b=>some (.bool !(Op.bytesLess a.data.toList b.data.toList || a.data.toList == b.data.toList))
 | .geq,.string a,.string b=>some (.bool !(Op.bytesLess a.data.toList b.data.toList))
 | _,_,_=>none
def eqG (P:Program) (neg:Bool) (t:TypeId) (cs ds:List AV):Option Value:=
 cond (P.eqGuardType P.depth t) none (cond ((toVals cs).isSome && (toVals ds).isSome) (match eqA P 64 t (.agg cs) (.agg ds) with
  | some b=>some (.bool (cond neg (!b) b))
  | none=>none) none)
def eqO (P:Program) (op:BinOp) (t:TypeId) (cs ds:List AV):Option Value:=
 match op with
 | .eql=>eqG P false t cs ds
 | .neq=>eqG P true t cs ds
 | _=>none
def ADu (P:Program) (o:Oper) (t:List AV) (h:AW) (n:Nat):Res:=
 match o.op with
 | .binOp op xt x y _=>match A0 t x,A0 t y with
  | some (.s u),some (.s v)=>match AE3 op u v with
   | some w=>some (.s w,[])
   | none=>aop P o t h n
  | some (.agg cs),some (.agg ds)=>match eqO P op xt cs ds with
   | some w=>some (.s w,[])
   | none=>aop P o t h n
  | _,_=>aop P o t h n
 | _=>aop P o t h n
def AEp (K:List (Nat × KV)) (d:Nat) (e:KV):List (Nat × KV):=(d,e) :: AB0 d K
def FI (N:Nat) (st:CS) (d:Option Tmp) (e:KV):Option CS:=
 match d with
 | none=>some st
 | some d=>cond (Nat.blt d N) (some ⟨AEp st.K d e,st.H,st.n⟩) none
def aH (H:List (Nat × C0)):Ups→List (Nat × C0)
 | []=>H
 | (i,some o) :: us=>aH ((i,o) :: rmv i H) us
 | (i,none) :: us=>aH (rmv i H) us
def opB (N:Nat) (K:List (Nat × KV)) (a:Option (Nat × Bool)) (o:Operand):Option Bool:=(A0 (tl N K a) o).bind DD
def ABE (E:Env) (N:Nat) (o:LO) (st:CS):Option CS:=
 cond (JZ o.op) (match ADu E.P o.oper (tl N st.K none) (hl st.H) st.n with
  | some (v,us)=>FI N ⟨st.K,aH st.H us,st.n + kN o.op⟩ o.dst (.av v)
  | none=>none) none
def AD7 (E:Env) (N:Nat) (lit:Bool) (o:LO) (st:CS):Option CS:=
 match o.op with
 | .pick (.tmp c) a b=>match lk st.K c with
  | some (.av v)=>match DD v,opB N st.K (some (c,true)) a,opB N st.K (some (c,false)) b with
   | some x,some y,some z=>FI N st o.dst (.av (bv (cond x y z)))
   | _,_,_=>none
  | some (.lit x)=>match A0 (tl N st.K none) (cond x a b) with
   | some v=>FI N st o.dst (.av v)
   | none=>none
  | _=>none
 | .call { callee:=.value _,.. }=>none
 | .buildSlice ty len ps=>cond (lit && !(GY ty len ps.toList)) (match Rh E.P (tl N st.K none) ty len ps.toList with
  | some v=>FI N st o.dst (.av v)
  | none=>none) (ABE E N o st)
 | .box e x=>cond (E.fbox e x o.dst) (match Lv (tl N st.K none) x with
  | some v=>FI N st o.dst (.av v)
  | none=>none) (ABE E N o st)
 | _=>ABE E N o st
def AD4 (E:Env) (N:Nat) (g:Nat) (w:Bool) (o:LO) (st:CS):Option CS:=
 match o.op with
 | .pick (.tmp c) a b=>match lk st.K c with
  | some (.cd g' w' v)=>cond (Nat.beq g' g && (w' == w)) (match DD v,opB N st.K (some (c,true)) a,opB N st.K (some (c,false)) b with
   | some x,some y,some z=>FI N st o.dst (.cd g w (bv (cond x y z)))
   | _,_,_=>none) none
  | _=>none
 | .call { callee:=.value _,.. }=>none
 | .buildSlice ..=>none
 | _=>cond (JZ o.op && !Be o.op) (match ADu E.P o.oper (tl N st.K (some (g,w))) (hl st.H) st.n with
  | some (v,[])=>FI N st o.dst (.cd g w v)
  | _=>none) none
def lQ (o:LO) (g:Nat):Bool:=
 match o.dst with
 | some d=>!(Nat.beq d g)
 | none=>true
theorem tV {o:LO} {g:Nat} (h:lQ o g=true):∀ i,o.dst=some i→i≠g:=fun i hi e=>by
 subst e
 unfold lQ at h
 rw[hi] at h
 simp at h
def AE9 (E:Env) (N:Nat) (lit:Bool) (o:LO) (st:CS):Option CS:=
 match o.g with
 | none=>AD7 E N lit o st
 | some (g,w)=>match lk st.K g with
  | some (.lit b)=>cond (b == w) (AD7 E N lit o st) (FI N st o.dst (.av (.s undef)))
  | some (.av (.s (.bool _)))=>cond (lQ o g) (AD4 E N g w o st) none
  | some (.av (.s (.tuple _)))=>FI N st o.dst (.av (.s undef))
  | some (.cd _ _ (.s (.bool _)))=>cond (lQ o g) (AD4 E N g w o st) none
  | _=>none
def tS (E:Env) (N:Nat) (lit:Bool):List LO→CS→Option CS
 | [],st=>some st
 | o :: l,st=>match AE9 E N lit o st with
  | some st'=>tS E N lit l st'
  | none=>none
def ADm:AV:=.s undef
def KOk (ρ:Rn) (t:List AV) (i:Nat):KV→Prop
 | .av v=>∃ v',t[i]? = some v'∧VLe ρ v v'
 | .lit b=>t[i]? = some (bv b)
 | .cd g w v=>(∃ b,t[g]? = some (bv b)∧(b=w→∃ v',t[i]? = some v'∧VLe ρ v v')∧(b≠w→t[i]? = some ADm))∨(t[g]? = some ADm∧t[i]? = some ADm)
structure Rf (N:Nat) (st:CS) (s:St) (ρ:Rn):Prop where
 len:s.t.length=N
 kv:∀ i e,lk st.K i=some e→KOk ρ s.t i e
 hle:HLe ρ (hl st.H) st.n s.h s.n
theorem Df {a b:Nat} (h:Nat.beq a b=true):a=b:=Nat.eq_of_beq_eq_true h
theorem RQ {a b:Nat} (h:Nat.beq a b=false):a≠b:=by
 rintro rfl
 simp at h
theorem cF {α:Type} {i:Nat}:∀ {l:List (Nat × α)} {j:Nat},lk (rmv i l) j=if j=i then none else lk l j
 | [],j=>by simp[rmv,lk]
 | (k,a) :: l,j=>by
  simp only[rmv,lk]
  cases h:Nat.beq k i with
  | true=>
   have:=Df h
   subst this
   simp only[cond_true]
   rw[cF]
   split
   · rfl
   · rename_i hj
     have:Nat.beq k j=false:=by
      cases h2:Nat.beq k j with
      | false=>rfl
      | true=>exact absurd (Df h2).symm hj
     rw[this,cond_false]
  | false=>
   simp only[cond_false,lk]
   cases h2:Nat.beq k j with
   | true=>
    have e:=Df h2
    have:=RQ h
    simp only[cond_true]
    rw[if_neg (by omega)]
   | false=>simp only[cond_false]; exact cF
theorem oT {d:Nat}:∀ {l:List (Nat × KV)} {j:Nat} {e:KV},j≠d→lk (AB0 d l) j=some e→∃ e',lk l j=some e'∧e=cond (AEX d e') (.av .any) e'
 | [],j,e,_,h=>by simp[AB0,lk] at h
 | (k,a) :: l,j,e,hj,h=>by
  simp only[AB0,lk] at h ⊢
  cases hk:Nat.beq k d with
  | true=>
   rw[hk] at h
   have:=Df hk
   have:Nat.beq k j=false:=by
    cases h2:Nat.beq k j with
    | false=>rfl
    | true=>exact absurd ((Df h2).symm.trans this) hj
   rw[this]
   exact oT hj h
  | false=>
   rw[hk] at h
   simp only[cond_false,lk] at h
   cases h2:Nat.beq k j with
   | true=>
    rw[h2] at h
    cases h
    exact⟨a,rfl,rfl⟩
   | false=>
    rw[h2] at h
    exact oT hj h
theorem D1 {α:Type}:∀ {l:List (Nat × α)} {j:Nat} {e:α},lk l j=some e→(j,e)∈l
 | [],j,e,h=>by simp[lk] at h
 | (k,a) :: l,j,e,h=>by
  simp only[lk] at h
  cases h2:Nat.beq k j with
  | true=>
   rw[h2] at h
   cases h
   rw[Df h2]
   simp
  | false=>
   rw[h2] at h
   exact List.mem_cons_of_mem _ (D1 h)
theorem sS (f:Nat→AV):∀ i k,(tlF f i k).length=k
 | _,0=>rfl
 | i,k + 1=>by simp[tlF,sS f (i + 1) k]
theorem sR (f:Nat→AV):∀ i k j,j < k→(tlF f i k)[j]? = some (f (i + j))
 | i,0,j,h=>by omega
 | i,k + 1,0,h=>by simp[tlF]
 | i,k + 1,j + 1,h=>by
  simp only[tlF,List.getElem?_cons_succ]
  rw[sR f (i + 1) k j (by omega)]
  congr 2; omega
def J9 (ρ:Rn) (t:List AV) (K:List (Nat × KV)):Prop:=∀ i e,lk K i=some e→KOk ρ t i e
theorem vW {ρ:Rn} {t:List AV} {K:List (Nat × KV)} (hK:J9 ρ t K):∀ {k a:Nat} {u:Bool} {g:Nat} {w:Bool},mZ K k a u g w=true→t[a]? = some (bv u)→t[g]? = some (bv w)
 | 0,a,u,g,w,h,ha=>by
  simp only[mZ,Bool.and_eq_true,beq_iff_eq] at h
  rw[← Df h.1,← h.2]; exact ha
 | k + 1,a,u,g,w,h,ha=>by
  simp only[mZ,Bool.or_eq_true,Bool.and_eq_true,beq_iff_eq] at h
  rcases h with h | h
  · rw[← Df h.1,← h.2]; exact ha
  · split at h
    · rename_i g' w' v hl
      have:=hK _ _ hl
      refine vW hK h ?_
      rcases this with ⟨b,h1,h2,h3⟩ | ⟨h1,h2⟩
      · by_cases e:b=w'
        · rw[← e]; exact h1
        · rw[h3 e] at ha; cases ha
      · rw[h2] at ha; cases ha
    · cases h
theorem AFt {ρ:Rn} {t:List AV} {K:List (Nat × KV)} (hK:J9 ρ t K) {a:Option (Nat × Bool)} (ha:∀ q,a=some q→t[q.1]? = some (bv q.2)) {i:Nat} {v':AV} (hi:t[i]? = some v'):VLe ρ (vw K a i) v':=by
 unfold vw
 split
 · rename_i v hl
   obtain⟨v2,h1,h2⟩:=hK _ _ hl
   rw[hi] at h1
   cases h1
   exact h2
 · rename_i b hl
   have:=hK _ _ hl
   simp only[KOk] at this
   rw[hi] at this
   cases this
   exact VLe.s_refl _
 · rename_i g w v hl
   split
   · rename_i q
     cases hr:mZ K 6 q.1 q.2 g w with
     | false=>simp[VLe]
     | true=>
      have hg:=vW hK hr (ha q rfl)
      rcases hK _ _ hl with ⟨b,h1,h2,_⟩ | ⟨h1,_⟩
      · rw[hg] at h1
        cases h1
        obtain⟨v2,h3,h4⟩:=h2 rfl
        rw[hi] at h3
        cases h3
        exact h4
      · rw[hg] at h1; cases h1
   · simp[VLe]
 · simp[VLe]
theorem LN {N:Nat} {ρ:Rn} {t:List AV} {K:List (Nat × KV)} (hl:t.length=N) (hK:J9 ρ t K) {a:Option (Nat × Bool)} (ha:∀ q,a=some q→t[q.1]? = some (bv q.2)):AI (VLe ρ) (tl N K a) t:=by
 refine AI.of (by rw[tl,sS,hl]) fun i x y hx hy=>?_
 have hi:i < N:=by
  rcases Nat.lt_or_ge i N with h | h
  · exact h
  · rw[List.getElem?_eq_none (by omega)] at hy; cases hy
 rw[tl,sR _ _ _ _ hi,Nat.zero_add] at hx
 cases hx
 exact AFt hK ha hy
theorem AFC {P:Program} {neg:Bool} {t:TypeId} {cs ds:List AV} {w:Value} (h:eqG P neg t cs ds=some w):∃ us vs b,toVals cs=some us∧toVals ds=some vs∧P.eqGuardType P.depth t=false∧w = .bool (cond neg (!b) b)∧Bs P (Op.equal t (.agg us.toArray) (.agg vs.toArray))=some b:=by
 unfold eqG at h
 cases hg:P.eqGuardType P.depth t with
 | true=>rw[hg] at h; cases h
 | false=>
  rw[hg,cond_false] at h
  cases hu:toVals cs with
  | none=>rw[hu] at h; cases h
  | some us=>
   cases hv:toVals ds with
   | none=>rw[hu,hv] at h; cases h
   | some vs=>
    rw[hu,hv] at h
    simp only[Option.isSome_some,Bool.and_self,cond_true] at h
    cases he:eqA P 64 t (.agg cs) (.agg ds) with
    | none=>rw[he] at h; cases h
    | some b=>
     rw[he] at h
     cases h
     exact⟨us,vs,b,rfl,rfl,rfl,rfl,ACo 64 t _ _ b _ _ he (by simp only[Bc,hu]) (by simp only[Bc,hv]) Op.maxDepth (by decide)⟩
theorem AFD {P:Program} {op:BinOp} {o:Oper} {ρ:Operand→Value} {t yt:TypeId} {x y:Operand} {cs ds:List AV} {w:Value} (ho:o.op = .binOp op t x y yt) (h:eqO P op t cs ds=some w):∃ us vs,toVals cs=some us∧toVals ds=some vs∧((ρ x = .agg us.toArray)→(ρ y = .agg vs.toArray)→Ym op (ρ x) (ρ y)=none∧DK P ρ o=some (.s w)):=by
 have key:∀ neg,op=cond neg .neq .eql→eqG P neg t cs ds=some w→∃ us vs,toVals cs=some us∧toVals ds=some vs∧((ρ x = .agg us.toArray)→(ρ y = .agg vs.toArray)→Ym op (ρ x) (ρ y)=none∧DK P ρ o=some (.s w)):=by
  intro neg hop h
  obtain⟨us,vs,b,h1,h2,h3,rfl,h4⟩:=AFC h
  refine⟨us,vs,h1,h2,fun hx hy=>?_⟩
  have hg:Bs P (eqGuard op t x y (ρ x) (ρ y))=some ():=by
   rw[hx,hy]
   unfold eqGuard
   cases neg <;> (subst hop; simp only[cond_true,cond_false,Bool.not_true,Bool.false_eq_true,if_false]; rw[BJ,FT]; simp only[Option.bind_some]; rw[BJ,FT]; simp only[Option.bind_some,h3]; rfl)
  have hb:Bs P (Go.binOp op t (ρ x) (ρ y))=some (.bool (cond neg (!b) b)):=by
   rw[hx,hy]
   cases neg with
   | false=>subst hop; show Bs P (do pure (Value.bool (← Op.equal t (.agg us.toArray) (.agg vs.toArray))))=_; rw[BJ,h4]; rfl
   | true=>subst hop; show Bs P (do pure (Value.bool (!(← Op.equal t (.agg us.toArray) (.agg vs.toArray)))))=_; rw[BJ,h4]; rfl
  refine⟨by rw[hx,hy]; cases neg <;> (subst hop; rfl),?_⟩
  have he:Bs P (execOp ρ o)=some (.value (.bool (cond neg (!b) b))):=by
   unfold execOp
   rw[ho]
   show Bs P ((do eqGuard op t x y (ρ x) (ρ y); Go.binOp op t (ρ x) (ρ y)) >>= fun a=>pure (Next.value a))=_
   rw[BJ,BJ,hg]
   simp only[Option.bind_some,hb]
   rfl
  unfold DK
  rw[he]
  rfl
 unfold eqO at h
 split at h
 · exact key false rfl h
 · exact key true rfl h
 · cases h
theorem nT {P:Program} {o:Oper} {t:List AV} {h:AW} {n:Nat}:ADu P o t h n=aop P o t h n:=by
 unfold ADu
 split
 · rename_i op xt x y yt ho
   split
   · rename_i u v hu hv
     split
     · rename_i w hw
       have h1:BP t x=true:=by simp[BP,hu,Bc]
       have h2:BP t y=true:=by simp[BP,hv,Bc]
       have h3:A9 t x=u:=by simp[A9,hu,Bc]
       have h4:A9 t y=v:=by simp[A9,hv,Bc]
       unfold aop
       rw[ho]
       simp only[h1,h2,h3,h4,Bool.and_self,if_true]
       have:Ym op u v=some w:=by
        unfold AE3 at hw
        split at hw
        all_goals first
         | (cases hw; simp only[Ym,ByteArray.toList_eq]; done)
         | cases hw
       rw[this]
     · rfl
   · rename_i cs ds hu hv
     split
     · rename_i w hw
       obtain⟨us,vs,h1,h2,h3⟩:=AFD (ρ:=A9 t) ho hw
       have k1:BP t x=true:=by simp[BP,hu,Bc,h1]
       have k2:BP t y=true:=by simp[BP,hv,Bc,h2]
       have k3:A9 t x = .agg us.toArray:=by simp[A9,hu,Bc,h1]
       have k4:A9 t y = .agg vs.toArray:=by simp[A9,hv,Bc,h2]
       obtain⟨h4,h5⟩:=h3 k3 k4
       unfold aop
       rw[ho]
       simp only[k1,k2,Bool.and_self,if_true,h4,h5,Option.map_some]
     · rfl
   · rfl
 · rfl
theorem AEK {H:List (Nat × C0)}:∀ {us:Ups},hl (aH H us)=(hl H).upd us:=by
 intro us
 induction us generalizing H with
 | nil=>rfl
 | cons p us ih=>
  obtain⟨i,o⟩:=p
  cases o with
  | none=>
   simp only[aH,AW.upd]
   rw[ih]
   congr 1
   funext j
   simp only[hl,cF,AW.put]
  | some o=>
   simp only[aH,AW.upd]
   rw[ih]
   congr 1
   funext j
   simp only[hl,lk,cF,AW.put]
   cases h:Nat.beq i j with
   | true=>rw[cond_true,if_pos (Df h).symm]
   | false=>
    have:=RQ h
    rw[cond_false,if_neg (by omega),if_neg (by omega)]
theorem mF {ρ ρ1:Rn} (hx:Ext ρ ρ1) {t:List AV} {K:List (Nat × KV)} (hK:J9 ρ t K) {d:Nat} (hd:d < t.length) {v':AV} {e:KV} (he:KOk ρ1 (t.set d v') d e):J9 ρ1 (t.set d v') (AEp K d e):=by
 intro i e' hi
 simp only[AEp,lk] at hi
 cases h:Nat.beq d i with
 | true=>
  rw[h] at hi
  cases hi
  rw[← Df h]
  exact he
 | false=>
  rw[h] at hi
  simp only[cond_false] at hi
  have hne:i≠d:=fun e=>by
   rw[e] at h
   simp at h
  obtain⟨e2,hl,he2⟩:=oT hne hi
  have hk:=hK i e2 hl
  cases hcd:AEX d e2 with
  | true=>
   rw[hcd,cond_true] at he2
   subst he2
   cases e2 with
   | cd g w v=>
    have:∃ u,t[i]? = some u:=by
     rcases hk with ⟨b,h1,h2,h3⟩ | ⟨h1,h2⟩
     · by_cases e:b=w
       · obtain⟨u,h4,_⟩:=h2 e
         exact⟨u,h4⟩
       · exact⟨_,h3 e⟩
     · exact⟨_,h2⟩
    obtain⟨u,hu⟩:=this
    exact⟨u,by rw[List.getElem?_set_ne (by omega)]; exact hu,by simp[VLe]⟩
   | _=>cases hcd
  | false=>
  rw[hcd,cond_false] at he2
  subst he2
  cases e' with
  | av v=>
   obtain⟨u,h1,h2⟩:=hk
   exact⟨u,by rw[List.getElem?_set_ne (by omega)]; exact h1,h2.ext hx⟩
  | lit b=>
   show (t.set d v')[i]? = _
   rw[List.getElem?_set_ne (by omega)]; exact hk
  | cd g w v=>
   have hg:g≠d:=by simp only[AEX] at hcd; exact RQ hcd
   rcases hk with ⟨b,h1,h2,h3⟩ | ⟨h1,h2⟩
   · refine .inl ⟨b,by rw[List.getElem?_set_ne (by omega)]; exact h1,fun e=>?_,fun e=>?_⟩
     · obtain⟨u,h4,h5⟩:=h2 e
       exact⟨u,by rw[List.getElem?_set_ne (by omega)]; exact h4,h5.ext hx⟩
     · rw[List.getElem?_set_ne (by omega)]; exact h3 e
   · exact .inr ⟨by rw[List.getElem?_set_ne (by omega)]; exact h1,by rw[List.getElem?_set_ne (by omega)]; exact h2⟩
end Go.Vm
namespace Go.Vm
open Go
theorem Eo {N:Nat} {st st1:CS} {d:Option Tmp} {e:KV} {ρ ρ1:Rn} {t:List AV} {v':AV} {h':AW} {n':Nat} (hp:FI N st d e=some st1) (hx:Ext ρ ρ1) (hlen:t.length=N) (hK:J9 ρ t st.K)
 (hh:HLe ρ1 (hl st.H) st.n h' n') (he:∀ i,d=some i→KOk ρ1 (t.set i v') i e):Rf N st1 ⟨C3 t d v',h',n'⟩ ρ1:=by
 cases d with
 | none=>
  cases hp
  refine⟨hlen,fun i e hi=>?_,hh⟩
  have hk:=hK i e hi
  cases e with
  | av v=>obtain⟨u,h1,h2⟩:=hk; exact⟨u,h1,h2.ext hx⟩
  | lit b=>exact hk
  | cd g w v=>
   rcases hk with ⟨b,h1,h2,h3⟩ | hk
   · refine .inl ⟨b,h1,fun e=>?_,h3⟩
     obtain⟨u,h4,h5⟩:=h2 e
     exact⟨u,h4,h5.ext hx⟩
   · exact .inr hk
 | some d=>
  simp only[FI] at hp
  cases hd:Nat.blt d N with
  | false=>rw[hd] at hp; cases hp
  | true=>
   rw[hd] at hp
   cases hp
   have hd:d < t.length:=by rw[hlen]; simpa using hd
   refine⟨by simp only[C3,List.length_set]; exact hlen,?_,hh⟩
   exact mF hx hK hd (he d rfl)
theorem Hm {ρ:Rn} {t:List AV} {i:Nat} {v v':AV} (hi:i < t.length) (hv:VLe ρ v v'):KOk ρ (t.set i v') i (.av v):=⟨v',by rw[List.getElem?_set_self hi],hv⟩
theorem ABc {ρ:Rn} {P:Program} {t t':List AV} (ht:AI (VLe ρ) t t') {ty:TypeId} {len:Nat} {ps:List (Nat × Operand)} {v:AV} (hv:Rh P t ty len ps=some v):∃ v',Rh P t' ty len ps=some v'∧VLe ρ v v':=by
 unfold Rh at hv ⊢
 cases h0:LF P ty with
 | none=>rw[h0] at hv; simp at hv
 | some e=>cases h1:CQ P e with
  | none=>rw[h0] at hv; simp[h1] at hv
  | some sz=>cases h2:E1 P e with
   | none=>rw[h0] at hv; simp[h1,h2] at hv
   | some z=>cases h3:HX t ps with
    | none=>rw[h0] at hv; simp[h1,h2,h3] at hv
    | some vs=>
     obtain⟨vs',h4,h5⟩:=TA ht h3
     rw[h0] at hv
     simp only[h1,h2,h3] at hv
     simp only[h4,h1,h2]
     split at hv
     · rename_i hc
       rw[if_pos hc]
       cases h6:Nv sz (List.replicate len z) vs with
       | none=>rw[h6] at hv; cases hv
       | some cs=>
        obtain⟨cs',h7,h8⟩:=Wv h6 h5 (AI.replicate (J0 h2) _)
        rw[h6] at hv
        rw[h7]
        simp only at hv ⊢
        split at hv
        · rename_i hn
          cases hv
          have key:cs'.all (·.all Dx)=true:=by
           have no1:∀ (a b:AV),Dx a=true→VLe ρ a b→Dx b=true:=fun a b ha hb=>by
            cases a <;> simp only[Dx] at ha <;> try cases ha
            · rw[hb.s_inv]; rfl
            · obtain⟨_,rfl,_⟩:=VLe.fptr_iff.1 hb; rfl
            · rcases VLe.fsl_iff.1 hb with ⟨_,rfl,_⟩ | ⟨_,rfl | rfl⟩ <;> rfl
            · simp only[VLe] at hb; rw[hb]; rfl
           have no2:∀ (a b:List AV),a.all Dx=true→AI (VLe ρ) a b→b.all Dx=true:=by
            intro a
            induction a with
            | nil=>intro b _ hb; cases b with | nil=>rfl | cons _ _=>exact hb.elim
            | cons x a ih=>
             intro b ha hb
             cases b with
             | nil=>exact hb.elim
             | cons y b=>
              simp only[List.all_cons,Bool.and_eq_true] at ha ⊢
              exact⟨no1 _ _ ha.1 hb.1,ih b ha.2 hb.2⟩
           clear h6 h7
           induction cs generalizing cs' with
           | nil=>cases cs' with | nil=>rfl | cons _ _=>exact h8.elim
           | cons x a ih=>
            cases cs' with
            | nil=>exact h8.elim
            | cons y b=>
             simp only[List.all_cons,Bool.and_eq_true] at hn ⊢
             exact⟨no2 _ _ hn.1 h8.1,ih b h8.2 hn.2⟩
          rw[if_pos key]
          refine⟨_,rfl,VLe.fsl_iff.2 (.inl ⟨_,rfl,?_⟩)⟩
          have no0:∀ (a b:AV),Dx a=true→VLe ρ a b→VLe Rn.nil a b:=fun a b ha hb=>by
           cases a <;> simp only[Dx] at ha <;> try cases ha
           · rw[hb.s_inv]; exact VLe.s_refl _
           · simp only[VLe] at hb ⊢; exact hb
           · simp only[VLe] at hb ⊢; exact hb
           · simp only[VLe] at hb ⊢; exact hb
          exact AI.mono2 (fun r r' hr h=>AI.mono2 (fun x y hx h=>no0 x y (List.all_eq_true.1 (List.all_eq_true.1 hn r hr) x hx) h) h) h8
        · cases hv
     · cases hv
section
variable {E:Env} {N:Nat} {lit:Bool} {o:LO} {st st1:CS} {s:St} {ρ:Rn}
theorem X7 (h1:∀ f args ats,o.op ≠ .call ⟨.value f,args,ats⟩) (h2:∀ ty len ps,o.op = .buildSlice ty len ps→(lit && !(GY ty len ps.toList))=false) (h3:∀ e x,o.op = .box e x→E.fbox e x o.dst=false):stepG E lit o s=match aop E.P o.oper s.t s.h s.n with
 | some (v,us)=>some ⟨C3 s.t o.dst v,s.h.upd us,s.n + kN o.op⟩
 | none=>none:=by
 obtain⟨d,op,ty,g⟩:=o
 have hk:∀ op,(if Be op then s.n + 1 else s.n)=s.n + kN op:=fun op=>by
  unfold kN; split <;> rfl
 unfold stepG
 cases op with
 | call c=>
  obtain⟨callee,args,ats⟩:=c
  cases callee with
  | value f=>exact absurd rfl (h1 f args ats)
  | _=>simp only[hk]; rfl
 | buildSlice ty len ps=>
  have:=h2 ty len ps rfl
  simp only[this,Bool.false_eq_true,if_false]
  rfl
 | box e x=>
  have:=h3 e x rfl
  simp only at this ⊢
  simp only[this,Bool.false_eq_true,if_false]
  rfl
 | _=>simp only[hk]; rfl
theorem O2 (h1:∀ f args ats,o.op ≠ .call ⟨.value f,args,ats⟩) (h2:∀ ty len ps,o.op = .buildSlice ty len ps→(lit && !(GY ty len ps.toList))=false) (h3:∀ e x,o.op = .box e x→E.fbox e x o.dst=false) (hR:Rf N st s ρ) (hs:ABE E N o st=some st1) :
 ∃ s1 ρ1,stepG E lit o s=some s1∧Rf N st1 s1 ρ1∧Fr ρ s.h s.n ρ1 s1.h s1.n:=by
 unfold ABE at hs
 cases hn:JZ o.op with
 | false=>rw[hn] at hs; cases hs
 | true=>
  rw[hn,cond_true,nT] at hs
  split at hs
  · rename_i v us ha
    have ht:=LN hR.len hR.kv (a:=none) (fun q e=>by cases e)
    obtain⟨v',us',ρ1,e1,e2,e3,e4⟩:=AAb (o:=o.oper) hR.hle ht hn v us ha
    refine⟨⟨C3 s.t o.dst v',s.h.upd us',s.n + kN o.op⟩,ρ1,by rw[X7 h1 h2 h3,e1],?_,e4⟩
    refine Eo hs e4.ext hR.len hR.kv ?_ (fun i hi=>?_)
    · show HLe ρ1 (hl (aH st.H us)) _ _ _
      rw[AEK]; exact e3
    · have:i < s.t.length:=by
       rw[hi] at hs
       simp only[FI] at hs
       cases hb:Nat.blt i N with
       | false=>rw[hb] at hs; cases hs
       | true=>rw[hR.len]; simpa using hb
      exact Hm this e2
  · cases hs
theorem oY (hR:Rf N st s ρ) {a:Option (Nat × Bool)} (ha:∀ q,a=some q→s.t[q.1]? = some (bv q.2)) {x:Operand} {b:Bool} (h:opB N st.K a x=some b):A0 s.t x=some (bv b):=by
 have ht:=LN hR.len hR.kv ha
 unfold opB at h
 cases h0:A0 (tl N st.K a) x with
 | none=>rw[h0] at h; cases h
 | some v=>
  rw[h0] at h
  obtain⟨v',h1,h2⟩:=BZ ht h0
  rw[h1]
  cases v with
  | s u=>
   rw[h2.s_inv]
   cases u with
   | bool c=>simp[DD] at h; rw[h]
   | _=>simp[DD] at h
  | _=>simp[DD] at h
theorem bC {v:AV} {b:Bool} (h:DD v=some b):v=bv b:=by
 cases v with
 | s u=>cases u with
  | bool c=>simp[DD] at h; rw[h]
  | _=>simp[DD] at h
 | _=>simp[DD] at h
theorem VM {c a b:Operand} (ho:o.op = .pick c a b) {x:Bool} (hc:A0 s.t c=some (bv x)) {v:AV} (hv:A0 s.t (cond x a b)=some v):stepG E lit o s=some ⟨C3 s.t o.dst v,s.h,s.n⟩:=by
 rw[X7 (by intro f args ats; rw[ho]; nofun) (by intro ty len ps; rw[ho]; nofun) (by intro e x; rw[ho]; nofun)]
 have:aop E.P o.oper s.t s.h s.n=some (v,[]):=by
  obtain⟨d,op,ty,g⟩:=o
  simp only at ho
  subst ho
  unfold aop
  simp only[LO.oper,hc,Option.bind_some,DD]
  cases x
  · simp only[cond_false] at hv; simp[hv]
  · simp only[cond_true] at hv; simp[hv]
 rw[this]
 simp only[AW.upd,ho,kN,Be]
 rfl
theorem FA {d:Option Tmp} {e:KV} (hp:FI N st d e=some st1) {i:Nat} (hi:d=some i):i < N:=by
 rw[hi] at hp
 simp only[FI] at hp
 cases hb:Nat.blt i N with
 | false=>rw[hb] at hp; cases hp
 | true=>simpa using hb
theorem bL (hR:Rf N st s ρ) (hs:AD7 E N lit o st=some st1) :
 ∃ s1 ρ1,stepG E lit o s=some s1∧Rf N st1 s1 ρ1∧Fr ρ s.h s.n ρ1 s1.h s1.n:=by
 unfold AD7 at hs
 split at hs
 · rename_i c a b ho
   split at hs
   · rename_i v hl
     split at hs
     · rename_i x y z hx hy hz
       obtain⟨v',h1,h2⟩:=hR.kv _ _ hl
       rw[bC hx] at h2
       have h2:=h2.s_inv
       subst h2
       have hv:A0 s.t (cond x a b)=some (bv (cond x y z)):=by
        cases x
        · exact oY hR (fun q e=>by cases e; exact h1) hz
        · exact oY hR (fun q e=>by cases e; exact h1) hy
       refine⟨_,ρ,VM ho (show A0 s.t (.tmp c)=_ from h1) hv,?_,Fr.refl _ _ _⟩
       exact Eo hs (fun _ _ e=>e) hR.len hR.kv hR.hle (fun i hi=>Hm (by rw[hR.len]; exact FA hs hi) (VLe.s_refl _))
     · cases hs
   · rename_i x hl
     have h1:=hR.kv _ _ hl
     split at hs
     · rename_i v hv
       obtain⟨v',h3,h4⟩:=BZ (LN hR.len hR.kv (a:=none) (fun q e=>by cases e)) hv
       refine⟨_,ρ,VM ho (show A0 s.t (.tmp c)=_ from h1) h3,?_,Fr.refl _ _ _⟩
       exact Eo hs (fun _ _ e=>e) hR.len hR.kv hR.hle (fun i hi=>Hm (by rw[hR.len]; exact FA hs hi) h4)
     · cases hs
   · cases hs
 · cases hs
 · rename_i ty len ps ho
   cases hq:(lit && !(GY ty len ps.toList)) with
   | false=>
    rw[hq] at hs
    exact O2 (by intro f args ats; rw[ho]; nofun) (by intro ty' len' ps' q; rw[ho] at q; cases q; exact hq) (by intro e x; rw[ho]; nofun) hR hs
   | true=>
    rw[hq] at hs
    simp only[cond_true] at hs
    split at hs
    · rename_i v hv
      obtain⟨v',h3,h4⟩:=ABc (LN hR.len hR.kv (a:=none) (fun q e=>by cases e)) hv
      refine⟨⟨C3 s.t o.dst v',s.h,s.n⟩,ρ,?_,?_,Fr.refl _ _ _⟩
      · unfold stepG
        rw[ho]
        simp only[hq,if_true,h3]
      · exact Eo hs (fun _ _ e=>e) hR.len hR.kv hR.hle (fun i hi=>Hm (by rw[hR.len]; exact FA hs hi) h4)
    · cases hs
 · rename_i e x ho
   cases hb:E.fbox e x o.dst with
   | false=>
    rw[hb] at hs
    exact O2 (by intro f args ats; rw[ho]; nofun) (by intro ty len ps; rw[ho]; nofun) (by intro e' x' q; rw[ho] at q; cases q; exact hb) hR hs
   | true=>
    rw[hb] at hs
    simp only[cond_true] at hs
    split at hs
    · rename_i v hv
      have hv':Lv s.t x=some v:=by
       unfold Lv at hv ⊢
       split at hv
       case h_2=>cases hv
       rename_i y hy
       obtain⟨u,h1,h2⟩:=Option.bind_eq_some_iff.1 hy
       obtain⟨u',h3,h4⟩:=BZ (LN hR.len hR.kv (a:=none) (fun q e=>by cases e)) h1
       obtain⟨cs,h5,h6⟩:=KD h2 h4
       rw[h3,Option.bind_some,h5]
       have:cs=[.s y]:=by
        match cs,h6 with
        | [c],h6=>rw[h6.1.s_inv]
        | [],h6=>exact h6.elim
        | _ :: _ :: _,h6=>exact h6.2.elim
       rw[this]
       exact hv
      refine⟨⟨C3 s.t o.dst v,s.h,s.n⟩,ρ,?_,?_,Fr.refl _ _ _⟩
      · unfold stepG
        rw[ho]
        simp only[hb,if_true,hv']
      · refine Eo hs (fun _ _ e=>e) hR.len hR.kv hR.hle (fun i hi=>Hm (by rw[hR.len]; exact FA hs hi) ?_)
        unfold Lv at hv
        split at hv
        · cases hv; exact VLe.fptr_iff.2 ⟨_,rfl,⟨VLe.s_refl _,trivial⟩⟩
        · cases hv
    · cases hs
 · rename_i h0 h1 h2 h3
   exact O2 (fun f args ats e=>h1 f args ats e) (fun ty len ps e=>(h2 ty len ps e).elim) (fun e x q=>(h3 e x q).elim) hR hs
theorem AA0 (hR:Rf N st s ρ) {g:Nat} {w b:Bool} (hg:s.t[g]? = some (bv b)) (hb:b≠w) {v:AV} {d:Option Tmp} (hp:FI N st d (.cd g w v)=some st1) (hd:∀ i,d=some i→i≠g):Rf N st1 ⟨C3 s.t d (.s undef),s.h,s.n⟩ ρ:=
 Eo hp (fun _ _ e=>e) hR.len hR.kv hR.hle (fun i hi=>.inl ⟨b,by rw[List.getElem?_set_ne (hd i hi)]; exact hg,fun e=>absurd e hb,fun _=>by rw[List.getElem?_set_self (by rw[hR.len]; exact FA hp hi)]; rfl⟩)
theorem AA1 (hR:Rf N st s ρ) {ρ1:Rn} (hx:Ext ρ ρ1) {h':AW} {n':Nat} (hh:HLe ρ1 (hl st.H) st.n h' n') {g:Nat} {w:Bool} (hg:s.t[g]? = some (bv w)) {v v':AV} {d:Option Tmp} (hp:FI N st d (.cd g w v)=some st1) (hd:∀ i,d=some i→i≠g) (hv:VLe ρ1 v v'):Rf N st1 ⟨C3 s.t d v',h',n'⟩ ρ1:=
 Eo hp hx hR.len hR.kv hh (fun i hi=>.inl ⟨w,by rw[List.getElem?_set_ne (hd i hi)]; exact hg,fun _=>⟨v',by rw[List.getElem?_set_self (by rw[hR.len]; exact FA hp hi)],hv⟩,fun e=>absurd rfl e⟩)
theorem ADn (hR:Rf N st s ρ) {g:Nat} {w:Bool} (hg:s.t[g]? = some ADm) {v:AV} {d:Option Tmp} (hp:FI N st d (.cd g w v)=some st1) (hd:∀ i,d=some i→i≠g):Rf N st1 ⟨C3 s.t d (.s undef),s.h,s.n⟩ ρ:=
 Eo hp (fun _ _ e=>e) hR.len hR.kv hR.hle (fun i hi=>.inr ⟨by rw[List.getElem?_set_ne (hd i hi)]; exact hg,by rw[List.getElem?_set_self (by rw[hR.len]; exact FA hp hi)]; rfl⟩)
theorem bK (hR:Rf N st s ρ) {g:Nat} {w:Bool} (hd:∀ i,o.dst=some i→i≠g) (hs:AD4 E N g w o st=some st1) :
 (∀ b,s.t[g]? = some (bv b)→∃ s1 ρ1,(if b=w then stepG E lit o s else some { s with t:=C3 s.t o.dst (.s undef) })=some s1∧Rf N st1 s1 ρ1∧Fr ρ s.h s.n ρ1 s1.h s1.n) ∧
 (s.t[g]? = some ADm→Rf N st1 { s with t:=C3 s.t o.dst (.s undef) } ρ):=by
 unfold AD4 at hs
 split at hs
 · rename_i c a b ho
   split at hs
   · rename_i g' w' v hlk
     cases hc:(Nat.beq g' g && (w' == w)) with
     | false=>rw[hc] at hs; cases hs
     | true=>
      rw[hc,cond_true] at hs
      rw[Bool.and_eq_true,beq_iff_eq] at hc
      obtain⟨hc1,rfl⟩:=hc
      have hc1:=Df hc1
      subst hc1
      split at hs
      · rename_i x y z hx hy hz
        refine⟨fun b' hg=>?_,fun hg=>ADn hR hg hs hd⟩
        by_cases hb:b' = w'
        · subst hb
          rw[if_pos rfl]
          have hcv:s.t[c]? = some (bv x):=by
           rcases hR.kv _ _ hlk with ⟨b2,h1,h2,_⟩ | ⟨h1,_⟩
           · rw[hg] at h1
             cases h1
             obtain⟨u,h3,h4⟩:=h2 rfl
             rw[bC hx] at h4
             rw[h3,h4.s_inv]
           · rw[hg] at h1; cases h1
          have hv:A0 s.t (cond x a b)=some (bv (cond x y z)):=by
           cases x
           · exact oY hR (fun q e=>by cases e; exact hcv) hz
           · exact oY hR (fun q e=>by cases e; exact hcv) hy
          exact⟨_,ρ,VM ho (show A0 s.t (.tmp c)=_ from hcv) hv,AA1 hR (fun _ _ e=>e) hR.hle hg hs hd (VLe.s_refl _),Fr.refl _ _ _⟩
        · rw[if_neg hb]
          exact⟨_,ρ,rfl,AA0 hR hg hb hs hd,Fr.refl _ _ _⟩
      · cases hs
   · cases hs
 · cases hs
 · cases hs
 · rename_i h0 h1 h2
   cases hn:(JZ o.op && !Be o.op) with
   | false=>rw[hn] at hs; cases hs
   | true=>
    rw[hn,cond_true,nT] at hs
    rw[Bool.and_eq_true,Bool.not_eq_true'] at hn
    split at hs
    · rename_i v ha
      refine⟨fun b' hg=>?_,fun hg=>ADn hR hg hs hd⟩
      by_cases hb:b' = w
      · subst hb
        rw[if_pos rfl]
        have ht:=LN hR.len hR.kv (a:=some (g,b')) (fun q e=>by cases e; exact hg)
        obtain⟨v',us',ρ1,e1,e2,e3,e4⟩:=AAb (o:=o.oper) hR.hle ht hn.1 v [] ha
        have hk:kN o.op=0:=by simp[kN,hn.2]
        have hk2:kN o.oper.op=0:=hk
        rw[hk2] at e3 e4
        refine⟨⟨C3 s.t o.dst v',s.h.upd us',s.n + kN o.op⟩,ρ1,?_,?_,?_⟩
        · rw[X7 (fun f args ats e=>h1 f args ats e) (fun ty len ps e=>(h2 ty len ps e).elim) (fun e x q=>by have h5:=hn.2; rw[q] at h5; simp[Be] at h5),e1]
        · rw[hk]; exact AA1 hR e4.ext e3 hg hs hd e2
        · rw[hk]; exact e4
      · rw[if_neg hb]
        exact⟨_,ρ,rfl,AA0 hR hg hb hs hd,Fr.refl _ _ _⟩
    · cases hs
theorem yO (hR:Rf N st s ρ) (hs:AE9 E N lit o st=some st1) :
 ∃ s1 ρ1,Og E lit o s=some s1∧Rf N st1 s1 ρ1∧Fr ρ s.h s.n ρ1 s1.h s1.n:=by
 unfold AE9 at hs
 unfold Og
 split at hs
 · rename_i hg
   rw[hg]
   exact bL hR hs
 · rename_i g w hg
   rw[hg]
   simp only
   split at hs
   · rename_i b hlk
     have h1:s.t[g]? = some (bv b):=hR.kv _ _ hlk
     rw[h1]
     simp only
     cases hb:b == w with
     | true=>
      rw[hb,cond_true] at hs
      rw[if_pos (by simpa using hb)]
      exact bL hR hs
     | false=>
      rw[hb,cond_false] at hs
      rw[if_neg (by simpa using hb)]
      exact⟨_,ρ,rfl,Eo hs (fun _ _ e=>e) hR.len hR.kv hR.hle (fun i hi=>Hm (by rw[hR.len]; exact FA hs hi) (VLe.s_refl _)),Fr.refl _ _ _⟩
   · rename_i b hlk
     obtain⟨u,h1,h2⟩:=hR.kv _ _ hlk
     have h2:=h2.s_inv
     subst h2
     rw[h1]
     simp only
     cases hd:lQ o g with
     | false=>rw[hd] at hs; cases hs
     | true=>
      rw[hd,cond_true] at hs
      exact (bK hR (tV hd) hs).1 b h1
   · rename_i b hlk
     obtain⟨u,h1,h2⟩:=hR.kv _ _ hlk
     have h2:=h2.s_inv
     subst h2
     rw[h1]
     exact⟨_,ρ,rfl,Eo hs (fun _ _ e=>e) hR.len hR.kv hR.hle (fun i hi=>Hm (by rw[hR.len]; exact FA hs hi) (VLe.s_refl _)),Fr.refl _ _ _⟩
   · rename_i g' w' b hlk
     cases hd:lQ o g with
     | false=>rw[hd] at hs; cases hs
     | true=>
      rw[hd,cond_true] at hs
      have hcc:=bK (lit:=lit) hR (tV hd) hs
      rcases hR.kv _ _ hlk with ⟨b2,h1,h2,h3⟩ | ⟨_,h1⟩
      · by_cases hb:b2=w'
        · obtain⟨u,h4,h5⟩:=h2 hb
          have h5:=h5.s_inv
          subst h5
          rw[h4]
          exact hcc.1 _ h4
        · have h4:=h3 hb
          rw[h4]
          exact⟨_,ρ,rfl,hcc.2 h4,Fr.refl _ _ _⟩
      · rw[h1]
        exact⟨_,ρ,rfl,hcc.2 h1,Fr.refl _ _ _⟩
   · cases hs
theorem UY {Q:St→Prop}:∀ {l l2:List LO} {st st1:CS} {s:St} {ρ:Rn},Rf N st s ρ→tS E N lit l st=some st1 →
 (∀ s1 ρ1,Rf N st1 s1 ρ1→Fr ρ s.h s.n ρ1 s1.h s1.n→wpR E lit l2 s1 Q)→wpR E lit (l ++ l2) s Q
 | [],l2,st,st1,s,ρ,hR,hs,hk=>by
  cases hs
  exact hk s ρ hR (Fr.refl _ _ _)
 | o :: l,l2,st,st1,s,ρ,hR,hs,hk=>by
  simp only[tS] at hs
  split at hs
  · rename_i st2 h1
    obtain⟨s2,ρ2,e1,e2,e3⟩:=yO hR h1
    exact⟨s2,e1,UY e2 hs fun s3 ρ3 h3 h4=>hk s3 ρ3 h3 (e3.trans h4)⟩
  · cases hs
end
end Go.Vm
namespace Go.Vm
open Go
inductive Step (σ τ:Type) where
 | next (s:σ)
 | done (t:τ)
def NI {σ τ:Type} (f:σ→Option (Step σ τ)):Nat→σ→Option τ
 | 0,_=>none
 | k + 1,x=>match f x with
  | none=>none
  | some (.next y)=>NI f k y
  | some (.done t)=>some t
open Classical in
noncomputable def CD {σ τ:Type} (f:σ→Option (Step σ τ)) (x:σ):Option τ:=
 if h:∃ t k,NI f k x=some t then some (Classical.choose h) else none
theorem Ug {σ τ:Type} {f:σ→Option (Step σ τ)}:∀ {k x t},NI f k x=some t→∀ {m},k≤m→NI f m x=some t
 | 0,x,t,h,_,_=>by cases h
 | k + 1,x,t,h,m,hm=>by
  obtain⟨m,rfl⟩:∃ j,m=j + 1:=⟨m - 1,by omega⟩
  simp only[NI] at h ⊢
  cases e:f x with
  | none=>rw[e] at h; cases h
  | some y=>
   rw[e] at h
   cases y with
   | next y=>exact Ug (k:=k) h (by omega)
   | done t=>exact h
theorem JW {σ τ:Type} {f:σ→Option (Step σ τ)} {x:σ} {t:τ}:CD f x=some t↔∃ k,NI f k x=some t:=by
 unfold CD
 constructor
 · intro h
   split at h
   · rename_i he
     cases h
     exact Classical.choose_spec he
   · cases h
 · rintro⟨k,hk⟩
   have he:∃ t k,NI f k x=some t:=⟨t,k,hk⟩
   rw[dif_pos he]
   obtain⟨k2,h2⟩:=Classical.choose_spec he
   have h3:=Ug hk (Nat.le_max_left k k2)
   have h4:=Ug h2 (Nat.le_max_right k k2)
   rw[h3] at h4
   rw[Option.some.inj h4]
theorem uK {σ τ:Type} (f:σ→Option (Step σ τ)) (x:σ):CD f x=(f x).bind fun | .next y=>CD f y | .done t=>some t:=by
 cases e:f x with
 | none=>
  cases h:CD f x with
  | none=>rfl
  | some t=>
   obtain⟨k,hk⟩:=JW.1 h
   cases k with
   | zero=>cases hk
   | succ k=>simp only[NI,e] at hk; cases hk
 | some y=>
  cases y with
  | done t=>exact JW.2 ⟨1,by simp only[NI,e]⟩
  | next y=>
   simp only[Option.bind_some]
   cases h:CD f y with
   | some t=>
    obtain⟨k,hk⟩:=JW.1 h
    exact JW.2 ⟨k + 1,by simp only[NI,e]; exact hk⟩
   | none=>
    cases h2:CD f x with
    | none=>rfl
    | some t=>
     obtain⟨k,hk⟩:=JW.1 h2
     cases k with
     | zero=>cases hk
     | succ k=>
      simp only[NI,e] at hk
      rw[JW.2 ⟨k,hk⟩] at h
      cases h
structure Fx where
 ρ:Rn
 h:AW
 n:Nat
def Fx.nil:Fx:=⟨Rn.nil,AW.nil,0⟩
def At (N:Nat) (F:Fx) (st:CS) (s:St):Prop:=∃ ρ,Rf N st s ρ∧Fr F.ρ F.h F.n ρ s.h s.n
def JR {α:Type} (E:Env) (N:Nat) (F:Fx) (lit:Bool) (m:Option α) (l:List LO) (st:CS) (Q:α→AX→St→Prop):Prop:=
 ∀ s,At N F st s→∀ r,m=some r→wpR E lit l s (Q r .normal)
def JC {α:Type} (E:Env) (N:Nat) (F:Fx) (m:Option α) (L:LC) (st:CS) (Q:α→AX→St→Prop):Prop:=
 ∀ s,At N F st s→∀ r,m=some r→wp E L s (Q r)
def JX {α:Type} (N:Nat) (F:Fx) (m:Option α) (x:AX) (st:CS) (Q:α→AX→St→Prop):Prop:=
 ∀ s,At N F st s→∀ r,m=some r→Q r x s
def Wk (N:Nat) (F:Fx) (st st':CS):Prop:=∀ s,At N F st s→At N F st' s
section
variable {α β σ τ:Type} {E:Env} {N:Nat} {F:Fx} {lit:Bool} {st st1:CS} {m:Option α} {Q:α→AX→St→Prop} {a b L:LC} {x:AX}
def AA9 (E:Env) (b:LC) (Q:α→AX→St→Prop):α→AX→St→Prop:=fun r x s=>match x with
 | .normal=>wp E b s (Q r)
 | x=>Q r x s
def nQ (id:Nat) (Q:α→AX→St→Prop):α→AX→St→Prop:=fun r x s=>match x with
 | .exit i=>if i=id then Q r .normal s else Q r (.exit i) s
 | x=>Q r x s
def ACP (Q:α→AX→St→Prop):α→AX→St→Prop:=fun r x s=>match x with
 | .goto _=>False
 | x=>Q r x s
def QMx (N:Nat) (F:Fx) (stm:β→CS) (axf:β→AX):β→AX→St→Prop:=fun y x s=>x=axf y∧At N F (stm y) s
def QLp (N:Nat) (F:Fx) (stf:σ→CS) (stm:τ→CS) (axf:τ→AX):Step σ τ→AX→St→Prop:=fun y x s=>match y with
 | .next x'=>x = .normal∧At N F (stf x') s
 | .done t=>x=axf t∧x ≠ .normal∧At N F (stm t) s
theorem Aj (h:JC E N F m a st (AA9 E b Q)):JC E N F m (.seq a b) st Q:=fun s hs r hr=>h s hs r hr
theorem A4 {id:Nat} (h:JC E N F m a st (nQ id Q)):JC E N F m (.block id a) st Q:=fun s hs r hr=>h s hs r hr
theorem AC6 (h:JC E N F m a st (ACP Q)):JC E N F m (.scope a) st Q:=fun s hs r hr=>h s hs r hr
theorem CY {ops:List LO} (h:JR E N F lit m (ops.drop 0) st Q):JC E N F m (.reg lit ops) st Q:=fun s hs r hr=>h s hs r hr
theorem Ah (h:JX N F m .normal st Q):JC E N F m .skip st Q:=fun s hs r hr=>h s hs r hr
theorem AC4 (h:JX N F m .normal st Q):JC E N F m .label st Q:=fun s hs r hr=>h s hs r hr
theorem Ae (h:JX N F m .ret st Q):JC E N F m .ret st Q:=fun s hs r hr=>h s hs r hr
theorem Cp {i:Nat} (h:JX N F m (.exit i) st Q):JC E N F m (.exit i) st Q:=fun s hs r hr=>h s hs r hr
theorem AFN (h:JX N F m .normal st Q):JR E N F lit m [] st Q:=fun s hs r hr=>h s hs r hr
theorem Ab (h:JC E N F m b st Q):JX N F m .normal st (AA9 E b Q):=fun s hs r hr=>h s hs r hr
theorem Ar (h:JX N F m .ret st Q):JX N F m .ret st (AA9 E b Q):=fun s hs r hr=>h s hs r hr
theorem Cq {i:Nat} (h:JX N F m (.exit i) st Q):JX N F m (.exit i) st (AA9 E b Q):=fun s hs r hr=>h s hs r hr
theorem BX {id:Nat} (h:JX N F m .normal st Q):JX N F m .normal st (nQ id Q):=fun s hs r hr=>h s hs r hr
theorem BG {id:Nat} (h:JX N F m .ret st Q):JX N F m .ret st (nQ id Q):=fun s hs r hr=>h s hs r hr
theorem C6 {id:Nat} (h:JX N F m .normal st Q):JX N F m (.exit id) st (nQ id Q):=fun s hs r hr=>by
 show nQ id Q r (.exit id) s
 simp only[nQ,if_true]
 exact h s hs r hr
theorem AAl {id i:Nat} (hi:Nat.beq i id=false) (h:JX N F m (.exit i) st Q):JX N F m (.exit i) st (nQ id Q):=fun s hs r hr=>by
 show nQ id Q r (.exit i) s
 simp only[nQ,if_neg (RQ hi)]
 exact h s hs r hr
theorem mE (h:JX N F m .ret st Q):JX N F m .ret st (ACP Q):=fun s hs r hr=>h s hs r hr
theorem AU {stm:β→CS} {axf:β→AX} {y:β} (hx:x=axf y) (hw:Wk N F st (stm y)):JX N F (some y) x st (QMx N F stm axf):=fun s hs r hr=>by
 cases hr
 exact⟨hx,hw s hs⟩
theorem C7 {stf:σ→CS} {stm:τ→CS} {axf:τ→AX} {y:σ} (hw:Wk N F st (stf y)):JX N F (some (.next y)) .normal st (QLp N F stf stm axf):=fun s hs r hr=>by
 cases hr
 exact⟨rfl,hw s hs⟩
theorem Bm {stf:σ→CS} {stm:τ→CS} {axf:τ→AX} {t:τ} (hx:x=axf t) (hn:x ≠ .normal) (hw:Wk N F st (stm t)):JX N F (some (Step.done t)) x st (QLp N F stf stm axf):=fun s hs r hr=>by
 cases hr
 exact⟨hx,hn,hw s hs⟩
theorem AFk (hw:Wk N F st st1) (h:JC E N F m a st1 Q):JC E N F m a st Q:=fun s hs r hr=>h s (hw s hs) r hr
theorem BA {m1:Option β} {f:β→Option α} (stm:β→CS) (axf:β→AX) (h1:JC E N F m1 a st (QMx N F stm axf)) (h2:∀ y,JX N F (f y) (axf y) (stm y) Q):JC E N F (m1.bind f) a st Q:=fun s hs r hr=>by
 cases e:m1 with
 | none=>rw[e] at hr; cases hr
 | some y=>
  rw[e] at hr
  obtain⟨x,s',⟨hx,h3⟩,h4⟩:=LB a s _ (h1 s hs y e)
  subst hx
  exact h4 _ (h2 y s' h3 r hr)
theorem A2 {m1:Option β} {f:β→Option α} {R:List LO} (i k:Nat) (stm:β→CS) (h1:JR E N F lit m1 (((R.drop i).take k).drop 0) st (QMx N F stm fun _=>.normal)) (h2:∀ y,JR E N F lit (f y) (R.drop (i + k)) (stm y) Q):JR E N F lit (m1.bind f) (R.drop i) st Q:=fun s hs r hr=>by
 cases e:m1 with
 | none=>rw[e] at hr; cases hr
 | some y=>
  rw[e] at hr
  have h3:=h1 s hs y e
  rw[List.drop_zero] at h3
  refine AA6 k _ h3 fun s' hs'=>?_
  rw[List.drop_drop]
  exact h2 y s' hs'.2 r hr
theorem C5 {f:σ→Option (Step σ τ)} {x0:σ} (stf:σ→CS) {stm:τ→CS} {axf:τ→AX} (hw:Wk N F st (stf x0)) (hb:∀ y,JC E N F (f y) L (stf y) (QLp N F stf stm axf)):JC E N F (CD f x0) (.loop L) st (QMx N F stm axf):=fun s hs r hr=>by
 obtain⟨k,hk⟩:=JW.1 hr
 have key:∀ k y s,At N F (stf y) s→NI f k y=some r→∃ m,YD (wp E L) (QMx N F stm axf r) m s:=by
  intro k
  induction k with
  | zero=>intro y s _ h; cases h
  | succ k ih=>
   intro y s hs h
   simp only[NI] at h
   cases e:f y with
   | none=>rw[e] at h; cases h
   | some q=>
    rw[e] at h
    obtain⟨x,s',h3,h4⟩:=LB L s _ (hb y s hs q e)
    cases q with
    | next y'=>
     obtain⟨hx,hs'⟩:=h3
     subst hx
     obtain⟨m,hm⟩:=ih y' s' hs' h
     exact⟨m + 1,h4 _ hm⟩
    | done t=>
     cases h
     obtain⟨hx,hn,hs'⟩:=h3
     refine⟨1,h4 _ ?_⟩
     cases x with
     | normal=>exact absurd rfl hn
     | _=>exact⟨hx,hs'⟩
 exact key k x0 s (hw s hs) hk
def W2 (st:CS) (g:Nat) (b:Bool):CS:=⟨setL st.K g b,st.H,st.n⟩
 where setL:List (Nat × KV)→Nat→Bool→List (Nat × KV)
  | [],_,_=>[]
  | (k,e) :: l,g,b=>cond (Nat.beq k g) ((k,.lit b) :: setL l g b) ((k,e) :: setL l g b)
theorem oU {g:Nat} {b:Bool}:∀ {l:List (Nat × KV)} {j:Nat} {e:KV},lk (W2.setL l g b) j=some e→(j=g∧e = .lit b∧(lk l g).isSome=true)∨(j≠g∧lk l j=some e)
 | [],j,e,h=>by simp[W2.setL,lk] at h
 | (k,a) :: l,j,e,h=>by
  simp only[W2.setL] at h
  cases hk:Nat.beq k g with
  | true=>
   have:=Df hk
   subst this
   rw[hk] at h
   simp only[cond_true,lk] at h ⊢
   cases h2:Nat.beq k j with
   | true=>rw[h2] at h; cases h; exact .inl ⟨(Df h2).symm,rfl,by simp⟩
   | false=>
    rw[h2] at h
    simp only[cond_false] at h ⊢
    rcases oU h with ⟨h3,_⟩ | h3
    · exact absurd h3.symm (RQ h2)
    · exact .inr h3
  | false=>
   rw[hk] at h
   simp only[cond_false,lk] at h ⊢
   cases h2:Nat.beq k j with
   | true=>
    rw[h2] at h
    cases h
    have:=Df h2
    subst this
    exact .inr ⟨RQ hk,rfl⟩
   | false=>
    rw[h2] at h
    simp only[cond_false] at h
    rcases oU h with ⟨h3,h4,h5⟩ | h3
    · left
      refine⟨h3,h4,?_⟩
      rw[hk]
      exact h5
    · exact .inr h3
theorem bE {g:Nat} {b:Bool} {s:St} (hs:At N F st s) (hl:lk st.K g=some (.av (bv b))∨(∃ c,lk st.K g=some (.lit c)∧c=b)):At N F (W2 st g b) s:=by
 obtain⟨ρ,hR,hF⟩:=hs
 refine⟨ρ,⟨hR.len,fun i e hi=>?_,hR.hle⟩,hF⟩
 rcases oU hi with ⟨rfl,rfl,_⟩ | ⟨_,hi⟩
 · rcases hl with hl | ⟨c,hl,rfl⟩
   · obtain⟨v,h1,h2⟩:=hR.kv _ _ hl
     rw[h2.s_inv] at h1
     exact h1
   · exact hR.kv _ _ hl
 · exact hR.kv _ _ hi
theorem AA7 {s:St} {g:Nat} {c:Bool} (hg:s.t[g]? = some (bv c)) {Q:AX→St→Prop} (h:wp E (cond c a b) s Q):wp E (.cond (.tmp g) a b) s Q:=by
 simp only[wp,A0,hg,Option.bind_some,DD]
 cases c
 · exact h
 · exact h
theorem ACX {g:Nat} {c:Bool} {s:St} (hs:At N F st s) (hl:lk st.K g=some (.av (bv c))):s.t[g]? = some (bv c):=by
 obtain⟨ρ,hR,_⟩:=hs
 obtain⟨v,h1,h2⟩:=hR.kv _ _ hl
 rw[h2.s_inv] at h1
 exact h1
theorem AEM {g:Nat} {c:Bool} {m1 m2:Option α} (hl:lk st.K g=some (.av (bv c))) (h1:c=true→JC E N F m1 a (W2 st g true) Q) (h2:c=false→JC E N F m2 b (W2 st g false) Q):JC E N F (if c=true then m1 else m2) (.cond (.tmp g) a b) st Q:=fun s hs r hr=>by
 refine AA7 (ACX hs hl) ?_
 cases c with
 | true=>rw[if_pos rfl] at hr; exact h1 rfl s (bE hs (.inl hl)) r hr
 | false=>rw[if_neg (by simp)] at hr; exact h2 rfl s (bE hs (.inl hl)) r hr
theorem AC9 {g:Nat} {c:Bool} {m1 m2:Option α} {l:List LO} (hl:lk st.K g=some (.av (bv c))) (h1:c=true→JR E N F lit m1 l (W2 st g true) Q) (h2:c=false→JR E N F lit m2 l (W2 st g false) Q):JR E N F lit (if c=true then m1 else m2) l st Q:=fun s hs r hr=>by
 cases c with
 | true=>rw[if_pos rfl] at hr; exact h1 rfl s (bE hs (.inl hl)) r hr
 | false=>rw[if_neg (by simp)] at hr; exact h2 rfl s (bE hs (.inl hl)) r hr
theorem Re {g:Nat} {c:Bool} (hl:lk st.K g=some (.av (bv c))) (h:JC E N F m (cond c a b) st Q):JC E N F m (.cond (.tmp g) a b) st Q:=fun s hs r hr=>AA7 (ACX hs hl) (h s hs r hr)
def YQ {α:Type}:List Nat→List (Nat × α)→List (Nat × α)
 | [],_=>[]
 | k :: ks,l=>match lk l k with
  | some e=>(k,e) :: YQ ks l
  | none=>YQ ks l
theorem Ri {α:Type} {l:List (Nat × α)}:∀ {ks:List Nat} {j:Nat} {e:α},lk (YQ ks l) j=some e→lk l j=some e
 | [],j,e,h=>by simp[YQ,lk] at h
 | k :: ks,j,e,h=>by
  simp only[YQ] at h
  split at h
  · rename_i a ha
    simp only[lk] at h
    cases h2:Nat.beq k j with
    | true=>rw[h2] at h; cases h; rw[← Df h2]; exact ha
    | false=>rw[h2] at h; exact Ri h
  · exact Ri h
def T8 (ks hs:List Nat) (st:CS):CS:=⟨YQ ks st.K,YQ hs st.H,st.n⟩
theorem HLe.sub {ρ:Rn} {h h2:AW} {n:Nat} {h':AW} {n':Nat} (H:HLe ρ h n h' n') (hk:∀ k o,h2 k=some o→h k=some o):HLe ρ h2 n h' n':=by
 refine⟨fun i p hp=>H.ob i p (hk i p hp),fun i j b s s' h1 h2 e1 e2=>?_,H.lt,H.lt'⟩
 obtain⟨o1,h1⟩:=Option.isSome_iff_exists.1 h1
 obtain⟨o2,h2⟩:=Option.isSome_iff_exists.1 h2
 exact H.inj i j b s s' (by rw[hk _ _ h1]; rfl) (by rw[hk _ _ h2]; rfl) e1 e2
theorem rR {s:St} {ρ:Rn} {ks hs:List Nat} (h:Rf N st s ρ):Rf N (T8 ks hs st) s ρ:=
 ⟨h.len,fun i e hi=>h.kv i e (Ri hi),h.hle.sub fun k o hk=>Ri hk⟩
theorem sY {ks hs:List Nat}:Wk N F st (T8 ks hs st):=fun s ⟨ρ,h1,h2⟩=>⟨ρ,rR h1,h2⟩
theorem zA {R:List LO} (i k:Nat) (ks hs:List Nat) (h:(tS E N lit ((R.drop i).take k) st).map (T8 ks hs)=some st1) (h2:JR E N F lit m (R.drop (i + k)) st1 Q):JR E N F lit m (R.drop i) st Q:=fun s hs2 r hr=>by
 obtain⟨st2,e1,e2⟩:=Option.map_eq_some_iff.1 h
 subst e2
 obtain⟨ρ,hR,hF⟩:=hs2
 rw[← List.take_append_drop k (R.drop i)]
 refine UY hR e1 fun s1 ρ1 h3 h4=>?_
 rw[List.drop_drop]
 exact h2 s1 ⟨ρ1,rR h3,hF.trans h4⟩ r hr
def gOk (K:List (Nat × KV)) (g:Option (Tmp × Bool)):Bool:=
 match g with
 | none=>true
 | some (g,w)=>match lk K g with
  | some (.lit b)=>b == w
  | _=>false
theorem Lx {o:LO} {s:St} {ρ:Rn} (hR:Rf N st s ρ) (hg:gOk st.K o.g=true):Og E lit o s=stepG E lit o s:=by
 unfold Og
 unfold gOk at hg
 cases hog:o.g with
 | none=>rfl
 | some q=>
  obtain⟨g,w⟩:=q
  rw[hog] at hg
  simp only at hg ⊢
  split at hg
  · rename_i b hl
    have:s.t[g]? = some (bv b):=hR.kv _ _ hl
    rw[this]
    simp only
    rw[if_pos (by simpa using hg)]
  · cases hg
def O7:Op→Bool
 | .call { callee:=.value _,.. }=>true
 | .box ..=>true
 | _=>false
def l9:Op→Bool
 | .buildSlice ty len ps=>!(GY ty len ps.toList)
 | _=>false
theorem oO {R:List LO} {i:Nat} {o:LO} (ho:R.drop i=o :: R.drop (i + 1)) (hg:gOk st.K o.g=true) (hc:(O7 o.op || (lit && l9 o.op))=false) (hn:JZ o.op=true) {v:AV} {us:Ups}
 (ha:aop E.P o.oper (tl N st.K none) (hl st.H) st.n=some (v,us)) (hp:FI N ⟨st.K,aH st.H us,st.n + kN o.op⟩ o.dst (.av v)=some st1)
 (hk:JR E N F lit m (R.drop (i + 1)) st1 Q):JR E N F lit m (R.drop i) st Q:=fun s hs r hr=>by
 obtain⟨ρ,hR,hF⟩:=hs
 rw[Bool.or_eq_false_iff] at hc
 have h1:∀ f args ats,o.op ≠ .call ⟨.value f,args,ats⟩:=fun f args ats e=>by
  rw[e] at hc
  simp[O7] at hc
 have h2:∀ ty len ps,o.op = .buildSlice ty len ps→(lit && !(GY ty len ps.toList))=false:=fun ty len ps e=>by
  rw[e] at hc
  simpa[l9] using hc.2
 have h3:∀ e x,o.op = .box e x→E.fbox e x o.dst=false:=fun e x q=>by
  rw[q] at hc
  simp[O7] at hc
 obtain⟨s1,ρ1,e1,e2,e3⟩:=O2 (lit:=lit) (o:=o) (st1:=st1) h1 h2 h3 hR (by unfold ABE; rw[hn,cond_true,nT,ha]; exact hp)
 rw[ho]
 exact⟨s1,by rw[Lx hR hg]; exact e1,hk s1 ⟨ρ1,e2,hF.trans e3⟩ r hr⟩
end
end Go.Vm
namespace Go.Vm
open Go
section
variable {ρ:Rn} {h h':AW} {n n':Nat} {P:Program} {t t':List AV}
theorem rQ (H:HLe ρ h n h' n') (ht:AI (VLe ρ) t t') {x:ResultVar} {v:AV} (hr:Kg P t h x=some v):∃ v',Kg P t' h' x=some v'∧VLe ρ v v':=by
 cases x with
 | tmp i=>exact ht.get hr
 | cell a ty=>
  simp only[Kg] at hr ⊢
  cases e:t[a]? with
  | none=>rw[e] at hr; cases hr
  | some p=>
   rw[e] at hr
   obtain⟨p',h1,h2⟩:=ht.get e
   rw[h1]
   exact cH H hr h2
theorem Sf (H:HLe ρ h n h' n') (ht:AI (VLe ρ) t t'):∀ {xs:List ResultVar} {vs:List AV},resultList P t h xs=some vs→∃ vs',resultList P t' h' xs=some vs'∧AI (VLe ρ) vs vs'
 | [],vs,hr=>by cases hr; exact⟨[],rfl,trivial⟩
 | x :: xs,vs,hr=>by
  simp only[resultList] at hr ⊢
  cases e1:Kg P t h x with
  | none=>rw[e1] at hr; cases hr
  | some v=>cases e2:resultList P t h xs with
   | none=>rw[e1,e2] at hr; cases hr
   | some us=>
    rw[e1,e2] at hr
    cases hr
    obtain⟨v',h1,h2⟩:=rQ H ht e1
    obtain⟨us',h3,h4⟩:=Sf H ht e2
    rw[h1,h3]
    exact⟨_,rfl,h2,h4⟩
theorem UG (H:HLe ρ h n h' n') (ht:AI (VLe ρ) t t') {xs:List ResultVar} {v:AV} (hr:Ce P xs t h=some v):∃ v',Ce P xs t' h' = some v'∧VLe ρ v v':=by
 unfold Ce at hr ⊢
 cases e:resultList P t h xs with
 | none=>rw[e] at hr; cases hr
 | some vs=>
  rw[e] at hr
  obtain⟨vs',h1,h2⟩:=Sf H ht e
  rw[h1]
  match vs,vs',h2,hr with
  | [],[],_,hr=>cases hr; exact⟨_,rfl,VLe.tup_iff.2 ⟨_,rfl,trivial⟩⟩
  | [c],[d],h2,hr=>cases hr; exact⟨_,rfl,h2.1⟩
  | c :: c2 :: cs,d :: d2 :: ds,h2,hr=>cases hr; exact⟨_,rfl,VLe.tup_iff.2 ⟨_,rfl,h2⟩⟩
  | [c],d :: d2 :: ds,h2,_=>exact h2.2.elim
  | c :: c2 :: cs,[d],h2,_=>exact h2.2.elim
  | [],_ :: _,h2,_=>exact h2.elim
  | _ :: _,[],h2,_=>exact h2.elim
theorem RT:∀ {cs ds:List AV},(cs.all fun | .s _=>true | _=>false)=true→AI (VLe ρ) cs ds→(ds.all fun | .s _=>true | _=>false)=true
 | [],[],_,_=>rfl
 | c :: cs,d :: ds,hc,hr=>by
  simp only[List.all_cons,Bool.and_eq_true] at hc ⊢
  refine⟨?_,RT hc.2 hr.2⟩
  cases c with
  | s v=>rw[hr.1.s_inv]
  | _=>simp at hc
 | [],_ :: _,_,hr=>hr.elim
 | _ :: _,[],_,hr=>hr.elim
theorem t6 {a b:AV} (ha:TU a=true) (hr:VLe ρ a b):TU b=true:=by
 cases a with
 | s v=>rw[hr.s_inv]; rfl
 | agg cs=>
  obtain⟨ds,rfl,h2⟩:=VLe.agg_iff.1 hr
  exact RT ha h2
 | tup cs=>
  obtain⟨ds,rfl,h2⟩:=VLe.tup_iff.1 hr
  simp only[TU] at ha ⊢
  clear hr
  induction cs generalizing ds with
  | nil=>cases ds with | nil=>rfl | cons _ _=>exact h2.elim
  | cons c cs ih=>
   cases ds with
   | nil=>exact h2.elim
   | cons d ds=>
    simp only[List.all_cons,Bool.and_eq_true] at ha ⊢
    refine⟨?_,ih ha.2 ds h2.2⟩
    cases c with
    | s v=>rw[h2.1.s_inv]
    | agg xs=>
     obtain⟨ys,e,h3⟩:=VLe.agg_iff.1 h2.1
     rw[e]
     exact RT ha.1 h3
    | _=>simp at ha
 | _=>simp[TU] at ha
theorem oL (h':AW) (n':Nat):HLe Rn.nil AW.nil 0 h' n':=
 ⟨fun i o e=>(by cases e),fun i j a sh sh' e=>(by simp[AW.nil] at e),fun i m e=>(by cases e),fun i a sh e=>(by cases e)⟩
theorem Ju {f f2:AV→Option (AV × Bool)} (hf:∀ x u b,f x=some (u,b)→f2 u=some (u,false)):∀ {xs us:List AV} {b:Bool},B4 f xs=some (us,b)→B4 f2 us=some (us,false)
 | [],us,b,e=>by cases e; rfl
 | c :: cs,us,b,e=>by
  simp only[B4] at e
  cases e1:f c with
  | none=>rw[e1] at e; cases e
  | some q=>
   obtain⟨v,a⟩:=q
   cases e2:B4 f cs with
   | none=>rw[e1,e2] at e; cases e
   | some q2=>
    obtain⟨vs,b2⟩:=q2
    rw[e1,e2] at e
    cases e
    simp only[B4,hf _ _ _ e1,Ju hf e2,Bool.or_self]
theorem nE {h2:AW}:∀ {k:Nat} {x u:AV} {b:Bool},CC h k x=some (u,b)→CC h2 k u=some (u,false):=by
 intro k
 induction k with
 | zero=>
  intro x u b e
  cases x <;> simp only[CC,Option.some.injEq,Prod.mk.injEq] at e <;> first | (obtain⟨rfl,rfl⟩:=e; rfl) | cases e
 | succ k ih=>
  intro x u b e
  cases x with
  | agg cs=>
   simp only[CC] at e
   obtain⟨⟨us,b1⟩,e1,e2⟩:=Option.map_eq_some_iff.1 e
   cases e2
   simp only[CC,Ju (f2:=CC h2 k) (fun _ _ _ e=>ih e) e1,Option.map_some]
  | tup cs=>
   simp only[CC] at e
   obtain⟨⟨us,b1⟩,e1,e2⟩:=Option.map_eq_some_iff.1 e
   cases e2
   simp only[CC,Ju (f2:=CC h2 k) (fun _ _ _ e=>ih e) e1,Option.map_some]
  | fn f cs=>
   simp only[CC] at e
   obtain⟨⟨us,b1⟩,e1,e2⟩:=Option.map_eq_some_iff.1 e
   cases e2
   simp only[CC,Ju (f2:=CC h2 k) (fun _ _ _ e=>ih e) e1,Option.map_some]
  | ptr id i sz off=>
   simp only[CC] at e
   split at e
   · obtain⟨⟨us,b1⟩,e1,e2⟩:=Option.map_eq_some_iff.1 e
     cases e2
     rfl
   · cases e
  | osl id off len sz=>
   simp only[CC] at e
   split at e
   · obtain⟨us,e1,e2⟩:=Option.map_eq_some_iff.1 e
     cases e2
     rfl
   · cases e
  | yld l=>simp[CC] at e
  | mp l=>
   simp only[CC] at e
   split at e
   · obtain⟨us,e1,e2⟩:=Option.map_eq_some_iff.1 e
     cases e2
     rfl
   · cases e
  | _=>simp only[CC,Option.some.injEq,Prod.mk.injEq] at e; obtain⟨rfl,rfl⟩:=e; rfl
end
def Ct {α:Type} (E:Env) (g:FuncId) (vs:List AV) (m:Option α) (er:α→AV):Prop:=
 ∀ r,m=some r→∀ vs',AI (VLe Rn.nil) vs vs'→∀ h n,∃ u,C1 E (FW E) g vs' h n=some (u,h,n)∧VLe Rn.nil (er r) u
def tD {α:Type} (E:Env) (rs:List ResultVar) (er:α→AV):α→AX→St→Prop:=fun r x s=>
 (x = .normal∨x = .ret)∧∃ v,Ce E.P rs s.t s.h=some v∧∃ u q,CC s.h depth v=some (u,q)∧VLe Rn.nil (er r) u
def RP:Nat→List AV→List (Nat × KV)
 | _,[]=>[]
 | i,v :: vs=>(i,.av v) :: RP (i + 1) vs
theorem Vn:∀ {vs:List AV} {i j:Nat} {e:KV},lk (RP i vs) j=some e→∃ v k,e = .av v∧j=i + k∧vs[k]? = some v
 | [],i,j,e,h=>by simp[RP,lk] at h
 | v :: vs,i,j,e,h=>by
  simp only[RP,lk] at h
  cases h2:Nat.beq i j with
  | true=>rw[h2] at h; cases h; exact⟨v,0,rfl,(Df h2).symm,rfl⟩
  | false=>
   rw[h2] at h
   obtain⟨w,k,h3,h4,h5⟩:=Vn h
   exact⟨w,k + 1,h3,by omega,h5⟩
section
variable {α β σ τ:Type} {E:Env} {N:Nat} {F:Fx} {lit:Bool} {st st1:CS} {m:Option α} {Q:α→AX→St→Prop} {a b L:LC} {x:AX}
theorem ADz {vs w:List AV} (hN:vs.length≤N) (hw:AI (VLe Rn.nil) vs w):At N Fx.nil ⟨RP 0 vs,[],0⟩ ⟨w ++ List.replicate (N - w.length) (.s undef),AW.nil,0⟩:=by
 refine⟨Rn.nil,⟨?_,fun i e hi=>?_,oL _ _⟩,Fr.refl _ _ _⟩
 · have:=hw.length
   simp only[List.length_append,List.length_replicate]
   omega
 · obtain⟨v,k,rfl,rfl,h3⟩:=Vn hi
   obtain⟨v',h4,h5⟩:=hw.get h3
   refine⟨v',?_,h5⟩
   rw[Nat.zero_add]
   show (w ++ _)[k]? = _
   rw[List.getElem?_append_left]
   · exact h4
   · rcases Nat.lt_or_ge k w.length with hlt | hge
     · exact hlt
     · rw[List.getElem?_eq_none hge] at h4; cases h4
theorem ACe {g:FuncId} {rs:List ResultVar} {vs:List AV} {er:α→AV} (k:Bf E g N rs L) (hpf:E.pf g=true) (hN:vs.length≤N) (hs:B4 (Cj AW.nil depth) vs=some (vs,false))
 (hj:JC E N Fx.nil m L ⟨RP 0 vs,[],0⟩ (tD E rs er)):Ct E g vs m er:=fun r hr vs' hv h n=>by
 obtain⟨w,b',h1,h2,h3⟩:=Fy (f':=CC h depth) (fun x x' u b e hx=>Sk (oL h n) e hx) hs hv
 have hb:b' = false:=by
  cases b' with
  | false=>rfl
  | true=>cases h3 rfl
 subst hb
 have hlen:w.length=vs.length:=h2.length
 obtain⟨x,s,⟨hx,v,h4,u,q,h5,h6⟩,h7⟩:=LB L _ _ (hj _ (ADz hN h2) r hr)
 refine⟨u,AFj k hpf h1 rfl (h7 (Post E rs u) ⟨hx,v,h4,q,h5⟩),h6⟩
theorem AFP {rs:List ResultVar} {er:α→AV} {r:α} {v:AV} {q:Bool} (hx:x = .normal∨x = .ret) (hr:Ce E.P rs (tl N st.K none) (hl st.H)=some v) (hs:Cj (hl st.H) depth v=some (er r,q)):JX N F (some r) x st (tD E rs er):=fun s hs2 r2 hr2=>by
 cases hr2
 obtain⟨ρ,hR,_⟩:=hs2
 obtain⟨v',h1,h2⟩:=UG hR.hle (LN hR.len hR.kv (a:=none) (fun q e=>by cases e)) hr
 obtain⟨u,b,h3,h4,_⟩:=Sk hR.hle hs h2
 exact⟨hx,v',h1,u,b,h3,h4⟩
theorem AEN {R:List LO} {i:Nat} {d:Option Tmp} {g:FuncId} {args:Array Operand} {ats:Array TypeId} {ty:TypeId} {gd:Option (Tmp × Bool)} (ho:R.drop i=⟨d,.call ⟨.value (.func g),args,ats⟩,ty,gd⟩ :: R.drop (i + 1)) (hg:gOk st.K gd=true)
 (hp:E.prim g=none) (hpf:E.pf g=true) {vs vs0:List AV} {b:Bool} (hv:D5 (tl N st.K none) args.toList=some vs) (hs:B4 (Cj (hl st.H) depth) vs=some (vs0,b))
 {m1:Option β} {er:β→AV} {f:β→Option α} {st1:β→CS} (hc:Ct E g vs0 m1 er) (hfl:∀ r,(b && !TU (er r))=false) (hput:∀ r,FI N st d (.av (er r))=some (st1 r))
 (hk:∀ r,m1=some r→JR E N F lit (f r) (R.drop (i + 1)) (st1 r) Q):JR E N F lit (m1.bind f) (R.drop i) st Q:=fun s hs2 r2 hr2=>by
 cases hm:m1 with
 | none=>rw[hm] at hr2; cases hr2
 | some r=>
  rw[hm] at hr2
  obtain⟨ρ,hR,hF⟩:=hs2
  obtain⟨vs',h1,h2⟩:=Jb (LN hR.len hR.kv (a:=none) (fun q e=>by cases e)) hv
  obtain⟨w,b',h3,h4,h5⟩:=Fy (f':=CC s.h depth) (fun x x' u b e hx=>Sk hR.hle e hx) hs h2
  obtain⟨u,h6,h7⟩:=hc r hm w h4 s.h s.n
  have h8:C1 E (FW E) g vs' s.h s.n=some (u,s.h,s.n):=by
   refine ADT hp hpf h3 (Ju (f2:=CC s.h depth) (fun _ _ _ e=>nE e) h3) h6 ?_
   have hf:=hfl r
   cases b' with
   | false=>rfl
   | true=>
    have hb:=h5 rfl
    subst hb
    simp only[Bool.true_and,Bool.not_eq_false'] at hf
    rw[t6 hf h7]
    rfl
  rw[ho]
  refine⟨⟨C3 s.t d u,s.h,s.n⟩,?_,hk r hm ⟨C3 s.t d u,s.h,s.n⟩ ⟨ρ,?_,hF⟩ r2 hr2⟩
  · rw[Lx (o:=⟨d,.call ⟨.value (.func g),args,ats⟩,ty,gd⟩) hR hg]
    unfold stepG
    simp only[DI,A0,h1,List.append_nil,h8]
  · exact Eo (hput r) (fun _ _ e=>e) hR.len hR.kv hR.hle (fun i hi=>Hm (by rw[hR.len]; exact FA (hput r) hi) (h7.ext Vq))
def ACR:List AV→Bool
 | []=>true
 | .s _ :: l=>ACR l
 | _=>false
theorem VV {ρ:Rn}:∀ {vs ws:List AV},ACR vs=true→AI (VLe ρ) vs ws→ws=vs
 | [],[],_,_=>rfl
 | .s v :: vs,w :: ws,h,hr=>by
  have e1:w = .s v:=hr.1.s_inv
  have e2:ws=vs:=VV h hr.2
  rw[e1,e2]
 | [],_ :: _,_,hr=>hr.elim
 | _ :: _,[],_,hr=>hr.elim
theorem AD8 {g:FuncId} {p:List AV→Option AV} (hp:E.prim g=some p) {vs:List AV} (ha:ACR vs=true) {er:α→AV} (hv:∀ r,m=some r→p vs=some (er r)) (her:∀ r,VLe Rn.nil (er r) (er r)):Ct E g vs m er:=fun r hr vs' hv' h n=>by
 rw[VV ha hv']
 exact⟨er r,mW hp (hv r hr),her r⟩
theorem AC7 {R:List LO} {i:Nat} {d:Option Tmp} {g:FuncId} {args:Array Operand} {ats:Array TypeId} {ty:TypeId} {gd:Option (Tmp × Bool)} (ho:R.drop i=⟨d,.call ⟨.value (.func g),args,ats⟩,ty,gd⟩ :: R.drop (i + 1)) (hg:gOk st.K gd=true)
 {vs:List AV} (hv:D5 (tl N st.K none) args.toList=some vs) (ha:ACR vs=true)
 {m1:Option β} {er:β→AV} {f:β→Option α} {st1:β→CS} (hc:Ct E g vs m1 er) (hput:∀ r,FI N st d (.av (er r))=some (st1 r))
 (hk:∀ r,m1=some r→JR E N F lit (f r) (R.drop (i + 1)) (st1 r) Q):JR E N F lit (m1.bind f) (R.drop i) st Q:=fun s hs2 r2 hr2=>by
 cases hm:m1 with
 | none=>rw[hm] at hr2; cases hr2
 | some r=>
  rw[hm] at hr2
  obtain⟨ρ,hR,hF⟩:=hs2
  obtain⟨vs',h1,h2⟩:=Jb (LN hR.len hR.kv (a:=none) (fun q e=>by cases e)) hv
  have:=VV ha h2
  subst this
  have hrefl:AI (VLe Rn.nil) vs' vs':=by
   clear h1 h2 hv hc
   induction vs' with
   | nil=>trivial
   | cons v vs ih=>
    cases v with
    | s v=>exact⟨VLe.s_refl _,ih ha⟩
    | _=>cases ha
  obtain⟨u,h6,h7⟩:=hc r hm vs' hrefl s.h s.n
  rw[ho]
  refine⟨⟨C3 s.t d u,s.h,s.n⟩,?_,hk r hm ⟨C3 s.t d u,s.h,s.n⟩ ⟨ρ,?_,hF⟩ r2 hr2⟩
  · rw[Lx (o:=⟨d,.call ⟨.value (.func g),args,ats⟩,ty,gd⟩) hR hg]
    unfold stepG
    simp only[DI,A0,h1,List.append_nil,h6]
  · exact Eo (hput r) (fun _ _ e=>e) hR.len hR.kv hR.hle (fun i hi=>Hm (by rw[hR.len]; exact FA (hput r) hi) (h7.ext Vq))
end
mutual
def ren (f:List (Nat × Option Nat)):AV→Option AV
 | .any=>some .any
 | .s v=>some (.s v)
 | .agg cs=>match rens f cs with
  | some ds=>some (.agg ds)
  | none=>none
 | .tup cs=>match rens f cs with
  | some ds=>some (.tup ds)
  | none=>none
 | .ptr id i sz off=>match lk f id with
  | some (some j)=>some (.ptr j i sz off)
  | _=>none
 | .fptr row off=>some (.fptr row off)
 | .osl id off len sz=>match lk f id with
  | some (some j)=>some (.osl j off len sz)
  | some none=>cond (Nat.beq off 0 && Nat.beq len 0) (some AQ) none
  | none=>none
 | .fsl sz rows=>some (.fsl sz rows)
 | .esl=>some .esl
 | .fn g cs=>match rens f cs with
  | some ds=>some (.fn g ds)
  | none=>none
 | .yld l=>match lk f l with
  | some (some j)=>some (.yld j)
  | _=>none
 | .mp l=>match lk f l with
  | some (some j)=>some (.mp j)
  | _=>none
 | .fmp es=>some (.fmp es)
def rens (f:List (Nat × Option Nat)):List AV→Option (List AV)
 | []=>some []
 | c :: cs=>match ren f c,rens f cs with
  | some d,some ds=>some (d :: ds)
  | _,_=>none
end
def UF (f:List (Nat × Option Nat)):List (List AV)→Option (List (List AV))
 | []=>some []
 | c :: cs=>match rens f c,UF f cs with
  | some d,some ds=>some (d :: ds)
  | _,_=>none
def DX (f:List (Nat × Option Nat)) (ρ:Rn):Rn:=fun i=>match lk f i with
 | some (some j)=>ρ j
 | some none=>some .ph
 | none=>none
mutual
theorem rO {f:List (Nat × Option Nat)} {ρ:Rn}:∀ {v' v w:AV},ren f v' = some v→VLe ρ v w→VLe (DX f ρ) v' w
 | .any,v,w,h,_=>by simp[VLe]
 | .s u,v,w,h,hv=>by simp only[ren,Option.some.injEq] at h; subst h; rw[hv.s_inv]; exact VLe.s_refl _
 | .agg cs,v,w,h,hv=>by
  simp only[ren] at h
  split at h
  · rename_i ds e
    cases h
    obtain⟨es,rfl,h2⟩:=VLe.agg_iff.1 hv
    exact VLe.agg_iff.2 ⟨_,rfl,rens_ok e h2⟩
  · cases h
 | .tup cs,v,w,h,hv=>by
  simp only[ren] at h
  split at h
  · rename_i ds e
    cases h
    obtain⟨es,rfl,h2⟩:=VLe.tup_iff.1 hv
    exact VLe.tup_iff.2 ⟨_,rfl,rens_ok e h2⟩
  · cases h
 | .ptr id i sz off,v,w,h,hv=>by
  simp only[ren] at h
  split at h
  · rename_i j e
    cases h
    simp only[VLe] at hv ⊢
    obtain⟨a,sh,h1,h2⟩:=hv
    exact⟨a,sh,by simp only[DX,e]; exact h1,h2⟩
  · cases h
 | .fptr row off,v,w,h,hv=>by
  simp only[ren,Option.some.injEq] at h
  subst h
  simp only[VLe] at hv ⊢
  exact hv
 | .osl id off len sz,v,w,h,hv=>by
  simp only[ren] at h
  split at h
  · rename_i j e
    cases h
    simp only[VLe] at hv ⊢
    rcases hv with ⟨a,sh,h1,h2⟩ | ⟨h1,h2⟩
    · exact .inl ⟨a,sh,by simp only[DX,e]; exact h1,h2⟩
    · exact .inr ⟨by simp only[DX,e]; exact h1,h2⟩
  · rename_i e
    cases hc:(Nat.beq off 0 && Nat.beq len 0) with
    | false=>rw[hc] at h; cases h
    | true=>
     rw[hc] at h
     cases h
     rw[Bool.and_eq_true] at hc
     simp only[VLe]
     exact .inr ⟨by simp only[DX,e],Df hc.1,Df hc.2,.inl hv.s_inv⟩
  · cases h
 | .fsl sz rows,v,w,h,hv=>by
  simp only[ren,Option.some.injEq] at h
  subst h
  simp only[VLe] at hv ⊢
  exact hv
 | .esl,v,w,h,hv=>by
  simp only[ren,Option.some.injEq] at h
  subst h
  simp only[VLe] at hv ⊢
  exact hv
 | .fn g cs,v,w,h,hv=>by
  simp only[ren] at h
  split at h
  · rename_i ds e
    cases h
    obtain⟨es,rfl,h2⟩:=VLe.fn_iff.1 hv
    exact VLe.fn_iff.2 ⟨_,rfl,rens_ok e h2⟩
  · cases h
 | .yld l,v,w,h,hv=>by
  simp only[ren] at h
  split at h
  · rename_i j e
    cases h
    simp only[VLe] at hv ⊢
    obtain⟨a,sh,h1,h2⟩:=hv
    exact⟨a,sh,by simp only[DX,e]; exact h1,h2⟩
  · cases h
 | .mp l,v,w,h,hv=>by
  simp only[ren] at h
  split at h
  · rename_i j e
    cases h
    simp only[VLe] at hv ⊢
    obtain⟨a,sh,h1,h2⟩:=hv
    exact⟨a,sh,by simp only[DX,e]; exact h1,h2⟩
  · cases h
 | .fmp es,v,w,h,hv=>by
  simp only[ren,Option.some.injEq] at h
  subst h
  simp only[VLe] at hv ⊢
  exact hv
theorem rens_ok {f:List (Nat × Option Nat)} {ρ:Rn}:∀ {v' v w:List AV},rens f v' = some v→AI (VLe ρ) v w→AI (VLe (DX f ρ)) v' w
 | [],v,w,h,hv=>by
  simp only[rens,Option.some.injEq] at h
  subst h
  cases w with
  | nil=>trivial
  | cons _ _=>exact hv.elim
 | c :: cs,v,w,h,hv=>by
  simp only[rens] at h
  split at h
  · rename_i d ds e1 e2
    cases h
    cases w with
    | nil=>exact hv.elim
    | cons y ys=>exact⟨rO e1 hv.1,rens_ok e2 hv.2⟩
  · cases h
end
theorem Wa {f:List (Nat × Option Nat)} {ρ:Rn}:∀ {v' v w:List (List AV)},UF f v' = some v→AI (AI (VLe ρ)) v w→AI (AI (VLe (DX f ρ))) v' w
 | [],v,w,h,hv=>by
  simp only[UF,Option.some.injEq] at h
  subst h
  cases w with
  | nil=>trivial
  | cons _ _=>exact hv.elim
 | c :: cs,v,w,h,hv=>by
  simp only[UF] at h
  split at h
  · rename_i d ds e1 e2
    cases h
    cases w with
    | nil=>exact hv.elim
    | cons y ys=>exact⟨rens_ok e1 hv.1,Wa e2 hv.2⟩
  · cases h
def AE6 (v:AV):Prop:=∀ ρ ρ' w,VLe ρ v w→VLe ρ' v w
def QN (vs:List AV):Prop:=∀ v∈vs,AE6 v
def tC (rows:List (List AV)):Prop:=∀ r∈rows,QN r
theorem cT (v:Value):AE6 (.s v):=fun _ _ w h=>by rw[h.s_inv]; exact VLe.s_refl _
theorem W6:QN []:=fun _ h=>by simp at h
theorem L1 {v:AV} {vs:List AV} (h:AE6 v) (k:QN vs):QN (v :: vs):=fun x hx=>by
 rcases List.mem_cons.1 hx with rfl | hx
 · exact h
 · exact k x hx
theorem QN.all2 {vs:List AV} (h:QN vs) {ρ ρ':Rn} {w:List AV} (k:AI (VLe ρ) vs w):AI (VLe ρ') vs w:=AI.mono2 (fun x y hx hr=>h x hx _ _ _ hr) k
theorem tC.all2 {vs:List (List AV)} (h:tC vs) {ρ ρ':Rn} {w:List (List AV)} (k:AI (AI (VLe ρ)) vs w):AI (AI (VLe ρ')) vs w:=AI.mono2 (fun x y hx hr=>(h x hx).all2 hr) k
theorem AY {α:Type} {c:α→List AV} (hc:∀ x,QN (c x)) (l:List α):tC (l.map c):=fun r hr=>by
 obtain⟨x,_,rfl⟩:=List.mem_map.1 hr
 exact hc x
def HOk (f:List (Nat × Option Nat)) (H:List (Nat × C0)) (p:Nat × C0):Prop:=
 (∃ j sz rows rows',lk f p.1=some (some j)∧lk H j=some (.rows sz rows)∧p.2 = .rows sz rows'∧(UF f rows' = some rows∨(rows' = rows∧tC rows))) ∨
 (lk f p.1=some none∧∃ sz,p.2 = .rows sz []) ∨
 (∃ j R tm,lk f p.1=some (some j)∧lk H j=some (.loop R)∧p.2 = .loop { R with tmps:=tm }∧rens f tm=some R.tmps) ∨
 (∃ j es,lk f p.1=some (some j)∧lk H j=some (.map es)∧p.2 = .map es∧QN (es.map (·.2)))
def QU {α:Type} (P:α→Prop):List α→Prop
 | []=>True
 | a :: l=>P a∧QU P l
theorem QU.mem {α:Type} {P:α→Prop}:∀ {l:List α},QU P l→∀ {a},a∈l→P a
 | _ :: _,h,a,ha=>by
  rcases List.mem_cons.1 ha with rfl | ha
  · exact h.1
  · exact QU.mem h.2 ha
def kvw:KV→Option AV
 | .av v=>some v
 | .lit b=>some (bv b)
 | .cd ..=>none
def YE:List (Nat × KV)→Bool
 | []=>true
 | (_,.av _) :: l=>YE l
 | _=>false
def Hj (j:Nat):List (Nat × Option Nat)→Bool
 | []=>true
 | (_,some k) :: l=>!(Nat.beq k j) && Hj j l
 | (_,none) :: l=>Hj j l
def RZ:List (Nat × Option Nat)→Bool
 | []=>true
 | (_,some k) :: l=>Hj k l && RZ l
 | (_,none) :: l=>RZ l
def HO (n:Nat):List (Nat × Option Nat)→Bool
 | []=>true
 | (k,_) :: l=>Nat.blt k n && HO n l
def inH {α:Type} (H:List (Nat × α)):List (Nat × Option Nat)→List (Nat × Option Nat)
 | []=>[]
 | (k,o) :: l=>cond ((lk H k).isSome) ((k,o) :: inH H l) (inH H l)
theorem Sy {α:Type} {H:List (Nat × α)}:∀ {f:List (Nat × Option Nat)} {k:Nat} {o:Option Nat},(k,o)∈f→(lk H k).isSome=true→(k,o)∈inH H f
 | (q,r) :: l,k,o,hm,hk=>by
  simp only[inH]
  rcases List.mem_cons.1 hm with e | hm
  · cases e
    rw[hk]
    simp
  · cases hq:(lk H q).isSome with
    | true=>exact List.mem_cons_of_mem _ (Sy hm hk)
    | false=>exact Sy hm hk
theorem HV {j:Nat}:∀ {f:List (Nat × Option Nat)},Hj j f=true→∀ i,(i,some j)∉f
 | [],_,i,hm=>by simp at hm
 | (k,some q) :: l,h,i,hm=>by
  simp only[Hj,Bool.and_eq_true,Bool.not_eq_true'] at h
  rcases List.mem_cons.1 hm with e | hm
  · cases e
    simp at h
  · exact HV h.2 i hm
 | (k,none) :: l,h,i,hm=>by
  rcases List.mem_cons.1 hm with e | hm
  · cases e
  · exact HV (by simpa[Hj] using h) i hm
theorem Vi:∀ {f:List (Nat × Option Nat)},RZ f=true→∀ i j k,(i,some k)∈f→(j,some k)∈f→i=j
 | [],_,i,j,k,h1,_=>by simp at h1
 | (q,some r) :: l,h,i,j,k,h1,h2=>by
  simp only[RZ,Bool.and_eq_true] at h
  rcases List.mem_cons.1 h1 with e1 | h1 <;> rcases List.mem_cons.1 h2 with e2 | h2
  · cases e1; cases e2; rfl
  · cases e1; exact absurd h2 (HV h.1 j)
  · cases e2; exact absurd h1 (HV h.1 i)
  · exact Vi h.2 i j k h1 h2
 | (q,none) :: l,h,i,j,k,h1,h2=>by
  rcases List.mem_cons.1 h1 with e1 | h1
  · cases e1
  rcases List.mem_cons.1 h2 with e2 | h2
  · cases e2
  exact Vi (by simpa[RZ] using h) i j k h1 h2
theorem Lm {n:Nat}:∀ {f:List (Nat × Option Nat)},HO n f=true→∀ {i o},lk f i=some o→i < n
 | [],_,i,o,h=>by simp[lk] at h
 | (k,e) :: l,h,i,o,hi=>by
  simp only[HO,Bool.and_eq_true] at h
  simp only[lk] at hi
  cases h2:Nat.beq k i with
  | true=>rw[← Df h2]; simpa using h.1
  | false=>rw[h2] at hi; exact Lm h.2 hi
theorem tF:∀ {K:List (Nat × KV)},YE K=true→∀ {i e},lk K i=some e→∃ v,e = .av v
 | [],_,i,e,h=>by simp[lk] at h
 | (k,.av v) :: l,h,i,e,hi=>by
  simp only[lk] at hi
  cases h2:Nat.beq k i with
  | true=>rw[h2] at hi; cases hi; exact⟨v,rfl⟩
  | false=>rw[h2] at hi; exact tF (by simpa[YE] using h) hi
 | (k,.lit _) :: l,h,_,_,_=>by simp[YE] at h
 | (k,.cd ..) :: l,h,_,_,_=>by simp[YE] at h
def ADr (F:Fx) (f:List (Nat × Option Nat)):Prop:=∀ i m,F.ρ i=some m→lk f i=some (some i)
theorem Am (f:List (Nat × Option Nat)):ADr Fx.nil f:=fun i m e=>by cases e
section
variable {N:Nat} {F:Fx} {st st1:CS}
theorem cO {α β:Type} {f g:α→β}:∀ {l:List α},l.map f=l.map g→∀ {a},a∈l→f a=g a
 | x :: l,h,a,ha=>by
  simp only[List.map_cons,List.cons.injEq] at h
  rcases List.mem_cons.1 ha with rfl | ha
  · exact h.1
  · exact cO h.2 ha
theorem AFc {K':List (Nat × KV)} {H':List (Nat × C0)} {n':Nat} (f:List (Nat × Option Nat)) (hF:ADr F f) (hb:(YE K' && RZ (inH H' f) && HO n' f)=true)
 (hK:K'.map (fun p=>((lk st.K p.1).bind kvw).map some)=K'.map (fun p=>some ((kvw p.2).bind (ren f)))) (hH:QU (HOk f st.H) H'):Wk N F st ⟨K',H',n'⟩:=fun s ⟨ρ,hR,hFr⟩=>by
 simp only[Bool.and_eq_true] at hb
 obtain⟨⟨hb1,hb2⟩,hb3⟩:=hb
 refine⟨DX f ρ,⟨hR.len,fun i e hi=>?_,⟨fun i o ho=>?_,fun i j a sh sh' h1 h2 e1 e2=>?_,fun i m e=>?_,fun i a sh e=>?_⟩⟩,⟨hFr.le,hFr.same,fun i a sh e=>?_,fun i m e=>?_⟩⟩
 · obtain⟨v,rfl⟩:=tF hb1 hi
   have:=cO hK (D1 hi)
   simp only[kvw,Option.bind_some] at this
   cases hl:lk st.K i with
   | none=>rw[hl] at this; cases this
   | some e2=>
    rw[hl] at this
    have hk:=hR.kv _ _ hl
    cases e2 with
    | av u=>
     simp only[kvw,Option.bind_some,Option.map_some,Option.some.injEq] at this
     obtain⟨w,h1,h2⟩:=hk
     exact⟨w,h1,rO this.symm h2⟩
    | lit b=>
     simp only[kvw,Option.bind_some,Option.map_some,Option.some.injEq] at this
     exact⟨_,hk,rO this.symm (VLe.s_refl (ρ:=ρ) _)⟩
    | cd g w u=>simp[kvw] at this
 · rcases hH.mem (D1 ho) with ⟨j,sz,rows,rows',h1,h2,h3,h4⟩ | h1
   · simp only at h1 h3
     subst h3
     rcases hR.hle.ob j _ h2 with ⟨a,sh,o',g1,g2,pre,mid,post,rfl,g3,g4⟩ | ⟨g1,sz2,g2⟩
     · refine .inl ⟨a,sh,_,by simp only[DX,h1]; exact g1,g2,pre,mid,post,rfl,g3,?_⟩
       rcases h4 with h4 | ⟨rfl,h4⟩
       · exact Wa h4 g4
       · exact h4.all2 g4
     · cases g2
       refine .inr ⟨by simp only[DX,h1]; exact g1,sz,?_⟩
       rcases h4 with h4 | ⟨rfl,h4⟩
       · cases rows' with
         | nil=>rfl
         | cons c cs=>
          simp only[UF] at h4
          split at h4
          · cases h4
          · cases h4
       · rfl
   · rcases h1 with ⟨h1,h2⟩ | ⟨j,R,tm,h1,h2,h3,h4⟩ | ⟨j,es,h1,h2,h3,h4⟩
     · exact .inr ⟨by simp only[DX,h1],h2⟩
     · simp only at h1 h3
       subst h3
       rcases hR.hle.ob j _ h2 with ⟨a,sh,o',g1,g2,g3,R',rfl,g4,g5,g6,g7⟩ | ⟨_,sz2,g2⟩
       · exact .inl ⟨a,sh,_,by simp only[DX,h1]; exact g1,g2,g3,R',rfl,g4,g5,rens_ok h4 g6,g7⟩
       · cases g2
     · simp only at h1 h3
       subst h3
       rcases hR.hle.ob j _ h2 with ⟨a,sh,o',g1,g2,g3,es',rfl,g4,g5⟩ | ⟨_,sz2,g2⟩
       · exact .inl ⟨a,sh,_,by simp only[DX,h1]; exact g1,g2,g3,es',rfl,g4,h4.all2 g5⟩
       · cases g2
 · have key:∀ i a sh,((hl H') i).isSome=true→DX f ρ i=some (.at a sh)→∃ p,lk f i=some (some p)∧(hl st.H p).isSome=true∧ρ p=some (.at a sh):=fun i a sh hi e=>by
    obtain⟨o,ho⟩:=Option.isSome_iff_exists.1 hi
    simp only[DX] at e
    rcases hH.mem (D1 ho) with ⟨p,sz,rows,rows',q1,q2,q3,q4⟩ | ⟨q1,q2⟩ | ⟨p,R,tm,q1,q2,q3,q4⟩ | ⟨p,es,q1,q2,q3,q4⟩
    · simp only at q1
      rw[q1] at e
      exact⟨p,q1,by simp only[hl,q2]; rfl,e⟩
    · simp only at q1
      rw[q1] at e
      cases e
    · simp only at q1
      rw[q1] at e
      exact⟨p,q1,by simp only[hl,q2]; rfl,e⟩
    · simp only at q1
      rw[q1] at e
      exact⟨p,q1,by simp only[hl,q2]; rfl,e⟩
   obtain⟨p,p1,p2,p3⟩:=key i a sh h1 e1
   obtain⟨q,q1,q2,q3⟩:=key j a sh' h2 e2
   have:=hR.hle.inj p q a sh sh' p2 q2 p3 q3
   subst this
   exact Vi hb2 i j p (Sy (D1 p1) h1) (Sy (D1 q1) h2)
 · simp only[DX] at e
   split at e
   · rename_i j hj; exact Lm hb3 hj
   · rename_i hj; exact Lm hb3 hj
   · cases e
 · simp only[DX] at e
   split at e
   · exact hR.hle.lt' _ _ _ e
   · cases e
   · cases e
 · simp only[DX] at e
   split at e
   · exact hFr.im _ _ _ e
   · cases e
   · cases e
 · simp only[DX,hF i m e]
   exact hFr.ext i m e
end
end Go.Vm
namespace Go.Vm
open Go
abbrev Str:=List UInt8
def idx (s:Str) (j:Int):Option Int:=if 0≤j then (s[j.toNat]?).map fun c=>(c.toNat:Int) else none
def ixl {α:Type} (l:List α) (j:Int):Option α:=if 0≤j then l[j.toNat]? else none
def E0 {α:Type} (l:List α) (i j:Int):Option (List α):=if 0≤i∧i≤j∧j≤l.length then some ((l.drop i.toNat).take (j.toNat - i.toNat)) else none
def app {α:Type} (b:Nat) (l m:List α):Option (List α):=if (l.length + m.length) * b≤140737488355328∧l.length + m.length≤9223372036854775807 then some (l ++ m) else none
def cat (a b:Str):Option Str:=if a.length + b.length≤9223372036854775807 then some (a ++ b) else none
def tob (s:Str):Option (List Int):=if s.length≤9223372036854775807 then some (s.map fun c=>(c.toNat:Int)) else none
def ofb (l:List Int):Str:=l.map fun n=>UInt8.ofNat n.toNat
abbrev cI (x:Int):List AV:=[iv x]
abbrev cB (x:Int):List AV:=[.s (.int .u8 x)]
abbrev cS (x:Str):List AV:=[bs x]
theorem gY (x:Int):QN (cB x):=L1 (cT _) W6
theorem BU (x:Str):QN (cS x):=L1 (cT _) W6
theorem Dg {α:Type} {R:List α} {i:Nat} {o:α} (h:R[i]? = some o):R.drop i=o :: R.drop (i + 1):=by
 obtain⟨hi,e⟩:=List.getElem?_eq_some_iff.1 h
 rw[List.drop_eq_getElem_cons hi,e]
section
variable {P:Program} {t:List AV} {h:AW} {n:Nat} {d:Option Tmp} {ty:TypeId} {gd:Option (Tmp × Bool)}
theorem AFL {s:Str} {j c:Int} (hc:idx s j=some c):0≤j∧j.toNat < s.length∧∃ h:j.toNat < s.length,c=(s[j.toNat].toNat:Int):=by
 unfold idx at hc
 split at hc
 · rename_i h0
   obtain⟨b,hb,e⟩:=Option.map_eq_some_iff.1 hc
   obtain⟨hlt,e2⟩:=List.getElem?_eq_some_iff.1 hb
   exact⟨h0,hlt,hlt,by rw[e2]; exact e.symm⟩
 · cases hc
theorem Bq {xt:TypeId} {x y:Operand} {s:Str} {kk:IntKind} {j c:Int} (hu:P.underlying xt=some .string) (hx:A0 t x=some (bs s)) (hy:A0 t y=some (.s (.int kk j))) (hc:idx s j=some c) :
 aop P (LO.oper ⟨d,.index xt x y,ty,gd⟩) t h n=some (.s (.int .u8 c),[]):=by
 obtain⟨h0,h1,h2,h3⟩:=AFL hc
 unfold aop
 simp only[LO.oper,hx,hy,hu,Option.bind_some,DQ]
 rw[dif_pos ⟨h0,by rw[We]; exact h1⟩,h3]
 rfl
theorem Rb {α:Type} {l:List α} {j:Int} {a:α} (hc:ixl l j=some a):0≤j∧j.toNat < l.length∧l[j.toNat]? = some a:=by
 unfold ixl at hc
 split at hc
 · rename_i h0
   obtain⟨hlt,e2⟩:=List.getElem?_eq_some_iff.1 hc
   exact⟨h0,hlt,hc⟩
 · cases hc
theorem EV {α:Type} {xt e:TypeId} {x y:Operand} {l:List α} {c:α→List AV} {sz:Nat} {kk:IntKind} {j:Int} {a:α} (hu:P.underlying xt=some (.slice e)) (hs:CQ P e=some sz) (hx:A0 t x=some (.fsl sz (l.map c))) (hy:A0 t y=some (.s (.int kk j))) (hc:ixl l j=some a) :
 aop P (LO.oper ⟨d,.indexAddr xt x y,ty,gd⟩) t h n=some (.fptr (c a) 0,[]):=by
 obtain⟨h0,h1,h2⟩:=Rb hc
 unfold aop
 simp only[LO.oper,hx,hy,Option.bind_some,DQ,DO,hu]
 rw[if_pos ⟨h0,hs⟩,List.getElem?_map,h2]
 rfl
theorem ADv {α:Type} {xt e:TypeId} {x y:Operand} {l:List α} {id off sz:Nat} {kk:IntKind} {j:Int} {a:α} (hu:P.underlying xt=some (.slice e)) (hs:CQ P e=some sz) (hx:A0 t x=some (.osl id off l.length sz)) (hy:A0 t y=some (.s (.int kk j))) (hc:ixl l j=some a) :
 aop P (LO.oper ⟨d,.indexAddr xt x y,ty,gd⟩) t h n=some (.ptr id (off + j.toNat) sz 0,[]):=by
 obtain⟨h0,h1,h2⟩:=Rb hc
 unfold aop
 simp only[LO.oper,hx,hy,Option.bind_some,DQ,DO,hu]
 rw[if_pos ⟨h0,by omega,hs⟩]
 rfl
theorem aJ {α:Type} {lt:TypeId} {x:Operand} {l:List α} {c:α→List AV} {id k sz off:Nat} {a:α} {v:AV} (hx:A0 t x=some (.ptr id k sz off)) (hh:h id=some (.rows sz (l.map c))) (ha:l[k]? = some a) (hp:Ho P lt (c a) off=some v) :
 aop P (LO.oper ⟨d,.load lt x,ty,gd⟩) t h n=some (v,[]):=by
 unfold aop
 simp only[LO.oper,hx,Kz,Kh,hh,if_true,List.getElem?_map,ha,Option.map_some,hp]
theorem AAc {α:Type} {lt:TypeId} {x y:Operand} {l:List α} {c:α→List AV} {id k sz off:Nat} {a a':α} {w:AV} {cs:List AV} (hx:A0 t x=some (.ptr id k sz off)) (hy:A0 t y=some w) (hcs:cellsOf w=some cs) (hs:CQ P lt=some cs.length) (hh:h id=some (.rows sz (l.map c))) (ha:l[k]? = some a) (hl:off + cs.length≤(c a).length) (hr:KG (c a) off cs=c a') :
 aop P (LO.oper ⟨d,.store lt x y,ty,gd⟩) t h n=some (.s undef,[(id,some (.rows sz ((l.set k a').map c)))]):=by
 unfold aop
 simp only[LO.oper,hx,hy,Gx,hcs,hh,List.getElem?_map,ha,Option.map_some]
 rw[if_pos ⟨trivial,hs⟩,if_pos hl,hr,List.map_set]
 rfl
theorem yA {α:Type} {l m:List α} {i j:Int} (hc:E0 l i j=some m):(0≤i∧i≤j∧j≤l.length)∧m=(l.drop i.toNat).take (j.toNat - i.toNat):=by
 unfold E0 at hc
 split at hc
 · rename_i h0; cases hc; exact⟨h0,rfl⟩
 · cases hc
def AER (t:List AV) (lo:Option Operand):Option Int:=(Eu t lo).bind TH
def AEJ (t:List AV) (n:Nat) (hi:Option Operand):Option Int:=(Eu t hi).bind (TG n)
theorem FP {xt:TypeId} {x:Operand} {lo hi:Option Operand} {s m:Str} {i j:Int} (hu:P.underlying xt=some .string) (hx:A0 t x=some (bs s)) (hlo:AER t lo=some i) (hhi:AEJ t s.length hi=some j) (hc:E0 s i j=some m) :
 aop P (LO.oper ⟨d,.slice xt x lo hi none,ty,gd⟩) t h n=some (bs m,[]):=by
 obtain⟨h0,rfl⟩:=yA hc
 unfold AER at hlo
 unfold AEJ at hhi
 unfold aop
 cases e1:Eu t lo with
 | none=>rw[e1] at hlo; cases hlo
 | some a=>cases e2:Eu t hi with
  | none=>rw[e2] at hhi; cases hhi
  | some b=>
   rw[e1] at hlo
   rw[e2] at hhi
   simp only[Option.bind_some] at hlo hhi
   simp only[LO.oper,hx,hu,Uj,e1,e2,Ea,hlo,lenOf,We,hhi,ED,AFE]
   rw[if_pos h0]
   rfl
theorem ACT {α:Type} {xt e:TypeId} {x:Operand} {lo hi:Option Operand} {l m:List α} {c:α→List AV} {sz:Nat} {i j:Int} (hu:P.underlying xt=some (.slice e)) (hs:CQ P e=some sz) (hx:A0 t x=some (.fsl sz (l.map c))) (hlo:AER t lo=some i) (hhi:AEJ t l.length hi=some j) (hc:E0 l i j=some m) :
 aop P (LO.oper ⟨d,.slice xt x lo hi none,ty,gd⟩) t h n=some (.fsl sz (m.map c),[]):=by
 obtain⟨h0,rfl⟩:=yA hc
 unfold AER at hlo
 unfold AEJ at hhi
 unfold aop
 cases e1:Eu t lo with
 | none=>rw[e1] at hlo; cases hlo
 | some a=>cases e2:Eu t hi with
  | none=>rw[e2] at hhi; cases hhi
  | some b=>
   rw[e1] at hlo
   rw[e2] at hhi
   simp only[Option.bind_some] at hlo hhi
   simp only[LO.oper,hx,hu,Uj,e1,e2,hs,if_true,Ea,hlo,lenOf,List.length_map,hhi,ED]
   rw[if_pos h0,List.map_take,List.map_drop]
   rfl
theorem AD3 {a b m:Str} (hc:cat a b=some m):a.length + b.length≤9223372036854775807∧m=a ++ b:=by
 unfold cat at hc
 split at hc
 · rename_i h0; cases hc; exact⟨h0,rfl⟩
 · cases hc
theorem AAa {xt yt:TypeId} {x y:Operand} {a b m:Str} (hx:A0 t x=some (bs a)) (hy:A0 t y=some (bs b)) (hc:cat a b=some m) :
 aop P (LO.oper ⟨d,.binOp .add xt x y yt,ty,gd⟩) t h n=some (bs m,[]):=by
 obtain⟨h0,rfl⟩:=AD3 hc
 have h1:BP t x=true:=by simp[BP,hx,Bc]
 have h2:BP t y=true:=by simp[BP,hy,Bc]
 have h3:A9 t x = .string ⟨a.toArray⟩:=by simp[A9,hx,Bc]
 have h4:A9 t y = .string ⟨b.toArray⟩:=by simp[A9,hy,Bc]
 unfold aop
 simp only[LO.oper,h1,h2,h3,h4,Bool.and_self,if_true,Ym,We]
 rw[if_pos h0,AE7]
theorem AA3 {s:Str} {l:List Int} (hc:tob s=some l):s.length≤9223372036854775807∧l=s.map fun c=>(c.toNat:Int):=by
 unfold tob at hc
 split at hc
 · rename_i h0; cases hc; exact⟨h0,rfl⟩
 · cases hc
theorem AEt {s:Str} {l:List Int} (hc:tob s=some l):l.length=s.length:=by
 obtain⟨_,rfl⟩:=AA3 hc
 simp
def u8T (P:Program) (e:TypeId):Bool:=match P.underlying e,P.info? e with
 | some (.int .u8),some i=>Nat.beq i.size 1
 | _,_=>false
theorem AAd {src dst e:TypeId} {st:TypeDesc} {x:Operand} {s:Str} {l:List Int} (h0:P.underlying src=some st) (hu:P.underlying dst=some (.slice e)) (he:u8T P e=true) (hx:A0 t x=some (bs s)) (hc:tob s=some l) :
 aop P (LO.oper ⟨d,.convert src dst x,ty,gd⟩) t h n=some (.osl n 0 l.length 1,[(n,some (.rows 1 (l.map cB)))]):=by
 rw[AEt hc]
 obtain⟨h1,rfl⟩:=AA3 hc
 unfold u8T at he
 split at he
 · rename_i i e1 e2
   unfold aop
   simp only[LO.oper,hx,h0,hu,e1,e2]
   rw[if_pos ⟨Df he,by rw[We]; exact h1⟩]
   simp only[CT,We,List.map_map]
   rfl
 · cases he
theorem YJ:∀ l:List Int,F4 (l.map cB)=some (ofb l)
 | []=>rfl
 | x :: l=>by
  simp only[List.map_cons,F4,YJ l,ofb]
def u8U (P:Program) (e:TypeId):Bool:=match P.underlying e with
 | some (.int .u8)=>true
 | _=>false
theorem lM {src dst e:TypeId} {x:Operand} {l:List Int} {id:Nat} (hu:P.underlying src=some (.slice e)) (hd:P.underlying dst=some .string) (he:u8U P e=true) (hx:A0 t x=some (.osl id 0 l.length 1)) (hh:h id=some (.rows 1 (l.map cB))) :
 aop P (LO.oper ⟨d,.convert src dst x,ty,gd⟩) t h n=some (bs (ofb l),[]):=by
 unfold u8U at he
 split at he
 · rename_i e1
   unfold aop
   simp only[LO.oper,hx,hu,hd,e1,Bn,if_true,hh,Nat.zero_add,List.length_map,Nat.le_refl,and_self,List.drop_zero]
   rw[show l.length=(l.map cB).length by simp,List.take_length]
   simp only[Option.bind_some,YJ]
 · cases he
theorem aK {α:Type} {b:Nat} {l m r:List α} (hc:app b l m=some r):((l.length + m.length) * b≤140737488355328∧l.length + m.length≤9223372036854775807)∧r=l ++ m:=by
 unfold app at hc
 split at hc
 · rename_i h0; cases hc; exact⟨h0,rfl⟩
 · cases hc
theorem ADy {α:Type} {b:Nat} {l m r:List α} (hc:app b l m=some r):r.length=l.length + m.length:=by
 rw[(aK hc).2,List.length_append]
def ACm (P:Program) (e:TypeId) (sz b:Nat):Bool:=match CQ P e,O0 P e,E1 P e with
 | some s,some c,some z=>Nat.beq s sz && Nat.beq c b && Nat.beq z.length sz && Nat.blt 0 sz
 | _,_,_=>false
theorem bP {e:TypeId} {sz b:Nat} (he:ACm P e sz b=true):CQ P e=some sz∧O0 P e=some b∧(∃ z,E1 P e=some z∧z.length=sz)∧0 < sz:=by
 unfold ACm at he
 split at he
 · rename_i s c z h1 h2 h3
   simp only[Bool.and_eq_true] at he
   obtain⟨⟨⟨a1,a2⟩,a3⟩,a4⟩:=he
   exact⟨by rw[h1,Df a1],by rw[h2,Df a2],⟨z,h3,Df a3⟩,by simpa using a4⟩
 · cases he
theorem nU {α:Type} {e:TypeId} {sz b:Nat} {x y:AV} {m r:List α} {c:α→List AV} (he:ACm P e sz b=true) (hx:x=AQ∨x = .esl) (hy:Bn h sz y=some (m.map c)) (hm:m≠[]) (hc:app b [] m=some r) :
 Br P h n e x y=some (.osl n 0 r.length sz,[(n,some (.rows sz (r.map c)))]):=by
 obtain⟨h1,h2,⟨z,h3,h4⟩,h5⟩:=bP he
 obtain⟨h6,rfl⟩:=aK hc
 unfold Br
 simp only[h1,h2,hy,h3,Option.bind_eq_bind,Option.bind_some]
 rw[if_neg (by omega),if_neg (by simpa using hm)]
 simp only[List.length_nil,Nat.zero_add] at h6
 rcases hx with rfl | rfl <;>
 · simp only[List.length_map,List.nil_append]
   rw[if_pos h6]
   rfl
theorem E5 {α:Type} {e:TypeId} {sz b id:Nat} {y:AV} {l m r:List α} {c:α→List AV} (he:ACm P e sz b=true) (hh:h id=some (.rows sz (l.map c))) (hy:Bn h sz y=some (m.map c)) (hm:m≠[]) (hc:app b l m=some r) :
 Br P h n e (.osl id 0 l.length sz) y=some (.osl n 0 r.length sz,[(id,none),(n,some (.rows sz (r.map c)))]):=by
 obtain⟨h1,h2,⟨z,h3,h4⟩,h5⟩:=bP he
 have hl:=ADy hc
 obtain⟨h6,rfl⟩:=aK hc
 have hml:0 < m.length:=List.length_pos_iff.2 hm
 unfold Br
 simp only[h1,h2,hy,h3,Option.bind_eq_bind,Option.bind_some]
 rw[if_neg (by omega),if_neg (by simpa using hm)]
 simp only[hh,List.length_map,Nat.zero_add,Nat.le_refl,and_self,if_true]
 rw[if_neg (by omega),if_pos h6]
 simp only[List.drop_zero,List.map_append,List.length_append]
 rw[show l.length=(l.map c).length by simp,List.take_length]
theorem LQ {tx ty2 e:TypeId} {td:TypeDesc} {x y:Operand} {u w:AV} {r:Res} (hx:A0 t x=some u) (hy:A0 t y=some w) (he:LF P tx=some e) (ht:P.underlying ty2=some td) (htd:(∃ q,td = .slice q)∨td = .string) (hr:Br P h n e u w=r) (hz:Mo P h n tx e u w=Br P h n e u w:=by first | exact if_neg (by decide) | kernel_rfl) :
 aop P (LO.oper ⟨d,.call ⟨.builtin .append,#[x,y],#[tx,ty2]⟩,ty,gd⟩) t h n=r:=by
 unfold aop
 simp only[LO.oper,hx,hy,he,ht]
 rcases htd with ⟨q,rfl⟩ | rfl
 · exact hz.trans hr
 · exact hr
theorem Oe {α:Type} {l:List α} {c:α→List AV} {id sz:Nat} (hh:h id=some (.rows sz (l.map c))):Bn h sz (.osl id 0 l.length sz)=some (l.map c):=by
 simp only[Bn,if_true,hh,Nat.zero_add,List.length_map,Nat.le_refl,and_self,List.drop_zero]
 rw[show l.length=(l.map c).length by simp,List.take_length]
end
section
variable {α β:Type} {E:Env} {N:Nat} {F:Fx} {lit:Bool} {st:CS} {Q:α→AX→St→Prop}
theorem A5 {R:List LO} {i:Nat} {o:LO} {mo:Option β} {f:β→Option α} {v:β→AV} {us:β→Ups} {st1:β→CS} (ho:R[i]? = some o) (hg:gOk st.K o.g=true) (hc:(O7 o.op || (lit && l9 o.op))=false) (hn:JZ o.op=true)
 (ha:∀ a,mo=some a→aop E.P o.oper (tl N st.K none) (hl st.H) st.n=some (v a,us a)) (hp:∀ a,FI N ⟨st.K,aH st.H (us a),st.n + kN o.op⟩ o.dst (.av (v a))=some (st1 a))
 (hk:∀ a,mo=some a→JR E N F lit (f a) (R.drop (i + 1)) (st1 a) Q):JR E N F lit (mo.bind f) (R.drop i) st Q:=fun s hs r hr=>by
 cases hm:mo with
 | none=>rw[hm] at hr; cases hr
 | some a=>
  rw[hm] at hr
  exact oO (Dg ho) hg hc hn (ha a hm) (hp a) (hk a hm) s hs r hr
theorem GW {R:List LO} {i:Nat} {o:LO} {m:Option α} {v:AV} {us:Ups} {st1:CS} (ho:R[i]? = some o) (hg:gOk st.K o.g=true) (hc:(O7 o.op || (lit && l9 o.op))=false) (hn:JZ o.op=true)
 (ha:aop E.P o.oper (tl N st.K none) (hl st.H) st.n=some (v,us)) (hp:FI N ⟨st.K,aH st.H us,st.n + kN o.op⟩ o.dst (.av v)=some st1)
 (hk:JR E N F lit m (R.drop (i + 1)) st1 Q):JR E N F lit m (R.drop i) st Q:=oO (Dg ho) hg hc hn ha hp hk
theorem Ad {R:List LO} {i:Nat} {m:Option α} (hi:R.drop i=[]) (h:JX N F m .normal st Q):JR E N F lit m (R.drop i) st Q:=by rw[hi]; exact AFN h
end
theorem BL (f:AV→Option (AV × Bool)):B4 f []=some ([],false):=rfl
theorem AR {f:AV→Option (AV × Bool)} {c v:AV} {cs vs:List AV} {a b:Bool} (h1:f c=some (v,a)) (h2:B4 f cs=some (vs,b)):B4 f (c :: cs)=some (v :: vs,a || b):=by
 simp only[B4,h1,h2]
def Frz (c:List AV):Prop:=∀ h k,∃ b,B4 (Cj h k) c=some (c,b)
theorem nC {α:Type} {c:α→List AV} (hc:∀ x,Frz (c x)) (h:AW) (k:Nat):∀ l:List α,M3 (Cj h k) (l.map c)=some (l.map c)
 | []=>rfl
 | x :: l=>by
  obtain⟨b,hb⟩:=hc x h k
  simp only[List.map_cons,M3,hb,nC hc h k l]
theorem EI {α:Type} {l:List α} {c:α→List AV} {h:AW} {k id sz:Nat} (hc:∀ x,Frz (c x)) (hh:h id=some (.rows sz (l.map c))):Cj h (k + 1) (.osl id 0 l.length sz)=some (.fsl sz (l.map c),true):=by
 simp only[Cj,Oe hh,nC hc,Option.map_some]
theorem AEq (h:AW) (k:Nat) (v:Value):Cj h k (.s v)=some (.s v,false):=by cases k <;> rfl
theorem AAh:Frz []:=fun h k=>⟨false,rfl⟩
theorem AAi {v:Value} {cs:List AV} (h:Frz cs):Frz (.s v :: cs):=fun h' k=>by
 obtain⟨b,hb⟩:=h h' k
 exact⟨_,AR (AEq h' k v) hb⟩
theorem oD (x:Str):Frz (cS x):=AAi AAh
end Go.Vm
namespace Go.Vm
open Go
def FLe (a b:AV):Prop:=∀ ρ w,VLe ρ b w→VLe ρ a w
theorem AP (a:AV):FLe a a:=fun _ _ h=>h
theorem HH (sz:Nat):FLe (.fsl sz []) AQ:=fun _ w h=>VLe.fsl_iff.2 (.inr ⟨rfl,.inl h.s_inv⟩)
theorem RL {ρ:Rn}:∀ {as bs ws:List AV},AI FLe as bs→AI (VLe ρ) bs ws→AI (VLe ρ) as ws
 | [],[],[],_,_=>trivial
 | a :: as,b :: bs,w :: ws,h,k=>⟨h.1 _ _ k.1,RL h.2 k.2⟩
 | [],_ :: _,_,h,_=>h.elim
 | _ :: _,[],_,h,_=>h.elim
 | [],[],_ :: _,_,k=>k.elim
 | _ :: _,_ :: _,[],_,k=>k.elim
theorem LT {as bs:List AV} (h:AI FLe as bs):FLe (.agg as) (.agg bs):=fun ρ w hw=>by
 obtain⟨ds,rfl,h2⟩:=VLe.agg_iff.1 hw
 exact VLe.agg_iff.2 ⟨_,rfl,RL h h2⟩
theorem O4 {as bs:List AV} (h:AI FLe as bs):FLe (.tup as) (.tup bs):=fun ρ w hw=>by
 obtain⟨ds,rfl,h2⟩:=VLe.tup_iff.1 hw
 exact VLe.tup_iff.2 ⟨_,rfl,RL h h2⟩
theorem AL {α β:Type} {R:α→β→Prop} {a:α} {b:β} {as:List α} {bs:List β} (h:R a b) (k:AI R as bs):AI R (a :: as) (b :: bs):=⟨h,k⟩
theorem Ax {α β:Type} {R:α→β→Prop}:AI R ([]:List α) ([]:List β):=trivial
theorem AD {α:Type} {P:α→Prop}:QU P ([]:List α):=trivial
theorem gD (as:List AV):AI FLe as as:=AI.refl AP as
theorem Jv {h:AW} {k:Nat} {cs ds:List AV} {b:Bool} (hs:B4 (Cj h k) cs=some (ds,b)):Cj h (k + 1) (.tup cs)=some (.tup ds,b):=by
 simp only[Cj,hs,Option.map_some]
theorem Gw {h:AW} {k:Nat} {cs ds:List AV} {b:Bool} (hs:B4 (Cj h k) cs=some (ds,b)):Cj h (k + 1) (.agg cs)=some (.agg ds,b):=by
 simp only[Cj,hs,Option.map_some]
section
variable {α β:Type} {E:Env} {N:Nat} {F:Fx} {lit:Bool} {st:CS} {m:Option α} {Q:α→AX→St→Prop} {x:AX} {L:LC}
theorem Hk {rs:List ResultVar} {er:α→AV} {r:α} {v u:AV} {q:Bool} (hx:x = .normal∨x = .ret) (hr:Ce E.P rs (tl N st.K none) (hl st.H)=some v) (hs:Cj (hl st.H) depth v=some (u,q)) (hu:FLe (er r) u):JX N F (some r) x st (tD E rs er):=fun s hs2 r2 hr2=>by
 have:=AFP (F:=F) (er:=fun _:α=>u) (r:=r) hx hr hs s hs2 r2 hr2
 cases hr2
 obtain⟨h1,v,h2,w,q,h3,h4⟩:=this
 exact⟨h1,v,h2,w,q,h3,hu _ _ h4⟩
theorem By {R:List LO} {i:Nat} {d:Option Tmp} {g:FuncId} {args:Array Operand} {ats:Array TypeId} {ty:TypeId} {gd:Option (Tmp × Bool)} (ho:R[i]? = some ⟨d,.call ⟨.value (.func g),args,ats⟩,ty,gd⟩) (hg:gOk st.K gd=true)
 (hp:E.prim g=none) (hpf:E.pf g=true) {vs vs0 vsc:List AV} {b:Bool} (hv:D5 (tl N st.K none) args.toList=some vs) (hs:B4 (Cj (hl st.H) depth) vs=some (vs0,b)) (hle:AI FLe vsc vs0)
 {m1:Option β} {er:β→AV} {f:β→Option α} {st1:β→CS} (hc:Ct E g vsc m1 er) (hfl:∀ r,(b && !TU (er r))=false) (hput:∀ r,FI N st d (.av (er r))=some (st1 r))
 (hk:∀ r,m1=some r→JR E N F lit (f r) (R.drop (i + 1)) (st1 r) Q):JR E N F lit (m1.bind f) (R.drop i) st Q:=
 AEN (Dg ho) hg hp hpf hv hs (fun r hr vs' hv'=>hc r hr vs' (RL hle hv')) hfl hput hk
theorem mD {R:List LO} {i:Nat} {d:Option Tmp} {g:FuncId} {args:Array Operand} {ats:Array TypeId} {ty:TypeId} {gd:Option (Tmp × Bool)} (ho:R[i]? = some ⟨d,.call ⟨.value (.func g),args,ats⟩,ty,gd⟩) (hg:gOk st.K gd=true)
 {vs:List AV} (hv:D5 (tl N st.K none) args.toList=some vs) (ha:ACR vs=true)
 {m1:Option β} {er:β→AV} {f:β→Option α} {st1:β→CS} (hc:Ct E g vs m1 er) (hput:∀ r,FI N st d (.av (er r))=some (st1 r))
 (hk:∀ r,m1=some r→JR E N F lit (f r) (R.drop (i + 1)) (st1 r) Q):JR E N F lit (m1.bind f) (R.drop i) st Q:=
 AC7 (Dg ho) hg hv ha hc hput hk
abbrev w64 (x:Int):Int:=IntKind.wrap .i64 x
theorem M6 {R:List LO} {i:Nat} {o:LO} {v:AV} {us:Ups} {st1:CS} (ks hs:List Nat) (ho:R[i]? = some o) (hg:gOk st.K o.g=true) (hc:(O7 o.op || (lit && l9 o.op))=false) (hn:JZ o.op=true)
 (ha:aop E.P o.oper (tl N st.K none) (hl st.H) st.n=some (v,us)) (hp:(FI N ⟨st.K,aH st.H us,st.n + kN o.op⟩ o.dst (.av v)).map (T8 ks hs)=some st1)
 (hk:JR E N F lit m (R.drop (i + 1)) st1 Q):JR E N F lit m (R.drop i) st Q:=by
 obtain⟨st2,e1,e2⟩:=Option.map_eq_some_iff.1 hp
 subst e2
 refine GW ho hg hc hn ha e1 fun s hs r hr=>hk s (sY s hs) r hr
theorem Ns {α:Type} {P:Program} {t:List AV} {h:AW} {n:Nat} {d:Option Tmp} {ty:TypeId} {gd:Option (Tmp × Bool)} {xt e:TypeId} {x y:Operand} {l:List α} {id sz:Nat} {kk:IntKind} {j:Int} {a:α} (hu:P.underlying xt=some (.slice e)) (hs:CQ P e=some sz) (hx:A0 t x=some (.osl id 0 l.length sz)) (hy:A0 t y=some (.s (.int kk j))) (hc:ixl l j=some a) :
 aop P (LO.oper ⟨d,.indexAddr xt x y,ty,gd⟩) t h n=some (.ptr id j.toNat sz 0,[]):=by
 have:=ADv (h:=h) (n:=n) (d:=d) (ty:=ty) (gd:=gd) hu hs hx hy hc
 rw[Nat.zero_add] at this
 exact this
theorem Wb {h:AW} {sz:Nat} {rows:List (List AV)}:Bn h sz (.fsl sz rows)=some rows:=by simp[Bn]
end
end Go.Vm
namespace Go.Vm
open Go
section
variable {α β:Type} {E:Env} {N:Nat} {F:Fx} {lit:Bool} {st:CS} {m:Option α} {Q:α→AX→St→Prop} {x:AX} {L:LC}
theorem B7 {R:List LO} {i:Nat} {d:Option Tmp} {fo:Operand} {g:FuncId} {args:Array Operand} {ats:Array TypeId} {ty:TypeId} {gd:Option (Tmp × Bool)} (ho:R[i]? = some ⟨d,.call ⟨.value fo,args,ats⟩,ty,gd⟩) (hg:gOk st.K gd=true)
 (hp:E.prim g=none) (hpf:E.pf g=true) {caps avs vs vs0 vsc:List AV} {b:Bool} (hf:A0 (tl N st.K none) fo=some (.fn g caps)) (hv:D5 (tl N st.K none) args.toList=some avs) (hvs:avs ++ caps=vs) (hs:B4 (Cj (hl st.H) depth) vs=some (vs0,b)) (hle:AI FLe vsc vs0)
 {m1:Option β} {er:β→AV} {f:β→Option α} {st1:β→CS} (hc:Ct E g vsc m1 er) (hfl:∀ r,(b && !TU (er r))=false) (hput:∀ r,FI N st d (.av (er r))=some (st1 r))
 (hk:∀ r,m1=some r→JR E N F lit (f r) (R.drop (i + 1)) (st1 r) Q):JR E N F lit (m1.bind f) (R.drop i) st Q:=fun s hs2 r2 hr2=>by
 cases hm:m1 with
 | none=>rw[hm] at hr2; cases hr2
 | some r=>
  rw[hm] at hr2
  subst hvs
  obtain⟨ρ,hR,hF⟩:=hs2
  have ht:=LN hR.len hR.kv (a:=none) (fun q e=>by cases e)
  obtain⟨avs',h1,h2⟩:=Jb ht hv
  obtain⟨fv,h9,h10⟩:=BZ ht hf
  obtain⟨caps',rfl,h11⟩:=VLe.fn_iff.1 h10
  obtain⟨w,b',h3,h4,h5⟩:=Fy (f':=CC s.h depth) (fun x x' u b e hx=>Sk hR.hle e hx) hs (h2.append h11)
  obtain⟨u,h6,h7⟩:=hc r hm w (RL hle h4) s.h s.n
  have h8:C1 E (FW E) g (avs' ++ caps') s.h s.n=some (u,s.h,s.n):=by
   refine ADT hp hpf h3 (Ju (f2:=CC s.h depth) (fun _ _ _ e=>nE e) h3) h6 ?_
   have hf:=hfl r
   cases b' with
   | false=>rfl
   | true=>
    have hb:=h5 rfl
    subst hb
    simp only[Bool.true_and,Bool.not_eq_false'] at hf
    rw[t6 hf h7]
    rfl
  rw[Dg ho]
  refine⟨⟨C3 s.t d u,s.h,s.n⟩,?_,hk r hm ⟨C3 s.t d u,s.h,s.n⟩ ⟨ρ,?_,hF⟩ r2 hr2⟩
  · rw[Lx (o:=⟨d,.call ⟨.value fo,args,ats⟩,ty,gd⟩) hR hg]
    unfold stepG
    simp only[DI,h9,h1,h8]
  · exact Eo (hput r) (fun _ _ e=>e) hR.len hR.kv hR.hle (fun i hi=>Hm (by rw[hR.len]; exact FA (hput r) hi) (h7.ext Vq))
theorem y9 {l:List LO} {g:Nat} {b:Bool} (hl:lk st.K g=some (.av (bv b))) (h:JR E N F lit m l (W2 st g b) Q):JR E N F lit m l st Q:=fun s hs r hr=>h s (bE hs (.inl hl)) r hr
end
end Go.Vm
namespace Go.Vm
open Go
def oM (f:List (Nat × Option Nat)):Nat→Bool
 | 0=>true
 | k + 1=>(match lk f k with
  | some (some j)=>Nat.beq j k
  | _=>false) && oM f k
theorem l7 {f:List (Nat × Option Nat)}:∀ {k i:Nat},oM f k=true→i < k→lk f i=some (some i)
 | 0,i,_,h=>by omega
 | k + 1,i,h,hi=>by
  simp only[oM,Bool.and_eq_true] at h
  rcases Nat.lt_or_ge i k with hlt | hge
  · exact l7 h.2 hlt
  · have:i=k:=by omega
    subst this
    have h1:=h.1
    split at h1
    · rename_i j e
      rw[e,Df h1]
    · cases h1
theorem An {F:Fx} {f:List (Nat × Option Nat)} {k:Nat} (h:∀ i m,F.ρ i=some m→i < k) (hb:oM f k=true):ADr F f:=fun i m e=>l7 hb (h i m e)
theorem J9.ext {ρ ρ':Rn} (hx:Ext ρ ρ') {t:List AV} {K:List (Nat × KV)} (h:J9 ρ t K):J9 ρ' t K:=fun i e hi=>by
 have hk:=h i e hi
 cases e with
 | av v=>obtain⟨u,h1,h2⟩:=hk; exact⟨u,h1,h2.ext hx⟩
 | lit b=>exact hk
 | cd g w v=>
  rcases hk with ⟨b,h1,h2,h3⟩ | hk
  · refine .inl ⟨b,h1,fun e=>?_,h3⟩
    obtain⟨u,h4,h5⟩:=h2 e
    exact⟨u,h4,h5.ext hx⟩
  · exact .inr hk
theorem oK (H:List (Nat × C0)) (i:Nat) (o:C0):hl ((i,o) :: H)=(hl H).put i (some o):=by
 funext j
 simp only[hl,lk,AW.put]
 cases h:Nat.beq i j with
 | true=>rw[cond_true,if_pos (Df h).symm]
 | false=>
  have:=RQ h
  rw[cond_false,if_neg (by omega)]
theorem y7 (H:List (Nat × C0)) (i:Nat):hl (rmv i H)=(hl H).put i none:=by
 funext j
 simp only[hl,cF,AW.put]
theorem AAx (h:AW) (i:Nat) (a b:Option C0):(h.put i a).put i b=h.put i b:=by
 funext j
 simp only[AW.put]
 split <;> rfl
theorem HLe.drop2 {ρ:Rn} {h h':AW} {n n' l a sh:Nat} (H:HLe ρ h n h' n') (hl:(h l).isSome=true) (hm:ρ l=some (.at a sh)):HLe ρ (h.put l none) n (h'.put a none) n':=by
 refine⟨fun i p hp=>?_,(H.drop l).inj,H.lt,H.lt'⟩
 by_cases e:i=l
 · rw[e,AW.put_same] at hp; cases hp
 · rw[AW.put_other _ e] at hp
   rcases H.ob i p hp with ⟨b,s,p',h1,h2,h3⟩ | h1
   · refine .inl ⟨b,s,p',h1,?_,h3⟩
     rw[AW.put_other]
     · exact h2
     · rintro rfl
       exact e (H.inj i l b s sh (by rw[hp]; rfl) hl h1 hm)
   · exact .inr h1
def nR (F:Fx) (l:Nat) (F':Fx):Prop:=(∃ a,F'.ρ l=some (.at a 0)∧F.n≤a)∧Fr F.ρ F.h F.n F'.ρ F'.h F'.n∧∀ i m,F'.ρ i=some m→i < l + 1
section
variable {α β:Type} {E:Env} {N Ng:Nat} {F F':Fx} {lit:Bool} {st:CS} {m:Option α} {Q:α→AX→St→Prop} {x:AX} {L:LC}
def AD0:Option Code→Option AX
 | none=>some .normal
 | some .ret=>some .ret
 | some (.exit id)=>some (.exit id)
 | some (.goto l)=>some (.goto l)
 | _=>none
def AFf (N:Nat) (F':Fx) (l:Nat) (K:List (Nat × KV)) (Q:α→AX→St→Prop):α→AX→St→Prop:=fun r x s=>
 (x = .normal∨x = .ret)∧∃ a R ax,F'.ρ l=some (.at a 0)∧s.h a=some (.loop R)∧R.state ≠ .busy∧AD0 R.pending=some ax∧∀ t,t.length=N→J9 F'.ρ t K→Q r ax ⟨t,s.h.put a none,s.n⟩
theorem AC5 {fo:Operand} {ps:List Tmp} {asg body:Code} {g:FuncId} {caps:List AV} (hf:A0 (tl N st.K none) fo=some (.fn g caps)) (kg:Bf E g Ng [] L) (hlen:caps.length + 1≤Ng)
 (h:∀ F':Fx,nR F st.n F'→JC E Ng F' m L ⟨RP 0 (.yld st.n :: caps),(st.n,.loop { state:=.ready,pending:=none,tmps:=tl N st.K none,params:=ps,assign:=asg,body:=body }) :: st.H,st.n + 1⟩ (AFf N F' st.n st.K Q)):JC E N F m (.rng fo ps asg body) st Q:=fun s ⟨ρ,hR,hFr⟩ r hr=>by
 have ht:=LN hR.len hR.kv (a:=none) (fun q e=>by cases e)
 obtain⟨fv,h1,h2⟩:=BZ ht hf
 obtain⟨caps',rfl,h3⟩:=VLe.fn_iff.1 h2
 have ho:OLe ρ 0 (.loop { state:=.ready,pending:=none,tmps:=tl N st.K none,params:=ps,assign:=asg,body:=body }) (.loop { state:=.ready,pending:=none,tmps:=s.t,params:=ps,assign:=asg,body:=body }):=⟨rfl,_,rfl,rfl,rfl,ht,rfl,rfl,rfl⟩
 obtain⟨hN1,hN2⟩:=hR.hle.new ho
 generalize hlo:(C0.loop { state:=.ready,pending:=none,tmps:=s.t,params:=ps,assign:=asg,body:=body })=lo at hN1 hN2
 have hctx:nR F st.n ⟨ρ.put st.n (.at s.n 0),s.h.put s.n (some lo),s.n + 1⟩:=⟨⟨s.n,Rn.put_same _ _ _,hFr.le⟩,hFr.trans hN2,fun i m e=>hN1.lt i m e⟩
 obtain⟨fn,e1,e2,e3,e4,e5⟩:=kg.ex
 have hat:At Ng ⟨ρ.put st.n (.at s.n 0),s.h.put s.n (some lo),s.n + 1⟩ ⟨RP 0 (.yld st.n :: caps),(st.n,.loop { state:=.ready,pending:=none,tmps:=tl N st.K none,params:=ps,assign:=asg,body:=body }) :: st.H,st.n + 1⟩ ⟨Ss fn (.yld s.n :: caps'),s.h.put s.n (some lo),s.n + 1⟩:=by
  refine⟨ρ.put st.n (.at s.n 0),⟨?_,fun i e hi=>?_,?_⟩,Fr.refl _ _ _⟩
  · refine ACD e4 ?_
    have:=h3.length
    simp only[List.length_cons]
    omega
  · obtain⟨v,k,rfl,rfl,hv⟩:=Vn hi
    have hall:AI (VLe (ρ.put st.n (.at s.n 0))) (.yld st.n :: caps) (.yld s.n :: caps'):=⟨by simp only[VLe]; exact⟨s.n,0,Rn.put_same _ _ _,rfl⟩,h3.ext hN2.ext⟩
    obtain⟨v',h4,h5⟩:=hall.get hv
    exact⟨v',by rw[Nat.zero_add]; exact ACC h4,h5⟩
  · show HLe _ (hl _) _ _ _
    rw[oK]
    exact hN1
 have hw:=h _ hctx _ hat r hr
 obtain⟨v,h2',n2',hc,a,R,ax,ha,hra,hst,hax,hq⟩:=Wq (Q:=fun v h n=>∃ a R ax,(ρ.put st.n (.at s.n 0)) st.n=some (.at a 0)∧h a=some (.loop R)∧R.state ≠ .busy∧AD0 R.pending=some ax∧∀ t,t.length=N→J9 (ρ.put st.n (.at s.n 0)) t st.K→Q r ax ⟨t,h.put a none,n⟩) kg.primM e1 e2 e3 (AEx hw (by
  rintro x s2 ⟨hx,a,R,ax,q1,q2,q3,q4,q5⟩
  exact⟨hx,.tup [],by rw[e5]; rfl,a,R,ax,q1,q2,q3,q4,q5⟩))
 rw[Rn.put_same] at ha
 cases ha
 refine⟨g,caps',v,h2',n2',R,h1,?_,hra,hst,?_⟩
 · rw[hlo]; exact hc
 · have hq':=hq s.t hR.len (J9.ext hN2.ext hR.kv)
   cases hp:R.pending with
   | none=>rw[hp] at hax; cases hax; exact hq'
   | some c=>
    rw[hp] at hax
    cases c <;> simp only[AD0] at hax <;> first | (cases hax; exact hq') | cases hax
theorem WI {K:List (Nat × KV)} {l:Nat} {R:ACL} {ax:AX} (hc:nR F l F') (hx:x = .normal∨x = .ret) (hlp:lk st.H l=some (.loop R)) (hs:R.state ≠ .busy) (hax:AD0 R.pending=some ax)
 (h:JX N F m ax ⟨K,rmv l st.H,st.n⟩ Q):JX Ng F' m x st (AFf N F' l K Q):=fun s ⟨ρ,hR,hFr⟩ r hr=>by
 obtain⟨⟨a,ha,hge⟩,hF,hlt⟩:=hc
 have hm:=hFr.ext _ _ ha
 rcases hR.hle.ob l _ hlp with ⟨a2,sh,o',g1,g2,g3,R',rfl,g4,g5,g6,g7⟩ | ⟨_,sz,g2⟩
 · rw[hm] at g1
   cases g1
   refine⟨hx,a,R',ax,ha,g2,by rw[g4]; exact hs,by rw[g5]; exact hax,fun t ht hK=>?_⟩
   refine h ⟨t,s.h.put a none,s.n⟩ ⟨ρ,⟨ht,J9.ext hFr.ext hK,?_⟩,?_⟩ r hr
   · show HLe ρ (hl (rmv l st.H)) _ _ _
     rw[y7]
     exact hR.hle.drop2 (by show (lk st.H l).isSome=true; rw[hlp]; rfl) hm
   · have:=hF.trans hFr
     refine⟨this.le,fun j hj hne=>?_,this.im,this.ext⟩
     show (s.h.put a none) j=F.h j
     rw[AW.put_other _ (by omega)]
     exact this.same j hj hne
 · cases g2
def ADf:List (Nat × KV)→List Tmp→List AV→List (Nat × KV)
 | K,p :: ps,v :: vs=>ADf (AEp K p (.av v)) ps vs
 | K,_,_=>K
def lL (N:Nat):List Tmp→Bool
 | []=>true
 | p :: ps=>Nat.blt p N && lL N ps
def ABk:List (Nat × KV)→Bool
 | []=>true
 | (_,.cd ..) :: _=>false
 | _ :: l=>ABk l
theorem AAo:∀ {K:List (Nat × KV)},ABk K=true→∀ {i e},lk K i=some e→∀ g w v,e ≠ .cd g w v
 | [],_,i,e,h,_,_,_=>by simp[lk] at h
 | (k,e0) :: l,hn,i,e,h,g,w,v=>by
  simp only[lk] at h
  cases h2:Nat.beq k i with
  | true=>
   rw[h2] at h
   cases h
   rintro rfl
   simp[ABk] at hn
  | false=>
   rw[h2] at h
   refine AAo (K:=l) ?_ h g w v
   cases e0 with
   | cd _ _ _=>simp[ABk] at hn
   | _=>exact hn
theorem ADC {ρ:Rn} {t:List AV} {K:List (Nat × KV)} (hn:ABk K=true) (ht:t.length=N) (h:AI (VLe ρ) (tl N K none) t) (hk:∀ i e,lk K i=some e→i < N):J9 ρ t K:=fun i e hi=>by
 have hlt:=hk i e hi
 have h1:(tl N K none)[i]? = some (vw K none i):=by rw[tl,sR _ _ _ _ hlt,Nat.zero_add]
 obtain⟨w,h2,h3⟩:=h.get h1
 unfold vw at h3
 rw[hi] at h3
 cases e with
 | av v=>exact⟨w,h2,h3⟩
 | lit b=>show t[i]? = some (bv b); rw[h2,h3.s_inv]
 | cd g w v=>exact absurd rfl (AAo hn hi g w v)
theorem b7 {ρ:Rn}:∀ {ps:List Tmp} {vs ws t:List AV} {K:List (Nat × KV)},t.length=N→lL N ps=true→J9 ρ t K→AI (VLe ρ) vs ws→(Nf t ps ws).length=N∧J9 ρ (Nf t ps ws) (ADf K ps vs)
 | [],vs,ws,t,K,hl,_,hK,_=>by cases vs <;> cases ws <;> exact⟨hl,hK⟩
 | p :: ps,[],[],t,K,hl,_,hK,_=>⟨hl,hK⟩
 | p :: ps,v :: vs,w :: ws,t,K,hl,hp,hK,hv=>by
  simp only[lL,Bool.and_eq_true] at hp
  have hp1:p < t.length:=by rw[hl]; simpa using hp.1
  exact b7 (t:=t.set p w) (by simpa using hl) hp.2 (mF (fun _ _ e=>e) hK hp1 (Hm hp1 hv.1)) hv.2
 | _ :: _,[],_ :: _,_,_,_,_,_,hv=>hv.elim
 | _ :: _,_ :: _,[],_,_,_,_,_,hv=>hv.elim
def isN:AX→Bool
 | .normal=>true
 | _=>false
def XB:AX→Option Code
 | .normal=>none
 | .ret=>some .ret
 | .exit id=>some (.exit id)
 | .goto t=>some (.goto t)
def AFe (E:Env) (F2:Fx) (l:Nat) (Lb:LC) (Q2:α→AX→St→Prop):α→AX→St→Prop:=fun r x s=>
 x = .normal∧∃ a R,F2.ρ l=some (.at a 0)∧s.h a=some (.loop R)∧R.state = .ready∧wp E Lb ⟨s.t,s.h.put a (some (.loop { R with state:=.busy })),s.n⟩ (Q2 r)
def ACQ (F2:Fx) (l k:Nat):Prop:=(∃ a,F2.ρ l=some (.at a 0))∧∀ i m,F2.ρ i=some m→i < k
theorem zB {F2:Fx} {l k:Nat} {Lb:LC} {p:Option Code} {tm:List AV} {ps:List Tmp} {asg body:Code} (hF:ACQ F2 l k) (hlp:lk st.H l=some (.loop { state:=.ready,pending:=p,tmps:=tm,params:=ps,assign:=asg,body:=body }))
 (h:JC E N F2 m Lb ⟨st.K,(l,.loop { state:=.busy,pending:=p,tmps:=tm,params:=ps,assign:=asg,body:=body }) :: rmv l st.H,st.n⟩ Q):JX N F2 m .normal st (AFe E F2 l Lb Q):=fun s ⟨ρ,hR,hFr⟩ r hr=>by
 obtain⟨⟨a,ha⟩,_⟩:=hF
 have hm:=hFr.ext _ _ ha
 rcases hR.hle.ob l _ hlp with ⟨a2,sh,o',g1,g2,g3,R',rfl,g4,g5,g6,g7⟩ | ⟨_,sz,g2⟩
 · rw[hm] at g1
   cases g1
   refine⟨rfl,a,R',ha,g2,by rw[g4],?_⟩
   have hs:lk st.H l=some (.loop { state:=.ready,pending:=p,tmps:=tm,params:=ps,assign:=asg,body:=body }):=hlp
   obtain⟨k1,k2⟩:=hR.hle.set (show hl st.H l=_ from hs) hm (o2:=.loop { state:=.busy,pending:=p,tmps:=tm,params:=ps,assign:=asg,body:=body }) (o2':=.loop { R' with state:=.busy }) ⟨rfl,_,rfl,rfl,g5,g6,g7⟩
   refine h ⟨s.t,s.h.put a (some (.loop { R' with state:=.busy })),s.n⟩ ⟨ρ,⟨hR.len,hR.kv,?_⟩,hFr.trans k2⟩ r hr
   show HLe ρ (hl _) _ _ _
   rw[oK,y7,AAx]
   exact k1
 · cases g2
theorem b6 {R:List LO} {i l Nc:Nat} {d:Option Tmp} {t:Tmp} {args:Array Operand} {ats:Array TypeId} {ty:TypeId} {gd:Option (Tmp × Bool)} {Kc:List (Nat × KV)} {ps:List Tmp} {asg body:Code} {La Lb:LC} {vs:List AV} {m1:Option β} {f:β→Option α} (stm:β→CS) (axm:β→AX) (ks hs:List Nat) {after:β→CS}
 (ho:R[i]? = some ⟨d,.call ⟨.value (.tmp t),args,ats⟩,ty,gd⟩) (hg:gOk st.K gd=true) (hLa:GX E asg=some La) (hLb:GX E body=some Lb)
 (ht:lk st.K t=some (.av (.yld l))) (hlp:lk st.H l=some (.loop { state:=.ready,pending:=none,tmps:=tl Nc Kc none,params:=ps,assign:=asg,body:=body }))
 (hF:ACQ F l st.n) (hKc:(ABk Kc && lL Nc ps && lL Nc (Kc.map (·.1)))=true) (hv:D5 (tl N st.K none) args.toList=some vs) (hlen:vs.length=ps.length)
 (hb:∀ F2:Fx,ACQ F2 l st.n→JC E Nc F2 m1 La ⟨ADf Kc ps vs,st.H,st.n⟩ (AFe E F2 l Lb (QMx Nc F2 stm axm)))
 (hbusy:∀ y,∃ p,lk (stm y).H l=some (.loop { state:=.busy,pending:=p,tmps:=tl Nc Kc none,params:=ps,assign:=asg,body:=body }))
 (haf:∀ y,(FI N ⟨st.K,(l,.loop { state:=cond (isN (axm y)) .ready .done,pending:=XB (axm y),tmps:=tl Nc Kc none,params:=ps,assign:=asg,body:=body }) :: rmv l (stm y).H,(stm y).n⟩ d (.av (bv (isN (axm y))))).map (T8 ks hs)=some (after y))
 (hk:∀ y,JR E N F lit (f y) (R.drop (i + 1)) (after y) Q):JR E N F lit (m1.bind f) (R.drop i) st Q:=fun s ⟨ρ,hR,hFr⟩ r hr=>by
 cases hm:m1 with
 | none=>rw[hm] at hr; cases hr
 | some y=>
  rw[hm] at hr
  simp only[Bool.and_eq_true] at hKc
  obtain⟨⟨hK1,hK2⟩,hK3⟩:=hKc
  obtain⟨⟨a,ha⟩,hlt⟩:=hF
  have hma:=hFr.ext _ _ ha
  obtain⟨vs',h1,h2⟩:=Jb (LN hR.len hR.kv (a:=none) (fun q e=>by cases e)) hv
  obtain⟨fv,h3,h4⟩:=hR.kv _ _ ht
  have h4':=h4
  simp only[VLe] at h4'
  obtain⟨a2,sh,e1,rfl⟩:=h4'
  rw[hma] at e1
  cases e1
  rcases hR.hle.ob l _ hlp with ⟨a2,sh,o',g1,g2,g3,R',rfl,g4,g5,g6,g7,g8,g9⟩ | ⟨_,sz,g2⟩
  · rw[hma] at g1
    cases g1
    simp only at g4 g5 g6 g7 g8 g9
    have hRl:R'.tmps.length=Nc:=by have:=g6.length; rw[this,tl,sS]
    have hkl:∀ i e,lk Kc i=some e→i < Nc:=fun i e hi=>by
     have hm2:i∈Kc.map (·.1):=List.mem_map.2 ⟨_,D1 hi,rfl⟩
     clear hi
     generalize Kc.map (·.1)=ks at hm2 hK3
     induction ks with
     | nil=>simp at hm2
     | cons q ks ih=>
      simp only[lL,Bool.and_eq_true] at hK3
      rcases List.mem_cons.1 hm2 with rfl | hm2
      · simpa using hK3.1
      · exact ih hm2 hK3.2
    have hKn:J9 ρ R'.tmps Kc:=ADC hK1 hRl g6 hkl
    obtain⟨hS1,hS2⟩:=b7 hRl hK2 hKn h2
    have hctx2:ACQ ⟨ρ,s.h,s.n⟩ l st.n:=⟨⟨a,hma⟩,fun i m e=>hR.hle.lt i m e⟩
    have hw:=hb ⟨ρ,s.h,s.n⟩ hctx2 ⟨Nf R'.tmps ps vs',s.h,s.n⟩ ⟨ρ,⟨hS1,hS2,hR.hle⟩,Fr.refl _ _ _⟩ y hm
    obtain⟨x1,s1,c1,hx1,a3,R1,e3,e4,e5,hw2⟩:=lP hLa hw
    have e3':some (Im.at a 0)=some (Im.at a3 0):=hma.symm.trans e3
    cases e3'
    subst hx1
    obtain⟨x2,s2,c2,hx2,ρ2,hR2,hF2⟩:=lP hLb hw2
    subst hx2
    obtain⟨pd,hbu⟩:=hbusy y
    have hma2:=hF2.ext _ _ hma
    rcases hR2.hle.ob l _ hbu with ⟨a4,sh4,o4,k1,k2,k3,R2,rfl,k4,k5,k6,k7,k8,k9⟩ | ⟨_,sz,k2⟩
    · rw[hma2] at k1
      cases k1
      have hround:HJ (FW E) a vs' s.h s.n=some (bv (isN (axm y)),s2.h.put a (some (.loop { R2 with state:=cond (isN (axm y)) .ready .done,pending:=XB (axm y) })),s2.n):=by
       unfold HJ
       rw[g2]
       simp only
       rw[if_pos ⟨g4,by rw[g7,h2.length,hlen]⟩,g8,g7,c1]
       simp only[e4]
       rw[if_pos e5,g9,c2]
       simp only[k2]
       cases axm y <;> rfl
      have hset:=hR2.hle.set (show hl (stm y).H l=_ from hbu) hma2 (o2:=.loop { state:=cond (isN (axm y)) .ready .done,pending:=XB (axm y),tmps:=tl Nc Kc none,params:=ps,assign:=asg,body:=body }) (o2':=.loop { R2 with state:=cond (isN (axm y)) .ready .done,pending:=XB (axm y) }) ⟨rfl,_,rfl,rfl,rfl,k6,k7,k8,k9⟩
      obtain⟨st2,haf1,haf2⟩:=Option.map_eq_some_iff.1 (haf y)
      rw[Dg ho]
      refine⟨⟨C3 s.t d (bv (isN (axm y))),s2.h.put a (some (.loop { R2 with state:=cond (isN (axm y)) .ready .done,pending:=XB (axm y) })),s2.n⟩,?_,hk y ⟨C3 s.t d (bv (isN (axm y))),s2.h.put a (some (.loop { R2 with state:=cond (isN (axm y)) .ready .done,pending:=XB (axm y) })),s2.n⟩ ?_ r hr⟩
      · rw[Lx (o:=⟨d,.call ⟨.value (.tmp t),args,ats⟩,ty,gd⟩) hR hg]
        unfold stepG
        simp only[DI,A0,h3,h1,hround]
      rw[← haf2]
      refine sY _ ⟨ρ2,?_,?_⟩
      · refine Eo haf1 hF2.ext hR.len hR.kv ?_ (fun i hi=>Hm (by rw[hR.len]; exact FA haf1 hi) (VLe.s_refl _))
        show HLe ρ2 (hl _) _ _ _
        rw[oK,y7,AAx]
        exact hset.1
      · exact (hFr.trans hF2).trans hset.2
    · cases k2
  · cases g2
theorem sI {F1 F2:Fx} {l k:Nat} (h:nR F1 l F2) (hk:Nat.ble (l + 1) k=true):ACQ F2 l k:=
 ⟨h.1.elim fun a e=>⟨a,e.1⟩,fun i m e=>Nat.lt_of_lt_of_le (h.2.2 i m e) (Nat.le_of_ble_eq_true hk)⟩
theorem AAk {st1:CS} (ks hs:List Nat) (h:T8 ks hs st=st1) (h2:JC E N F m L st1 Q):JC E N F m L st Q:=by
 subst h
 exact AFk sY h2
end
section
variable {α:Type} {E:Env} {N:Nat} {F:Fx} {lit:Bool} {st st1:CS} {m:Option α} {Q:α→AX→St→Prop}
end
end Go.Vm

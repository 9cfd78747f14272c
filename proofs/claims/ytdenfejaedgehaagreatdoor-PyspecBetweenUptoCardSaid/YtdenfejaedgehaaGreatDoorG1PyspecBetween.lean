/- The law PyspecBetween, a part of its proof: what the functions that it reaches compute. -/
import Derived.Test.YtdenfejaedgehaaGreatDoorG0PyspecBetween
set_option linter.unusedVariables false
set_option linter.unusedSimpArgs false
set_option maxRecDepth 100000
set_option maxHeartbeats 0
set_option linter.unusedVariables false
set_option linter.unusedSimpArgs false
namespace Go.Vm
open Go
abbrev GL:List LO:=[Ap 4 0 3]
abbrev GM:List LO:=[lm 6 0 32,Ai 7 #[AE 6] #[32] 3,CG 8 0 3]
abbrev GN:List LO:=[Al 9 3 8 7 3 0]
abbrev GO:List LO:=[lm 10 8 3,AB 5 10 3]
abbrev GP:List LO:=[lm 11 1 31,lm 12 0 32,lm 13 5 3,A6 14 32 12 13 0,AF 15 9 14 9,lo 16 (.call ⟨.value (AE 11),#[AE 15],#[9]⟩) 4]
abbrev GQ:List LO:=[lm 17 5 3,AB 4 17 3]
abbrev GR:List LO:=[Af 18 3 8 1 3 3,lm 8 18 3]
abbrev GS:List LO:=[Bd 4 (.const (.int .i64 (-1))) 3]
abbrev Gk:LC:=.seq (.reg false GL) (.seq (.seq (.reg false GM) (.block 0 (.loop (.seq (.reg false GN) (.seq (.cond (AE 9) .skip (.exit 0)) (.seq (.block 1 (.seq (.reg false GO) (.seq (.reg false GP) (.cond (AE 16) (.seq (.reg false GQ) .ret) .skip)))) (.reg false GR))))))) (.seq (.reg false GS) .ret))
theorem Gl:Bf E 130 19 [.tmp 4] Gk:=Bp Go.Proofs.Tryz.f130
noncomputable def Bj (a0:(List Str)):Int→Option (Step (Int) ((Int) ⊕ (Unit))):=fun x3=>(if (decide (x3 < (List.length a0:Int)))=true then Option.bind (ixl a0 x3) (fun x8=>Option.bind (TC x8) (fun x9=>(if x9=true then some (Step.done (Sum.inl x3)) else some (Step.next (w64 (x3 + 1)))))) else some (Step.done (Sum.inr ())))
noncomputable def CB (a0:(List Str)):Option (Int):=Option.bind (CD (Bj a0) 0) (fun y=>match y with | Sum.inl x7=>some x7 | Sum.inr _=>some (-1))
theorem GK (a0:(List Str)):Ct E 130 [.fsl 1 (List.map cS a0),.fn 113 []] (CB a0) (fun r:Int=>iv r):=CN Gl (by
 unfold CB
 refine jS ⟨[V 0 (.fsl 1 (List.map cS a0)),V 1 (.fn 113 [])],[],0⟩ ?_
 refine Aj (jR (jG 0 3 ⟨[V 0 (.fsl 1 (List.map cS a0)),V 1 (.fn 113 []),V 7 (iv (List.length (List.map cS a0):Int)),V 8 (iv 0)],[],0⟩ ?_))
 simp only[List.length_map]
 refine jN (A4 ?_)
 refine BA (fun y=>match y with | Sum.inl x7=>⟨[V 4 (iv x7)],[],0⟩ | Sum.inr _=>⟨[],[],0⟩) (fun y=>match y with | Sum.inl x7=>.ret | Sum.inr _=>(.exit 0)) (C5 (fun x3=>⟨[V 0 (.fsl 1 (List.map cS a0)),V 1 (.fn 113 []),V 7 (iv (List.length a0:Int)),V 8 (iv x3)],[],0⟩) BV ?_) ?_
 ·intro x3
  unfold Bj
  refine jS ⟨[V 0 (.fsl 1 (List.map cS a0)),V 1 (.fn 113 []),V 7 (iv (List.length a0:Int)),V 8 (iv x3),V 9 (bv (decide (x3 < (List.length a0:Int))))],[],0⟩ ?_
  refine Aj ?_
  refine jIf ?_ ?_
  ·refine Ah (Ab (Aj (A4 (jS ⟨[V 0 (.fsl 1 (List.map cS a0)),V 1 (.fn 113 []),V 5 (iv x3),V 7 (iv (List.length a0:Int)),V 8 (iv x3)],[],0⟩ ?_))))
   refine jR (jG 0 3 ⟨[V 0 (.fsl 1 (List.map cS a0)),V 1 (.fn 113 []),V 5 (iv x3),V 7 (iv (List.length a0:Int)),V 8 (iv x3),V 11 (.fn 113 []),V 12 (.fsl 1 (List.map cS a0)),V 13 (iv x3)],[],0⟩ ?_)
   refine A5 (i:=3) (mo:=ixl a0 x3) rfl rfl rfl rfl (fun _ hc=>EV (c:=cS) (sz:=1) (e:=9) (kk:=.i64) (by kernel_rfl) (by kernel_rfl) (by kernel_rfl) (by kernel_rfl) hc) (fun _=>rfl) ?_
   intro x8 h8
   refine jG 4 1 ⟨[V 0 (.fsl 1 (List.map cS a0)),V 1 (.fn 113 []),V 5 (iv x3),V 7 (iv (List.length a0:Int)),V 8 (iv x3),V 11 (.fn 113 []),V 15 (bs x8)],[],0⟩ ?_
   refine B7 (i:=5) rfl rfl rfl rfl (g:=113) (caps:=[]) (avs:=[bs x8]) (vs:=[bs x8]) (by kernel_rfl) (by kernel_rfl) rfl (AR rfl (BL _)) (AL (AP _) Ax) (o0 x8) (fun _=>rfl) (fun _=>rfl) ?_
   intro x9 h9
   refine jN ?_
   refine jIf ?_ ?_
   ·refine jS ⟨[V 4 (iv x3)],[],0⟩ ?_
    exact Ae (BG (Ar (Bm rfl nofun BV)))
   refine Ah (BX (Ab (jT ⟨[V 0 (.fsl 1 (List.map cS a0)),V 1 (.fn 113 []),V 7 (iv (List.length a0:Int)),V 8 (iv (w64 (x3 + 1)))],[],0⟩ ?_)))
   exact C7 BV
  exact Cp (Cq (Bm rfl nofun BV))
 rintro (x7 | _)
 ·exact BG (Ar (BO (iv x7)))
 refine C6 (Ab (jS ⟨[V 4 (iv (-1))],[],0⟩ ?_))
 exact Ae (BO (iv (-1))))
abbrev FM:List LO:=[Ag 4 4]
abbrev FN:List LO:=[lm 5 0 32,lm 6 1 31,AN 7 130 #[AE 5,AE 6] #[32,31] 3,DH 8 3 7 0 3 4,AB 4 8 4]
abbrev Fc:LC:=.seq (.reg false FM) (.seq (.reg false FN) .ret)
theorem Fd:Bf E 112 9 [.tmp 4] Fc:=Bp Go.Proofs.Tryz.f112
noncomputable def Bh (a0:(List Str)):Option (Bool):=Option.bind (CB a0) (fun x1=>some (decide (x1≥0)))
theorem FL (a0:(List Str)):Ct E 112 [.fsl 1 (List.map cS a0),.fn 113 []] (Bh a0) (fun r:Bool=>bv r):=CN Fd (by
 unfold Bh
 refine jS ⟨[V 0 (.fsl 1 (List.map cS a0)),V 1 (.fn 113 [])],[],0⟩ ?_
 refine jR (jG 0 2 ⟨[V 5 (.fsl 1 (List.map cS a0)),V 6 (.fn 113 [])],[],0⟩ ?_)
 refine jK 2 (GK a0) ?_
 intro x1 h1
 refine jG 3 2 ⟨[V 4 (bv (decide (x1≥0)))],[],0⟩ ?_
 exact jN (Ae (BO (bv (decide (x1≥0))))))
abbrev vE:List LO:=[Ag 2 4]
abbrev vF:List LO:=[lm 3 0 9,BK 4 9 3 #[] 9 4,lm 5 4 4,lmg 6 0 9 5 false,A7 7 69 #[AE 6,.const (.int .i64 0),.const (.int .i64 5)] #[9,3,3] 3 5 false,lmg 8 0 9 5 false,BF 9 #[AE 8] #[9] 3 5 false,lg 10 (.binOp .neq 3 (AE 7) (AE 9) 3) 4 5 false,Ak 11 5 10 4,lm 12 11 4,lmg 13 0 9 12 false,A7 14 49 #[AE 13] #[9] 9 12 false,lmg 15 0 9 12 false,lg 16 (.binOp .neq 9 (AE 14) (AE 15) 9) 4 12 false,Ak 17 12 16 4]
abbrev vG:List LO:=[Ag 2 4]
abbrev vH:List LO:=[lm 18 0 9,AN 19 69 #[AE 18,.const (.int .i64 0),.const (.int .i64 1)] #[9,3,3] 3,lm 20 0 9,Ai 21 #[AE 20] #[9] 3,Ck 22 3 19 21 3 4,lm 23 22 4,lmg 24 0 9 23 false,A7 25 86 #[AE 24] #[9] 9 23 false,lmg 26 0 9 23 false,Bb 27 9 25 26 9 4 23 false,Ak 28 23 27 4,AB 2 28 4]
abbrev zX:LC:=.seq (.reg false vE) (.seq (.seq (.reg false vF) (.cond (AE 17) (.seq (.reg false vG) .ret) .skip)) (.seq (.reg false vH) .ret))
theorem zY:Bf E 115 29 [.tmp 2] zX:=Bp Go.Proofs.Tryz.f115
noncomputable def Rs (a0:Str):Option (Bool):=Option.bind (if (a0 == [])=true then some true else Option.bind (Dy a0 0 5) (fun x3=>some (x3 != (List.length a0:Int))):Option (Bool)) (fun x2=>Option.bind (if x2=true then some true else Option.bind (Gh a0) (fun x6=>some (!(x6 == a0))):Option (Bool)) (fun x5=>(if x5=true then some false else Option.bind (Dy a0 0 1) (fun x7=>Option.bind (if (x7 != (List.length a0:Int))=true then some true else Option.bind (ES a0) (fun x10=>some (x10 == a0)):Option (Bool)) (fun x9=>some x9)))))
theorem vD (a0:Str):Ct E 115 [bs a0] (Rs a0) (fun r:Bool=>bv r):=CN zY (by
 unfold Rs
 refine jS ⟨[V 0 (bs a0)],[],0⟩ ?_
 refine Aj (jR (jG 0 3 ⟨[V 0 (bs a0),V 5 (bv (a0 == []))],[],0⟩ ?_))
 refine A2 3 6 (fun x2=>⟨[V 0 (bs a0),V 11 (bv x2)],[],0⟩) ?_ ?_
 ·refine jSp 5 ?_ ?_
  ·refine jG 0 6 ⟨[V 0 (bs a0),V 11 (bv true)],[],0⟩ ?_
   exact Ad rfl (AU rfl BV)
  refine jG 0 1 ⟨[V 0 (bs a0),(5,.lit false),V 6 (bs a0)],[],0⟩ ?_
  refine jK 1 (E2 a0 0 5) ?_
  intro x3 h3
  refine jG 2 4 ⟨[V 0 (bs a0),V 11 (bv (x3 != (List.length a0:Int)))],[],0⟩ ?_
  exact Ad rfl (AU rfl BV)
 intro x2
 refine jG 9 1 ⟨[V 0 (bs a0),V 12 (bv x2)],[],0⟩ ?_
 refine A2 10 5 (fun x5=>⟨[V 0 (bs a0),V 17 (bv x5)],[],0⟩) ?_ ?_
 ·refine jSp 12 ?_ ?_
  ·refine jG 0 5 ⟨[V 0 (bs a0),V 17 (bv true)],[],0⟩ ?_
   exact Ad rfl (AU rfl BV)
  refine jG 0 1 ⟨[V 0 (bs a0),(12,.lit false),V 13 (bs a0)],[],0⟩ ?_
  refine jK 1 (J8 a0) ?_
  intro x6 h6
  refine jG 2 3 ⟨[V 0 (bs a0),V 17 (bv (!(x6 == a0)))],[],0⟩ ?_
  exact Ad rfl (AU rfl BV)
 intro x5
 refine jN ?_
 refine jIf ?_ ?_
 ·refine jS ⟨[V 2 (bv false)],[],0⟩ ?_
  exact Ae (Ar (BO (bv false)))
 refine Ah (Ab (jR (jG 0 1 ⟨[V 0 (bs a0),V 18 (bs a0)],[],0⟩ ?_)))
 refine jK 1 (E2 a0 0 1) ?_
 intro x7 h7
 refine jG 2 4 ⟨[V 0 (bs a0),V 23 (bv (x7 != (List.length a0:Int)))],[],0⟩ ?_
 refine A2 6 5 (fun x9=>⟨[V 28 (bv x9)],[],0⟩) ?_ ?_
 ·refine jSp 23 ?_ ?_
  ·refine jG 0 5 ⟨[V 28 (bv true)],[],0⟩ ?_
   exact Ad rfl (AU rfl BV)
  refine jG 0 1 ⟨[V 0 (bs a0),(23,.lit false),V 24 (bs a0)],[],0⟩ ?_
  refine jK 1 (Gu a0) ?_
  intro x10 h10
  refine jG 2 3 ⟨[V 28 (bv (x10 == a0))],[],0⟩ ?_
  exact Ad rfl (AU rfl BV)
 intro x9
 refine jG 11 1 ⟨[V 2 (bv x9)],[],0⟩ ?_
 exact jN (Ae (BO (bv x9))))
abbrev o9:List LO:=[Ag 2 4]
abbrev pA:List LO:=[lm 3 0 9,AN 4 115 #[AE 3] #[9] 4,BR 5 4 4 4,AB 2 5 4]
abbrev uI:LC:=.seq (.reg false o9) (.seq (.reg false pA) .ret)
theorem u0:Bf E 114 6 [.tmp 2] uI:=Bp Go.Proofs.Tryz.f114
noncomputable def TD (a0:Str):Option (Bool):=Option.bind (Rs a0) (fun x1=>some (!x1))
theorem o8 (a0:Str):Ct E 114 [bs a0] (TD a0) (fun r:Bool=>bv r):=CN u0 (by
 unfold TD
 refine jS ⟨[V 0 (bs a0)],[],0⟩ ?_
 refine jR (jG 0 1 ⟨[V 3 (bs a0)],[],0⟩ ?_)
 refine jK 1 (vD a0) ?_
 intro x1 h1
 refine jG 2 2 ⟨[V 2 (bv (!x1))],[],0⟩ ?_
 exact jN (Ae (BO (bv (!x1)))))
abbrev GB:List LO:=[Ap 4 0 3]
abbrev GC:List LO:=[lm 6 0 32,Ai 7 #[AE 6] #[32] 3,CG 8 0 3]
abbrev GD:List LO:=[Al 9 3 8 7 3 0]
abbrev GE:List LO:=[lm 10 8 3,AB 5 10 3]
abbrev GF:List LO:=[lm 11 1 31,lm 12 0 32,lm 13 5 3,A6 14 32 12 13 0,AF 15 9 14 9,lo 16 (.call ⟨.value (AE 11),#[AE 15],#[9]⟩) 4]
abbrev GG:List LO:=[lm 17 5 3,AB 4 17 3]
abbrev GH:List LO:=[Af 18 3 8 1 3 3,lm 8 18 3]
abbrev GJ:List LO:=[Bd 4 (.const (.int .i64 (-1))) 3]
abbrev Gi:LC:=.seq (.reg false GB) (.seq (.seq (.reg false GC) (.block 0 (.loop (.seq (.reg false GD) (.seq (.cond (AE 9) .skip (.exit 0)) (.seq (.block 1 (.seq (.reg false GE) (.seq (.reg false GF) (.cond (AE 16) (.seq (.reg false GG) .ret) .skip)))) (.reg false GH))))))) (.seq (.reg false GJ) .ret))
theorem Gj:Bf E 130 19 [.tmp 4] Gi:=Bp Go.Proofs.Tryz.f130
noncomputable def Bi (a0:(List Str)):Int→Option (Step (Int) ((Int) ⊕ (Unit))):=fun x3=>(if (decide (x3 < (List.length a0:Int)))=true then Option.bind (ixl a0 x3) (fun x8=>Option.bind (TD x8) (fun x9=>(if x9=true then some (Step.done (Sum.inl x3)) else some (Step.next (w64 (x3 + 1)))))) else some (Step.done (Sum.inr ())))
noncomputable def CA (a0:(List Str)):Option (Int):=Option.bind (CD (Bi a0) 0) (fun y=>match y with | Sum.inl x7=>some x7 | Sum.inr _=>some (-1))
theorem GA (a0:(List Str)):Ct E 130 [.fsl 1 (List.map cS a0),.fn 114 []] (CA a0) (fun r:Int=>iv r):=CN Gj (by
 unfold CA
 refine jS ⟨[V 0 (.fsl 1 (List.map cS a0)),V 1 (.fn 114 [])],[],0⟩ ?_
 refine Aj (jR (jG 0 3 ⟨[V 0 (.fsl 1 (List.map cS a0)),V 1 (.fn 114 []),V 7 (iv (List.length (List.map cS a0):Int)),V 8 (iv 0)],[],0⟩ ?_))
 simp only[List.length_map]
 refine jN (A4 ?_)
 refine BA (fun y=>match y with | Sum.inl x7=>⟨[V 4 (iv x7)],[],0⟩ | Sum.inr _=>⟨[],[],0⟩) (fun y=>match y with | Sum.inl x7=>.ret | Sum.inr _=>(.exit 0)) (C5 (fun x3=>⟨[V 0 (.fsl 1 (List.map cS a0)),V 1 (.fn 114 []),V 7 (iv (List.length a0:Int)),V 8 (iv x3)],[],0⟩) BV ?_) ?_
 ·intro x3
  unfold Bi
  refine jS ⟨[V 0 (.fsl 1 (List.map cS a0)),V 1 (.fn 114 []),V 7 (iv (List.length a0:Int)),V 8 (iv x3),V 9 (bv (decide (x3 < (List.length a0:Int))))],[],0⟩ ?_
  refine Aj ?_
  refine jIf ?_ ?_
  ·refine Ah (Ab (Aj (A4 (jS ⟨[V 0 (.fsl 1 (List.map cS a0)),V 1 (.fn 114 []),V 5 (iv x3),V 7 (iv (List.length a0:Int)),V 8 (iv x3)],[],0⟩ ?_))))
   refine jR (jG 0 3 ⟨[V 0 (.fsl 1 (List.map cS a0)),V 1 (.fn 114 []),V 5 (iv x3),V 7 (iv (List.length a0:Int)),V 8 (iv x3),V 11 (.fn 114 []),V 12 (.fsl 1 (List.map cS a0)),V 13 (iv x3)],[],0⟩ ?_)
   refine A5 (i:=3) (mo:=ixl a0 x3) rfl rfl rfl rfl (fun _ hc=>EV (c:=cS) (sz:=1) (e:=9) (kk:=.i64) (by kernel_rfl) (by kernel_rfl) (by kernel_rfl) (by kernel_rfl) hc) (fun _=>rfl) ?_
   intro x8 h8
   refine jG 4 1 ⟨[V 0 (.fsl 1 (List.map cS a0)),V 1 (.fn 114 []),V 5 (iv x3),V 7 (iv (List.length a0:Int)),V 8 (iv x3),V 11 (.fn 114 []),V 15 (bs x8)],[],0⟩ ?_
   refine B7 (i:=5) rfl rfl rfl rfl (g:=114) (caps:=[]) (avs:=[bs x8]) (vs:=[bs x8]) (by kernel_rfl) (by kernel_rfl) rfl (AR rfl (BL _)) (AL (AP _) Ax) (o8 x8) (fun _=>rfl) (fun _=>rfl) ?_
   intro x9 h9
   refine jN ?_
   refine jIf ?_ ?_
   ·refine jS ⟨[V 4 (iv x3)],[],0⟩ ?_
    exact Ae (BG (Ar (Bm rfl nofun BV)))
   refine Ah (BX (Ab (jT ⟨[V 0 (.fsl 1 (List.map cS a0)),V 1 (.fn 114 []),V 7 (iv (List.length a0:Int)),V 8 (iv (w64 (x3 + 1)))],[],0⟩ ?_)))
   exact C7 BV
  exact Cp (Cq (Bm rfl nofun BV))
 rintro (x7 | _)
 ·exact BG (Ar (BO (iv x7)))
 refine C6 (Ab (jS ⟨[V 4 (iv (-1))],[],0⟩ ?_))
 exact Ae (BO (iv (-1))))
abbrev FJ:List LO:=[Ag 4 4]
abbrev FK:List LO:=[lm 5 0 32,lm 6 1 31,AN 7 130 #[AE 5,AE 6] #[32,31] 3,DH 8 3 7 0 3 4,AB 4 8 4]
abbrev Fa:LC:=.seq (.reg false FJ) (.seq (.reg false FK) .ret)
theorem Fb:Bf E 112 9 [.tmp 4] Fa:=Bp Go.Proofs.Tryz.f112
noncomputable def Bg (a0:(List Str)):Option (Bool):=Option.bind (CA a0) (fun x1=>some (decide (x1≥0)))
theorem FH (a0:(List Str)):Ct E 112 [.fsl 1 (List.map cS a0),.fn 114 []] (Bg a0) (fun r:Bool=>bv r):=CN Fb (by
 unfold Bg
 refine jS ⟨[V 0 (.fsl 1 (List.map cS a0)),V 1 (.fn 114 [])],[],0⟩ ?_
 refine jR (jG 0 2 ⟨[V 5 (.fsl 1 (List.map cS a0)),V 6 (.fn 114 [])],[],0⟩ ?_)
 refine jK 2 (GA a0) ?_
 intro x1 h1
 refine jG 3 2 ⟨[V 4 (bv (decide (x1≥0)))],[],0⟩ ?_
 exact jN (Ae (BO (bv (decide (x1≥0))))))
abbrev zN:List LO:=[BT 1 34 0 0,Ag 2 4]
abbrev zO:List LO:=[AA 4 34 1 2 0,AF 5 5 4 5,Bt 6 5 5 97 5 4,lm 7 6 4,AM 8 34 1 2 0 7 false,Aa 9 5 8 5 7 false,A1 10 5 9 98 5 4 7 false,Ak 11 7 10 4,lm 12 11 4,AM 13 34 1 2 0 12 false,Aa 14 5 13 5 12 false,A1 15 5 14 114 5 4 12 false,Ak 16 12 15 4,AB 3 16 4]
abbrev zQ:List LO:=[AA 17 34 1 0 0,AF 18 9 17 9,AN 19 111 #[AE 18,.const (.bool true)] #[9,4] 4,BR 20 4 19 4,lm 21 20 4,AM 22 34 1 1 0 21 false,Aa 23 32 22 32 21 false,BF 24 #[AE 23] #[32] 3 21 false,lg 25 (.binOp .eql 3 (AE 24) (.const (.int .i64 0)) 3) 4 21 false,Ak 26 21 25 4,lm 27 26 4,AM 28 34 1 2 0 27 false,Aa 29 5 28 5 27 false,lg 30 (.binOp .neq 5 (AE 29) (.const (.int .u8 0)) 5) 4 27 false,lmg 31 30 4 27 false,lmg 32 3 4 31 true,Ay 33 4 32 4 31 true,Dr 34 31 33 4 27 false,Ak 35 27 34 4,lm 36 35 4,AM 37 34 1 3 0 36 false,Aa 38 9 37 9 36 false,lmg 39 3 4 36 false,A7 40 111 #[AE 38,AE 39] #[9,4] 4 36 false,Ay 41 4 40 4 36 false,Ak 42 36 41 4,lm 43 42 4,AM 44 34 1 5 0 43 false,Aa 45 9 44 9 43 false,AM 46 34 1 4 0 43 false,Aa 47 4 46 4 43 false,A7 48 111 #[AE 45,AE 47] #[9,4] 4 43 false,Ay 49 4 48 4 43 false,Ak 50 43 49 4,lm 51 50 4,AM 52 34 1 7 0 51 false,Aa 53 9 52 9 51 false,AM 54 34 1 6 0 51 false,Aa 55 4 54 4 51 false,A7 56 111 #[AE 53,AE 55] #[9,4] 4 51 false,Ay 57 4 56 4 51 false,Ak 58 51 57 4]
abbrev zR:List LO:=[Ag 2 4]
abbrev zS:List LO:=[AA 59 34 1 1 0,AF 60 32 59 32,AN 61 112 #[AE 60,.func 113] #[32,31] 4,BR 62 4 61 4,lm 63 62 4,AM 64 34 1 8 0 63 true,Aa 65 32 64 32 63 true,A7 66 112 #[AE 65,.func 114] #[32,31] 4 63 true,Ay 67 4 66 4 63 true,AS 68 63 67 4,AB 2 68 4]
abbrev ABo:LC:=.seq (.reg false zN) (.seq (.reg false zO) (.seq (.seq (.reg false zQ) (.cond (AE 58) (.seq (.reg false zR) .ret) .skip)) (.seq (.reg false zS) .ret)))
theorem ABp:Bf E 88 69 [.tmp 2] ABo:=Bp Go.Proofs.Tryz.f88
noncomputable def TB (a0:Ac):Option (Bool):=Option.bind (E7 a0.Epoch true) (fun x1=>Option.bind (if (((!x1) || ((List.length a0.Release:Int) == 0)) || ((a0.Pre != 0) && (!(((a0.Pre == 97) || (a0.Pre == 98)) || (a0.Pre == 114)))))=true then some true else Option.bind (E7 a0.PreNum (((a0.Pre == 97) || (a0.Pre == 98)) || (a0.Pre == 114))) (fun x4=>some (!x4)):Option (Bool)) (fun x3=>Option.bind (if x3=true then some true else Option.bind (E7 a0.PostNum a0.Post) (fun x7=>some (!x7)):Option (Bool)) (fun x6=>Option.bind (if x6=true then some true else Option.bind (E7 a0.DevNum a0.Dev) (fun x10=>some (!x10)):Option (Bool)) (fun x9=>(if x9=true then some false else Option.bind (Bh a0.Release) (fun x11=>Option.bind (if (!x11)=true then Option.bind (Bg a0.Local) (fun x14=>some (!x14)) else some false:Option (Bool)) (fun x13=>some x13)))))))
theorem dF (a0:Ac):Ct E 88 [.agg (AJ a0)] (TB a0) (fun r:Bool=>bv r):=CN ABp (by
 unfold TB
 refine jS ⟨[V 1 (pt 0 9)],[W 0 9 (AJ a0)],1⟩ ?_
 refine jS ⟨[V 1 (pt 0 9),V 3 (bv (((a0.Pre == 97) || (a0.Pre == 98)) || (a0.Pre == 114)))],[W 0 9 (AJ a0)],1⟩ ?_
 refine Aj (jR (jG 0 2 ⟨[V 1 (pt 0 9),V 3 (bv (((a0.Pre == 97) || (a0.Pre == 98)) || (a0.Pre == 114))),V 18 (bs a0.Epoch)],[W 0 9 (AJ a0)],1⟩ ?_))
 refine jK 2 (G8 a0.Epoch true) ?_
 intro x1 h1
 refine jG 3 17 ⟨[V 1 (pt 0 9),V 3 (bv (((a0.Pre == 97) || (a0.Pre == 98)) || (a0.Pre == 114))),V 36 (bv (((!x1) || ((List.length (List.map cS a0.Release):Int) == 0)) || ((a0.Pre != 0) && (!(((a0.Pre == 97) || (a0.Pre == 98)) || (a0.Pre == 114))))))],[W 0 9 (AJ a0)],1⟩ ?_
 simp only[List.length_map]
 refine A2 20 6 (fun x3=>⟨[V 1 (pt 0 9),V 42 (bv x3)],[W 0 9 (AJ a0)],1⟩) ?_ ?_
 ·refine jSp 36 ?_ ?_
  ·refine jG 0 6 ⟨[V 1 (pt 0 9),V 42 (bv true)],[W 0 9 (AJ a0)],1⟩ ?_
   exact Ad rfl (AU rfl (wkR [(0,some 0)] (Am _) (pc (hC 0) AD)))
  refine jG 0 3 ⟨[V 1 (pt 0 9),(36,.lit false),V 38 (bs a0.PreNum),V 39 (bv (((a0.Pre == 97) || (a0.Pre == 98)) || (a0.Pre == 114)))],[W 0 9 (AJ a0)],1⟩ ?_
  refine jK 3 (G8 a0.PreNum (((a0.Pre == 97) || (a0.Pre == 98)) || (a0.Pre == 114))) ?_
  intro x4 h4
  refine jG 4 2 ⟨[V 1 (pt 0 9),V 42 (bv (!x4))],[W 0 9 (AJ a0)],1⟩ ?_
  exact Ad rfl (AU rfl (wkR [(0,some 0)] (Am _) (pc (hC 0) AD)))
 intro x3
 refine jG 26 1 ⟨[V 1 (pt 0 9),V 43 (bv x3)],[W 0 9 (AJ a0)],1⟩ ?_
 refine A2 27 7 (fun x6=>⟨[V 1 (pt 0 9),V 50 (bv x6)],[W 0 9 (AJ a0)],1⟩) ?_ ?_
 ·refine jSp 43 ?_ ?_
  ·refine jG 0 7 ⟨[V 1 (pt 0 9),V 50 (bv true)],[W 0 9 (AJ a0)],1⟩ ?_
   exact Ad rfl (AU rfl (wkR [(0,some 0)] (Am _) (pc (hC 0) AD)))
  refine jG 0 4 ⟨[V 1 (pt 0 9),(43,.lit false),V 45 (bs a0.PostNum),V 47 (bv a0.Post)],[W 0 9 (AJ a0)],1⟩ ?_
  refine jK 4 (G8 a0.PostNum a0.Post) ?_
  intro x7 h7
  refine jG 5 2 ⟨[V 1 (pt 0 9),V 50 (bv (!x7))],[W 0 9 (AJ a0)],1⟩ ?_
  exact Ad rfl (AU rfl (wkR [(0,some 0)] (Am _) (pc (hC 0) AD)))
 intro x6
 refine jG 34 1 ⟨[V 1 (pt 0 9),V 51 (bv x6)],[W 0 9 (AJ a0)],1⟩ ?_
 refine A2 35 7 (fun x9=>⟨[V 1 (pt 0 9),V 58 (bv x9)],[W 0 9 (AJ a0)],1⟩) ?_ ?_
 ·refine jSp 51 ?_ ?_
  ·refine jG 0 7 ⟨[V 1 (pt 0 9),V 58 (bv true)],[W 0 9 (AJ a0)],1⟩ ?_
   exact Ad rfl (AU rfl (wkR [(0,some 0)] (Am _) (pc (hC 0) AD)))
  refine jG 0 4 ⟨[V 1 (pt 0 9),(51,.lit false),V 53 (bs a0.DevNum),V 55 (bv a0.Dev)],[W 0 9 (AJ a0)],1⟩ ?_
  refine jK 4 (G8 a0.DevNum a0.Dev) ?_
  intro x10 h10
  refine jG 5 2 ⟨[V 1 (pt 0 9),V 58 (bv (!x10))],[W 0 9 (AJ a0)],1⟩ ?_
  exact Ad rfl (AU rfl (wkR [(0,some 0)] (Am _) (pc (hC 0) AD)))
 intro x9
 refine jN ?_
 refine jIf ?_ ?_
 ·refine jS ⟨[V 2 (bv false)],[],1⟩ ?_
  exact Ae (Ar (BO (bv false)))
 refine Ah (Ab (jR (jG 0 2 ⟨[V 1 (pt 0 9),V 60 (.fsl 1 (List.map cS a0.Release))],[W 0 9 (AJ a0)],1⟩ ?_)))
 refine jK 2 (FL a0.Release) ?_
 intro x11 h11
 refine jG 3 2 ⟨[V 1 (pt 0 9),V 63 (bv (!x11))],[W 0 9 (AJ a0)],1⟩ ?_
 refine A2 5 5 (fun x13=>⟨[V 68 (bv x13)],[],0⟩) ?_ ?_
 ·refine jSp 63 ?_ ?_
  ·refine jG 0 2 ⟨[(63,.lit true),V 65 (.fsl 1 (List.map cS a0.Local))],[],1⟩ ?_
   refine jK 2 (FH a0.Local) ?_
   intro x14 h14
   refine jG 3 2 ⟨[V 68 (bv (!x14))],[],1⟩ ?_
   exact Ad rfl (AU rfl BV)
  refine jG 0 5 ⟨[V 68 (bv false)],[],1⟩ ?_
  exact Ad rfl (AU rfl BV)
 intro x13
 refine jG 10 1 ⟨[V 2 (bv x13)],[],0⟩ ?_
 exact jN (Ae (BO (bv x13))))
abbrev dG:List LO:=[A8 2 #[] 9]
abbrev dH:List LO:=[A8 2 #[48] 9]
abbrev gI:LC:=.seq (.reg false dG) (.seq (.reg false dH) .ret)
theorem hJ:Bf E 89 3 [.tmp 2] gI:=Bp Go.Proofs.Tryz.f89
noncomputable def KJ (a0:Int):Option (Str):=some [48]
theorem Rp (a0:Int):Ct E 89 [iv a0] (KJ a0) (fun r:Str=>bs r):=CN hJ (by
 unfold KJ
 refine jS ⟨[],[],0⟩ ?_
 refine jS ⟨[V 2 (bs [48])],[],0⟩ ?_
 exact Ae (BO (bs [48])))
abbrev ON:List LO:=[Ap 8 0 3]
abbrev OO:List LO:=[lm 13 0 32,Ai 14 #[AE 13] #[32] 3,lm 15 1 32,Ai 16 #[AE 15] #[32] 3,lo 17 (.call ⟨.builtin .max,#[AE 14,AE 16],#[3,3]⟩) 3,CG 18 0 3]
abbrev OP:List LO:=[Al 19 3 18 17 3 4]
abbrev OQ:List LO:=[lm 20 18 3,AB 9 20 3]
abbrev OR:List LO:=[lm 21 2 100,lm 22 9 3,lo 23 (.call ⟨.value (AE 21),#[AE 22],#[3]⟩) 9,lm 24 2 100,lm 25 9 3,lo 26 (.call ⟨.value (AE 24),#[AE 25],#[3]⟩) 9,AB 10 23 9,AB 11 26 9]
abbrev OS:List LO:=[lm 27 9 3,lm 28 0 32,Ai 29 #[AE 28] #[32] 3,Al 30 3 27 29 3 4]
abbrev OT:List LO:=[lm 31 0 32,lm 32 9 3,A6 33 32 31 32 0,AF 34 9 33 9,AB 10 34 9]
abbrev OU:List LO:=[lm 35 9 3,lm 36 1 32,Ai 37 #[AE 36] #[32] 3,Al 38 3 35 37 3 4]
abbrev OV:List LO:=[lm 39 1 32,lm 40 9 3,A6 41 32 39 40 0,AF 42 9 41 9,AB 11 42 9]
abbrev NO:List LO:=[lm 43 3 99,lm 44 10 9,lm 45 11 9,lo 46 (.call ⟨.value (AE 43),#[AE 44,AE 45],#[9,9]⟩) 3,AB 12 46 3]
abbrev NP:List LO:=[lm 47 12 3,BM 48 3 47 0 3 4]
abbrev NQ:List LO:=[lm 49 12 3,AB 8 49 3]
abbrev NR:List LO:=[Af 50 3 18 1 3 3,lm 18 50 3]
abbrev NS:List LO:=[Ap 8 0 3]
abbrev PS:LC:=.seq (.reg false ON) (.seq (.seq (.reg false OO) (.block 0 (.loop (.seq (.reg false OP) (.seq (.cond (AE 19) .skip (.exit 0)) (.seq (.block 1 (.seq (.reg false OQ) (.seq (.reg false OR) (.seq (.seq (.reg false OS) (.cond (AE 30) (.reg false OT) .skip)) (.seq (.seq (.reg false OU) (.cond (AE 38) (.reg false OV) .skip)) (.seq (.reg false NO) (.seq (.reg false NP) (.cond (AE 48) (.seq (.reg false NQ) .ret) .skip)))))))) (.reg false NR))))))) (.seq (.reg false NS) .ret))
theorem PT:Bf E 93 51 [.tmp 8] PS:=Bp Go.Proofs.Tryz.f93
noncomputable def Dn (a0:(List Str)) (a1:(List Str)):Int→Option (Step (Int) ((Int) ⊕ (Unit))):=fun x8=>(if (decide (x8 < (if (List.length a1:Int) > (List.length a0:Int) then (List.length a1:Int) else (List.length a0:Int))))=true then Option.bind (KJ x8) (fun x18=>Option.bind (KJ x8) (fun x19=>Option.bind ((if (decide (x8 < (List.length a0:Int)))=true then Option.bind (ixl a0 x8) (fun x22=>some x22) else some x18):Option (Str)) (fun x21=>Option.bind ((if (decide (x8 < (List.length a1:Int)))=true then Option.bind (ixl a1 x8) (fun x25=>some x25) else some x19):Option (Str)) (fun x24=>Option.bind (HE x21 x24) (fun x26=>(if (x26 != 0)=true then some (Step.done (Sum.inl x26)) else some (Step.next (w64 (x8 + 1))))))))) else some (Step.done (Sum.inr ())))
noncomputable def Dj (a0:(List Str)) (a1:(List Str)):Option (Int):=Option.bind (CD (Dn a0 a1) 0) (fun y=>match y with | Sum.inl x17=>some x17 | Sum.inr _=>some 0)
theorem OM (a0:(List Str)) (a1:(List Str)):Ct E 93 [.fsl 1 (List.map cS a0),.fsl 1 (List.map cS a1),.fn 89 [],.fn 92 []] (Dj a0 a1) (fun r:Int=>iv r):=CN PT (by
 unfold Dj
 refine jS ⟨[V 0 (.fsl 1 (List.map cS a0)),V 1 (.fsl 1 (List.map cS a1)),V 2 (.fn 89 []),V 3 (.fn 92 [])],[],0⟩ ?_
 refine Aj (jR (jG 0 6 ⟨[V 0 (.fsl 1 (List.map cS a0)),V 1 (.fsl 1 (List.map cS a1)),V 2 (.fn 89 []),V 3 (.fn 92 []),V 17 (iv (if (List.length (List.map cS a1):Int) > (List.length (List.map cS a0):Int) then (List.length (List.map cS a1):Int) else (List.length (List.map cS a0):Int))),V 18 (iv 0)],[],0⟩ ?_))
 simp only[List.length_map]
 refine jN (A4 ?_)
 refine BA (fun y=>match y with | Sum.inl x17=>⟨[V 8 (iv x17)],[],0⟩ | Sum.inr _=>⟨[],[],0⟩) (fun y=>match y with | Sum.inl x17=>.ret | Sum.inr _=>(.exit 0)) (C5 (fun x8=>⟨[V 0 (.fsl 1 (List.map cS a0)),V 1 (.fsl 1 (List.map cS a1)),V 2 (.fn 89 []),V 3 (.fn 92 []),V 17 (iv (if (List.length a1:Int) > (List.length a0:Int) then (List.length a1:Int) else (List.length a0:Int))),V 18 (iv x8)],[],0⟩) BV ?_) ?_
 ·intro x8
  unfold Dn
  refine jS ⟨[V 0 (.fsl 1 (List.map cS a0)),V 1 (.fsl 1 (List.map cS a1)),V 2 (.fn 89 []),V 3 (.fn 92 []),V 17 (iv (if (List.length a1:Int) > (List.length a0:Int) then (List.length a1:Int) else (List.length a0:Int))),V 18 (iv x8),V 19 (bv (decide (x8 < (if (List.length a1:Int) > (List.length a0:Int) then (List.length a1:Int) else (List.length a0:Int)))))],[],0⟩ ?_
  refine Aj ?_
  refine jIf ?_ ?_
  ·refine Ah (Ab (Aj (A4 (jS ⟨[V 0 (.fsl 1 (List.map cS a0)),V 1 (.fsl 1 (List.map cS a1)),V 2 (.fn 89 []),V 3 (.fn 92 []),V 9 (iv x8),V 17 (iv (if (List.length a1:Int) > (List.length a0:Int) then (List.length a1:Int) else (List.length a0:Int))),V 18 (iv x8)],[],0⟩ ?_))))
   refine jR (jG 0 2 ⟨[V 0 (.fsl 1 (List.map cS a0)),V 1 (.fsl 1 (List.map cS a1)),V 2 (.fn 89 []),V 3 (.fn 92 []),V 9 (iv x8),V 17 (iv (if (List.length a1:Int) > (List.length a0:Int) then (List.length a1:Int) else (List.length a0:Int))),V 18 (iv x8),V 21 (.fn 89 []),V 22 (iv x8)],[],0⟩ ?_)
   refine B7 (i:=2) rfl rfl rfl rfl (g:=89) (caps:=[]) (avs:=[iv x8]) (vs:=[iv x8]) (by kernel_rfl) (by kernel_rfl) rfl (AR rfl (BL _)) (AL (AP _) Ax) (Rp x8) (fun _=>rfl) (fun _=>rfl) ?_
   intro x18 h18
   refine jG 3 2 ⟨[V 0 (.fsl 1 (List.map cS a0)),V 1 (.fsl 1 (List.map cS a1)),V 2 (.fn 89 []),V 3 (.fn 92 []),V 9 (iv x8),V 17 (iv (if (List.length a1:Int) > (List.length a0:Int) then (List.length a1:Int) else (List.length a0:Int))),V 18 (iv x8),V 23 (bs x18),V 24 (.fn 89 []),V 25 (iv x8)],[],0⟩ ?_
   refine B7 (i:=5) rfl rfl rfl rfl (g:=89) (caps:=[]) (avs:=[iv x8]) (vs:=[iv x8]) (by kernel_rfl) (by kernel_rfl) rfl (AR rfl (BL _)) (AL (AP _) Ax) (Rp x8) (fun _=>rfl) (fun _=>rfl) ?_
   intro x19 h19
   refine jG 6 2 ⟨[V 0 (.fsl 1 (List.map cS a0)),V 1 (.fsl 1 (List.map cS a1)),V 2 (.fn 89 []),V 3 (.fn 92 []),V 9 (iv x8),V 10 (bs x18),V 11 (bs x19),V 17 (iv (if (List.length a1:Int) > (List.length a0:Int) then (List.length a1:Int) else (List.length a0:Int))),V 18 (iv x8)],[],0⟩ ?_
   refine jN (Aj ?_)
   refine BA (fun x21=>⟨[V 0 (.fsl 1 (List.map cS a0)),V 1 (.fsl 1 (List.map cS a1)),V 2 (.fn 89 []),V 3 (.fn 92 []),V 9 (iv x8),V 10 (bs x21),V 11 (bs x19),V 17 (iv (if (List.length a1:Int) > (List.length a0:Int) then (List.length a1:Int) else (List.length a0:Int))),V 18 (iv x8)],[],0⟩) (fun x21=>.normal) ?_ ?_
   ·refine jR (jG 0 4 ⟨[V 0 (.fsl 1 (List.map cS a0)),V 1 (.fsl 1 (List.map cS a1)),V 2 (.fn 89 []),V 3 (.fn 92 []),V 9 (iv x8),V 10 (bs x18),V 11 (bs x19),V 17 (iv (if (List.length a1:Int) > (List.length a0:Int) then (List.length a1:Int) else (List.length a0:Int))),V 18 (iv x8),V 30 (bv (decide (x8 < (List.length (List.map cS a0):Int))))],[],0⟩ ?_)
    simp only[List.length_map]
    refine jN ?_
    refine jIf ?_ ?_
    ·refine CY (jG 0 2 ⟨[V 0 (.fsl 1 (List.map cS a0)),V 1 (.fsl 1 (List.map cS a1)),V 2 (.fn 89 []),V 3 (.fn 92 []),V 9 (iv x8),V 11 (bs x19),V 17 (iv (if (List.length a1:Int) > (List.length a0:Int) then (List.length a1:Int) else (List.length a0:Int))),V 18 (iv x8),V 31 (.fsl 1 (List.map cS a0)),V 32 (iv x8)],[],0⟩ ?_)
     refine A5 (i:=2) (mo:=ixl a0 x8) rfl rfl rfl rfl (fun _ hc=>EV (c:=cS) (sz:=1) (e:=9) (kk:=.i64) (by kernel_rfl) (by kernel_rfl) (by kernel_rfl) (by kernel_rfl) hc) (fun _=>rfl) ?_
     intro x22 h22
     refine jG 3 2 ⟨[V 0 (.fsl 1 (List.map cS a0)),V 1 (.fsl 1 (List.map cS a1)),V 2 (.fn 89 []),V 3 (.fn 92 []),V 9 (iv x8),V 10 (bs x22),V 11 (bs x19),V 17 (iv (if (List.length a1:Int) > (List.length a0:Int) then (List.length a1:Int) else (List.length a0:Int))),V 18 (iv x8)],[],0⟩ ?_
     exact Ad rfl (AU rfl BV)
    exact Ah (AU rfl BV)
   intro x21
   refine Ab (Aj ?_)
   refine BA (fun x24=>⟨[V 0 (.fsl 1 (List.map cS a0)),V 1 (.fsl 1 (List.map cS a1)),V 2 (.fn 89 []),V 3 (.fn 92 []),V 10 (bs x21),V 11 (bs x24),V 17 (iv (if (List.length a1:Int) > (List.length a0:Int) then (List.length a1:Int) else (List.length a0:Int))),V 18 (iv x8)],[],0⟩) (fun x24=>.normal) ?_ ?_
   ·refine jR (jG 0 4 ⟨[V 0 (.fsl 1 (List.map cS a0)),V 1 (.fsl 1 (List.map cS a1)),V 2 (.fn 89 []),V 3 (.fn 92 []),V 9 (iv x8),V 10 (bs x21),V 11 (bs x19),V 17 (iv (if (List.length a1:Int) > (List.length a0:Int) then (List.length a1:Int) else (List.length a0:Int))),V 18 (iv x8),V 38 (bv (decide (x8 < (List.length (List.map cS a1):Int))))],[],0⟩ ?_)
    simp only[List.length_map]
    refine jN ?_
    refine jIf ?_ ?_
    ·refine CY (jG 0 2 ⟨[V 0 (.fsl 1 (List.map cS a0)),V 1 (.fsl 1 (List.map cS a1)),V 2 (.fn 89 []),V 3 (.fn 92 []),V 10 (bs x21),V 17 (iv (if (List.length a1:Int) > (List.length a0:Int) then (List.length a1:Int) else (List.length a0:Int))),V 18 (iv x8),V 39 (.fsl 1 (List.map cS a1)),V 40 (iv x8)],[],0⟩ ?_)
     refine A5 (i:=2) (mo:=ixl a1 x8) rfl rfl rfl rfl (fun _ hc=>EV (c:=cS) (sz:=1) (e:=9) (kk:=.i64) (by kernel_rfl) (by kernel_rfl) (by kernel_rfl) (by kernel_rfl) hc) (fun _=>rfl) ?_
     intro x25 h25
     refine jG 3 2 ⟨[V 0 (.fsl 1 (List.map cS a0)),V 1 (.fsl 1 (List.map cS a1)),V 2 (.fn 89 []),V 3 (.fn 92 []),V 10 (bs x21),V 11 (bs x25),V 17 (iv (if (List.length a1:Int) > (List.length a0:Int) then (List.length a1:Int) else (List.length a0:Int))),V 18 (iv x8)],[],0⟩ ?_
     exact Ad rfl (AU rfl BV)
    exact Ah (AU rfl BV)
   intro x24
   refine Ab (jR (jG 0 3 ⟨[V 0 (.fsl 1 (List.map cS a0)),V 1 (.fsl 1 (List.map cS a1)),V 2 (.fn 89 []),V 3 (.fn 92 []),V 17 (iv (if (List.length a1:Int) > (List.length a0:Int) then (List.length a1:Int) else (List.length a0:Int))),V 18 (iv x8),V 43 (.fn 92 []),V 44 (bs x21),V 45 (bs x24)],[],0⟩ ?_))
   refine B7 (i:=3) rfl rfl rfl rfl (g:=92) (caps:=[]) (avs:=[bs x21,bs x24]) (vs:=[bs x21,bs x24]) (by kernel_rfl) (by kernel_rfl) rfl (AR rfl (AR rfl (BL _))) (AL (AP _) (AL (AP _) Ax)) (Ha x21 x24) (fun _=>rfl) (fun _=>rfl) ?_
   intro x26 h26
   refine jG 4 1 ⟨[V 0 (.fsl 1 (List.map cS a0)),V 1 (.fsl 1 (List.map cS a1)),V 2 (.fn 89 []),V 3 (.fn 92 []),V 12 (iv x26),V 17 (iv (if (List.length a1:Int) > (List.length a0:Int) then (List.length a1:Int) else (List.length a0:Int))),V 18 (iv x8)],[],0⟩ ?_
   refine jN (jS ⟨[V 0 (.fsl 1 (List.map cS a0)),V 1 (.fsl 1 (List.map cS a1)),V 2 (.fn 89 []),V 3 (.fn 92 []),V 12 (iv x26),V 17 (iv (if (List.length a1:Int) > (List.length a0:Int) then (List.length a1:Int) else (List.length a0:Int))),V 18 (iv x8),V 48 (bv (x26 != 0))],[],0⟩ ?_)
   refine jIf ?_ ?_
   ·refine jS ⟨[V 8 (iv x26)],[],0⟩ ?_
    exact Ae (BG (Ar (Bm rfl nofun BV)))
   refine Ah (BX (Ab (jT ⟨[V 0 (.fsl 1 (List.map cS a0)),V 1 (.fsl 1 (List.map cS a1)),V 2 (.fn 89 []),V 3 (.fn 92 []),V 17 (iv (if (List.length a1:Int) > (List.length a0:Int) then (List.length a1:Int) else (List.length a0:Int))),V 18 (iv (w64 (x8 + 1)))],[],0⟩ ?_)))
   exact C7 BV
  exact Cp (Cq (Bm rfl nofun BV))
 rintro (x17 | _)
 ·exact BG (Ar (BO (iv x17)))
 refine C6 (Ab (jS ⟨[V 8 (iv 0)],[],0⟩ ?_))
 exact Ae (BO (iv 0)))
abbrev dJ:List LO:=[A8 2 #[] 9]
abbrev dK:List LO:=[A8 2 #[] 9]
abbrev hM:LC:=.seq (.reg false dJ) (.seq (.reg false dK) .ret)
theorem hU:Bf E 90 3 [.tmp 2] hM:=Bp Go.Proofs.Tryz.f90
noncomputable def KK (a0:Int):Option (Str):=some []
theorem Rq (a0:Int):Ct E 90 [iv a0] (KK a0) (fun r:Str=>bs r):=CN hU (by
 unfold KK
 refine jS ⟨[],[],0⟩ ?_
 refine jS ⟨[V 2 (bs [])],[],0⟩ ?_
 exact Ae (BO (bs [])))
abbrev Um:List LO:=[Ag 2 4]
abbrev Un:List LO:=[lm 3 0 9,Em 4 9 3 #[] 9 4,lm 5 4 4,lmg 6 0 9 5 true,A7 7 69 #[AE 6,.const (.int .i64 0),.const (.int .i64 1)] #[9,3,3] 3 5 true,lmg 8 0 9 5 true,BF 9 #[AE 8] #[9] 3 5 true,Bb 10 3 7 9 3 4 5 true,AS 11 5 10 4,AB 2 11 4]
abbrev Vw:LC:=.seq (.reg false Um) (.seq (.reg false Un) .ret)
theorem Vx:Bf E 118 12 [.tmp 2] Vw:=Bp Go.Proofs.Tryz.f118
noncomputable def EP (a0:Str):Option (Bool):=Option.bind (if (!(a0 == []))=true then Option.bind (Dy a0 0 1) (fun x3=>some (x3 == (List.length a0:Int))) else some false:Option (Bool)) (fun x2=>some x2)
theorem L3 (a0:Str):Ct E 118 [bs a0] (EP a0) (fun r:Bool=>bv r):=CN Vx (by
 unfold EP
 refine jS ⟨[V 0 (bs a0)],[],0⟩ ?_
 refine jR (jG 0 3 ⟨[V 0 (bs a0),V 5 (bv (!(a0 == [])))],[],0⟩ ?_)
 refine A2 3 6 (fun x2=>⟨[V 11 (bv x2)],[],0⟩) ?_ ?_
 ·refine jSp 5 ?_ ?_
  ·refine jG 0 1 ⟨[V 0 (bs a0),(5,.lit true),V 6 (bs a0)],[],0⟩ ?_
   refine jK 1 (E2 a0 0 1) ?_
   intro x3 h3
   refine jG 2 4 ⟨[V 11 (bv (x3 == (List.length a0:Int)))],[],0⟩ ?_
   exact Ad rfl (AU rfl BV)
  refine jG 0 6 ⟨[V 11 (bv false)],[],0⟩ ?_
  exact Ad rfl (AU rfl BV)
 intro x2
 refine jG 9 1 ⟨[V 2 (bv x2)],[],0⟩ ?_
 exact jN (Ae (BO (bv x2))))
abbrev M9:List LO:=[Ap 3 0 3]
abbrev NA:List LO:=[lm 5 0 9,BK 6 9 5 #[] 9 4,AB 4 6 4]
abbrev NB:List LO:=[Ap 3 0 3]
abbrev NC:List LO:=[AF 8 31 1 31,lm 9 0 9,lo 10 (.call ⟨.value (AE 8),#[AE 9],#[9]⟩) 4,AB 7 10 4]
abbrev ND:List LO:=[Ap 3 2 3]
abbrev NE:List LO:=[Ap 3 1 3]
abbrev N6:LC:=.seq (.reg false M9) (.seq (.block 0 (.seq (.reg false NA) (.cond (AE 4) (.seq (.reg false NB) .ret) (.seq (.reg false NC) (.cond (AE 7) (.seq (.reg false ND) .ret) .skip))))) (.seq (.reg false NE) .ret))
theorem N7:Bf E 119 11 [.tmp 3] N6:=Bp Go.Proofs.Tryz.f119
noncomputable def Cz (a0:Str):Option (Int):=(if (a0 == [])=true then some 0 else Option.bind (EP a0) (fun x1=>(if x1=true then some 2 else some 1)))
theorem G6 (a0:Str):Ct E 119 [bs a0,.fptr [.fn 118 []] 0] (Cz a0) (fun r:Int=>iv r):=CN N7 (by
 unfold Cz
 refine jS ⟨[V 0 (bs a0),V 1 (.fptr [.fn 118 []] 0)],[],0⟩ ?_
 refine Aj (A4 (jS ⟨[V 0 (bs a0),V 1 (.fptr [.fn 118 []] 0),V 4 (bv (a0 == []))],[],0⟩ ?_))
 refine jIf ?_ ?_
 ·refine jS ⟨[V 3 (iv 0)],[],0⟩ ?_
  exact Ae (BG (Ar (BO (iv 0))))
 refine jR (jG 0 2 ⟨[V 8 (.fn 118 []),V 9 (bs a0)],[],0⟩ ?_)
 refine B7 (i:=2) rfl rfl rfl rfl (g:=118) (caps:=[]) (avs:=[bs a0]) (vs:=[bs a0]) (by kernel_rfl) (by kernel_rfl) rfl (AR rfl (BL _)) (AL (AP _) Ax) (L3 a0) (fun _=>rfl) (fun _=>rfl) ?_
 intro x1 h1
 refine jG 3 1 ⟨[V 7 (bv x1)],[],0⟩ ?_
 refine jN ?_
 refine jIf ?_ ?_
 ·refine jS ⟨[V 3 (iv 2)],[],0⟩ ?_
  exact Ae (BG (Ar (BO (iv 2))))
 refine Ah (BX (Ab (jS ⟨[V 3 (iv 1)],[],0⟩ ?_)))
 exact Ae (BO (iv 1)))
abbrev XE:List LO:=[Ap 4 0 3]
abbrev XF:List LO:=[BH 5 31 0,ln (.store 31 (AE 5) (.func 118)) 0]
abbrev XG:List LO:=[lo 8 (.makeFunc (Fn.func 119) #[] #[AE 5]) 118,AB 6 8 118]
abbrev XH:List LO:=[lm 9 6 118,lm 10 0 9,lo 11 (.call ⟨.value (AE 9),#[AE 10],#[9]⟩) 3,lm 12 6 118,lm 13 1 9,lo 14 (.call ⟨.value (AE 12),#[AE 13],#[9]⟩) 3,AN 15 94 #[AE 11,AE 14] #[3,3] 3,AB 7 15 3]
abbrev XJ:List LO:=[lm 16 7 3,BM 17 3 16 0 3 4]
abbrev XK:List LO:=[lm 18 7 3,AB 4 18 3]
abbrev XM:List LO:=[AF 19 31 5 31,lm 20 0 9,lo 21 (.call ⟨.value (AE 19),#[AE 20],#[9]⟩) 4]
abbrev XN:List LO:=[lm 22 0 9,lm 23 1 9,AN 24 92 #[AE 22,AE 23] #[9,9] 3,AB 4 24 3]
abbrev XO:List LO:=[lm 25 0 9,lm 26 1 9,AN 27 116 #[AE 25,AE 26] #[9,9] 3,AB 4 27 3]
abbrev Yu:LC:=.seq (.reg false XE) (.seq (.reg false XF) (.seq (.reg false XG) (.seq (.seq (.reg false XH) (.seq (.reg false XJ) (.cond (AE 17) (.seq (.reg false XK) .ret) .skip))) (.seq (.seq (.reg false XM) (.cond (AE 21) (.seq (.reg false XN) .ret) .skip)) (.seq (.reg false XO) .ret)))))
theorem Yv:Bf E 97 28 [.tmp 4] Yu:=Bp Go.Proofs.Tryz.f97
noncomputable def G5 (a0:Str) (a1:Str):Option (Int):=Option.bind (Cz a0) (fun x1=>Option.bind (Cz a1) (fun x2=>Option.bind (Dq x1 x2) (fun x3=>(if (x3 != 0)=true then some x3 else Option.bind (EP a0) (fun x4=>(if x4=true then Option.bind (HE a0 a1) (fun x5=>some x5) else Option.bind (Fq a0 a1) (fun x6=>some x6)))))))
theorem XD (a0:Str) (a1:Str):Ct E 97 [bs a0,bs a1] (G5 a0 a1) (fun r:Int=>iv r):=CN Yv (by
 unfold G5
 refine jS ⟨[V 0 (bs a0),V 1 (bs a1)],[],0⟩ ?_
 refine jS ⟨[V 0 (bs a0),V 1 (bs a1),V 5 (pt 0 1)],[W 0 1 [.fn 118 []]],1⟩ ?_
 refine jS ⟨[V 0 (bs a0),V 1 (bs a1),V 5 (pt 0 1),V 6 (.fn 119 [pt 0 1])],[W 0 1 [.fn 118 []]],1⟩ ?_
 refine Aj (jR (jG 0 2 ⟨[V 0 (bs a0),V 1 (bs a1),V 5 (pt 0 1),V 6 (.fn 119 [pt 0 1]),V 9 (.fn 119 [pt 0 1]),V 10 (bs a0)],[W 0 1 [.fn 118 []]],1⟩ ?_))
 refine B7 (i:=2) rfl rfl rfl rfl (g:=119) (caps:=[pt 0 1]) (avs:=[bs a0]) (vs:=[bs a0,pt 0 1]) (vs0:=[bs a0,.fptr [.fn 118 []] 0]) (b:=true) (by kernel_rfl) (by kernel_rfl) rfl (by kernel_rfl) (AL (AP _) (AL (AP _) Ax)) (G6 a0) (fun _=>rfl) (fun _=>rfl) ?_
 intro x1 h1
 refine jG 3 2 ⟨[V 0 (bs a0),V 1 (bs a1),V 5 (pt 0 1),V 11 (iv x1),V 12 (.fn 119 [pt 0 1]),V 13 (bs a1)],[W 0 1 [.fn 118 []]],1⟩ ?_
 refine B7 (i:=5) rfl rfl rfl rfl (g:=119) (caps:=[pt 0 1]) (avs:=[bs a1]) (vs:=[bs a1,pt 0 1]) (vs0:=[bs a1,.fptr [.fn 118 []] 0]) (b:=true) (by kernel_rfl) (by kernel_rfl) rfl (by kernel_rfl) (AL (AP _) (AL (AP _) Ax)) (G6 a1) (fun _=>rfl) (fun _=>rfl) ?_
 intro x2 h2
 refine jK 6 (HN x1 x2) ?_
 intro x3 h3
 refine jG 7 1 ⟨[V 0 (bs a0),V 1 (bs a1),V 5 (pt 0 1),V 7 (iv x3)],[W 0 1 [.fn 118 []]],1⟩ ?_
 refine jN (jS ⟨[V 0 (bs a0),V 1 (bs a1),V 5 (pt 0 1),V 7 (iv x3),V 17 (bv (x3 != 0))],[W 0 1 [.fn 118 []]],1⟩ ?_)
 refine jIf ?_ ?_
 ·refine jS ⟨[V 4 (iv x3)],[],1⟩ ?_
  exact Ae (Ar (BO (iv x3)))
 refine Ah (Ab (Aj (jR (jG 0 2 ⟨[V 0 (bs a0),V 1 (bs a1),V 19 (.fn 118 []),V 20 (bs a0)],[],1⟩ ?_))))
 refine B7 (i:=2) rfl rfl rfl rfl (g:=118) (caps:=[]) (avs:=[bs a0]) (vs:=[bs a0]) (by kernel_rfl) (by kernel_rfl) rfl (AR rfl (BL _)) (AL (AP _) Ax) (L3 a0) (fun _=>rfl) (fun _=>rfl) ?_
 intro x4 h4
 refine jN ?_
 refine jIf ?_ ?_
 ·refine jR (jG 0 2 ⟨[V 22 (bs a0),V 23 (bs a1)],[],1⟩ ?_)
  refine jK 2 (Ha a0 a1) ?_
  intro x5 h5
  refine jG 3 1 ⟨[V 4 (iv x5)],[],1⟩ ?_
  exact jN (Ae (Ar (BO (iv x5))))
 refine Ah (Ab (jR (jG 0 2 ⟨[V 25 (bs a0),V 26 (bs a1)],[],1⟩ ?_)))
 refine jK 2 (MK a0 a1) ?_
 intro x6 h6
 refine jG 3 1 ⟨[V 4 (iv x6)],[],1⟩ ?_
 exact jN (Ae (BO (iv x6))))
abbrev OC:List LO:=[Ap 8 0 3]
abbrev OD:List LO:=[lm 13 0 32,Ai 14 #[AE 13] #[32] 3,lm 15 1 32,Ai 16 #[AE 15] #[32] 3,lo 17 (.call ⟨.builtin .max,#[AE 14,AE 16],#[3,3]⟩) 3,CG 18 0 3]
abbrev OE:List LO:=[Al 19 3 18 17 3 4]
abbrev OF:List LO:=[lm 20 18 3,AB 9 20 3]
abbrev OG:List LO:=[lm 21 2 100,lm 22 9 3,lo 23 (.call ⟨.value (AE 21),#[AE 22],#[3]⟩) 9,lm 24 2 100,lm 25 9 3,lo 26 (.call ⟨.value (AE 24),#[AE 25],#[3]⟩) 9,AB 10 23 9,AB 11 26 9]
abbrev OH:List LO:=[lm 27 9 3,lm 28 0 32,Ai 29 #[AE 28] #[32] 3,Al 30 3 27 29 3 4]
abbrev OJ:List LO:=[lm 31 0 32,lm 32 9 3,A6 33 32 31 32 0,AF 34 9 33 9,AB 10 34 9]
abbrev OK:List LO:=[lm 35 9 3,lm 36 1 32,Ai 37 #[AE 36] #[32] 3,Al 38 3 35 37 3 4]
abbrev OL:List LO:=[lm 39 1 32,lm 40 9 3,A6 41 32 39 40 0,AF 42 9 41 9,AB 11 42 9]
abbrev NJ:List LO:=[lm 43 3 99,lm 44 10 9,lm 45 11 9,lo 46 (.call ⟨.value (AE 43),#[AE 44,AE 45],#[9,9]⟩) 3,AB 12 46 3]
abbrev NK:List LO:=[lm 47 12 3,BM 48 3 47 0 3 4]
abbrev NL:List LO:=[lm 49 12 3,AB 8 49 3]
abbrev NM:List LO:=[Af 50 3 18 1 3 3,lm 18 50 3]
abbrev NN:List LO:=[Ap 8 0 3]
abbrev PQ:LC:=.seq (.reg false OC) (.seq (.seq (.reg false OD) (.block 0 (.loop (.seq (.reg false OE) (.seq (.cond (AE 19) .skip (.exit 0)) (.seq (.block 1 (.seq (.reg false OF) (.seq (.reg false OG) (.seq (.seq (.reg false OH) (.cond (AE 30) (.reg false OJ) .skip)) (.seq (.seq (.reg false OK) (.cond (AE 38) (.reg false OL) .skip)) (.seq (.reg false NJ) (.seq (.reg false NK) (.cond (AE 48) (.seq (.reg false NL) .ret) .skip)))))))) (.reg false NM))))))) (.seq (.reg false NN) .ret))
theorem PR:Bf E 93 51 [.tmp 8] PQ:=Bp Go.Proofs.Tryz.f93
noncomputable def Dm (a0:(List Str)) (a1:(List Str)):Int→Option (Step (Int) ((Int) ⊕ (Unit))):=fun x8=>(if (decide (x8 < (if (List.length a1:Int) > (List.length a0:Int) then (List.length a1:Int) else (List.length a0:Int))))=true then Option.bind (KK x8) (fun x18=>Option.bind (KK x8) (fun x19=>Option.bind ((if (decide (x8 < (List.length a0:Int)))=true then Option.bind (ixl a0 x8) (fun x22=>some x22) else some x18):Option (Str)) (fun x21=>Option.bind ((if (decide (x8 < (List.length a1:Int)))=true then Option.bind (ixl a1 x8) (fun x25=>some x25) else some x19):Option (Str)) (fun x24=>Option.bind (G5 x21 x24) (fun x26=>(if (x26 != 0)=true then some (Step.done (Sum.inl x26)) else some (Step.next (w64 (x8 + 1))))))))) else some (Step.done (Sum.inr ())))
noncomputable def Di (a0:(List Str)) (a1:(List Str)):Option (Int):=Option.bind (CD (Dm a0 a1) 0) (fun y=>match y with | Sum.inl x17=>some x17 | Sum.inr _=>some 0)
theorem OB (a0:(List Str)) (a1:(List Str)):Ct E 93 [.fsl 1 (List.map cS a0),.fsl 1 (List.map cS a1),.fn 90 [],.fn 97 []] (Di a0 a1) (fun r:Int=>iv r):=CN PR (by
 unfold Di
 refine jS ⟨[V 0 (.fsl 1 (List.map cS a0)),V 1 (.fsl 1 (List.map cS a1)),V 2 (.fn 90 []),V 3 (.fn 97 [])],[],0⟩ ?_
 refine Aj (jR (jG 0 6 ⟨[V 0 (.fsl 1 (List.map cS a0)),V 1 (.fsl 1 (List.map cS a1)),V 2 (.fn 90 []),V 3 (.fn 97 []),V 17 (iv (if (List.length (List.map cS a1):Int) > (List.length (List.map cS a0):Int) then (List.length (List.map cS a1):Int) else (List.length (List.map cS a0):Int))),V 18 (iv 0)],[],0⟩ ?_))
 simp only[List.length_map]
 refine jN (A4 ?_)
 refine BA (fun y=>match y with | Sum.inl x17=>⟨[V 8 (iv x17)],[],0⟩ | Sum.inr _=>⟨[],[],0⟩) (fun y=>match y with | Sum.inl x17=>.ret | Sum.inr _=>(.exit 0)) (C5 (fun x8=>⟨[V 0 (.fsl 1 (List.map cS a0)),V 1 (.fsl 1 (List.map cS a1)),V 2 (.fn 90 []),V 3 (.fn 97 []),V 17 (iv (if (List.length a1:Int) > (List.length a0:Int) then (List.length a1:Int) else (List.length a0:Int))),V 18 (iv x8)],[],0⟩) BV ?_) ?_
 ·intro x8
  unfold Dm
  refine jS ⟨[V 0 (.fsl 1 (List.map cS a0)),V 1 (.fsl 1 (List.map cS a1)),V 2 (.fn 90 []),V 3 (.fn 97 []),V 17 (iv (if (List.length a1:Int) > (List.length a0:Int) then (List.length a1:Int) else (List.length a0:Int))),V 18 (iv x8),V 19 (bv (decide (x8 < (if (List.length a1:Int) > (List.length a0:Int) then (List.length a1:Int) else (List.length a0:Int)))))],[],0⟩ ?_
  refine Aj ?_
  refine jIf ?_ ?_
  ·refine Ah (Ab (Aj (A4 (jS ⟨[V 0 (.fsl 1 (List.map cS a0)),V 1 (.fsl 1 (List.map cS a1)),V 2 (.fn 90 []),V 3 (.fn 97 []),V 9 (iv x8),V 17 (iv (if (List.length a1:Int) > (List.length a0:Int) then (List.length a1:Int) else (List.length a0:Int))),V 18 (iv x8)],[],0⟩ ?_))))
   refine jR (jG 0 2 ⟨[V 0 (.fsl 1 (List.map cS a0)),V 1 (.fsl 1 (List.map cS a1)),V 2 (.fn 90 []),V 3 (.fn 97 []),V 9 (iv x8),V 17 (iv (if (List.length a1:Int) > (List.length a0:Int) then (List.length a1:Int) else (List.length a0:Int))),V 18 (iv x8),V 21 (.fn 90 []),V 22 (iv x8)],[],0⟩ ?_)
   refine B7 (i:=2) rfl rfl rfl rfl (g:=90) (caps:=[]) (avs:=[iv x8]) (vs:=[iv x8]) (by kernel_rfl) (by kernel_rfl) rfl (AR rfl (BL _)) (AL (AP _) Ax) (Rq x8) (fun _=>rfl) (fun _=>rfl) ?_
   intro x18 h18
   refine jG 3 2 ⟨[V 0 (.fsl 1 (List.map cS a0)),V 1 (.fsl 1 (List.map cS a1)),V 2 (.fn 90 []),V 3 (.fn 97 []),V 9 (iv x8),V 17 (iv (if (List.length a1:Int) > (List.length a0:Int) then (List.length a1:Int) else (List.length a0:Int))),V 18 (iv x8),V 23 (bs x18),V 24 (.fn 90 []),V 25 (iv x8)],[],0⟩ ?_
   refine B7 (i:=5) rfl rfl rfl rfl (g:=90) (caps:=[]) (avs:=[iv x8]) (vs:=[iv x8]) (by kernel_rfl) (by kernel_rfl) rfl (AR rfl (BL _)) (AL (AP _) Ax) (Rq x8) (fun _=>rfl) (fun _=>rfl) ?_
   intro x19 h19
   refine jG 6 2 ⟨[V 0 (.fsl 1 (List.map cS a0)),V 1 (.fsl 1 (List.map cS a1)),V 2 (.fn 90 []),V 3 (.fn 97 []),V 9 (iv x8),V 10 (bs x18),V 11 (bs x19),V 17 (iv (if (List.length a1:Int) > (List.length a0:Int) then (List.length a1:Int) else (List.length a0:Int))),V 18 (iv x8)],[],0⟩ ?_
   refine jN (Aj ?_)
   refine BA (fun x21=>⟨[V 0 (.fsl 1 (List.map cS a0)),V 1 (.fsl 1 (List.map cS a1)),V 2 (.fn 90 []),V 3 (.fn 97 []),V 9 (iv x8),V 10 (bs x21),V 11 (bs x19),V 17 (iv (if (List.length a1:Int) > (List.length a0:Int) then (List.length a1:Int) else (List.length a0:Int))),V 18 (iv x8)],[],0⟩) (fun x21=>.normal) ?_ ?_
   ·refine jR (jG 0 4 ⟨[V 0 (.fsl 1 (List.map cS a0)),V 1 (.fsl 1 (List.map cS a1)),V 2 (.fn 90 []),V 3 (.fn 97 []),V 9 (iv x8),V 10 (bs x18),V 11 (bs x19),V 17 (iv (if (List.length a1:Int) > (List.length a0:Int) then (List.length a1:Int) else (List.length a0:Int))),V 18 (iv x8),V 30 (bv (decide (x8 < (List.length (List.map cS a0):Int))))],[],0⟩ ?_)
    simp only[List.length_map]
    refine jN ?_
    refine jIf ?_ ?_
    ·refine CY (jG 0 2 ⟨[V 0 (.fsl 1 (List.map cS a0)),V 1 (.fsl 1 (List.map cS a1)),V 2 (.fn 90 []),V 3 (.fn 97 []),V 9 (iv x8),V 11 (bs x19),V 17 (iv (if (List.length a1:Int) > (List.length a0:Int) then (List.length a1:Int) else (List.length a0:Int))),V 18 (iv x8),V 31 (.fsl 1 (List.map cS a0)),V 32 (iv x8)],[],0⟩ ?_)
     refine A5 (i:=2) (mo:=ixl a0 x8) rfl rfl rfl rfl (fun _ hc=>EV (c:=cS) (sz:=1) (e:=9) (kk:=.i64) (by kernel_rfl) (by kernel_rfl) (by kernel_rfl) (by kernel_rfl) hc) (fun _=>rfl) ?_
     intro x22 h22
     refine jG 3 2 ⟨[V 0 (.fsl 1 (List.map cS a0)),V 1 (.fsl 1 (List.map cS a1)),V 2 (.fn 90 []),V 3 (.fn 97 []),V 9 (iv x8),V 10 (bs x22),V 11 (bs x19),V 17 (iv (if (List.length a1:Int) > (List.length a0:Int) then (List.length a1:Int) else (List.length a0:Int))),V 18 (iv x8)],[],0⟩ ?_
     exact Ad rfl (AU rfl BV)
    exact Ah (AU rfl BV)
   intro x21
   refine Ab (Aj ?_)
   refine BA (fun x24=>⟨[V 0 (.fsl 1 (List.map cS a0)),V 1 (.fsl 1 (List.map cS a1)),V 2 (.fn 90 []),V 3 (.fn 97 []),V 10 (bs x21),V 11 (bs x24),V 17 (iv (if (List.length a1:Int) > (List.length a0:Int) then (List.length a1:Int) else (List.length a0:Int))),V 18 (iv x8)],[],0⟩) (fun x24=>.normal) ?_ ?_
   ·refine jR (jG 0 4 ⟨[V 0 (.fsl 1 (List.map cS a0)),V 1 (.fsl 1 (List.map cS a1)),V 2 (.fn 90 []),V 3 (.fn 97 []),V 9 (iv x8),V 10 (bs x21),V 11 (bs x19),V 17 (iv (if (List.length a1:Int) > (List.length a0:Int) then (List.length a1:Int) else (List.length a0:Int))),V 18 (iv x8),V 38 (bv (decide (x8 < (List.length (List.map cS a1):Int))))],[],0⟩ ?_)
    simp only[List.length_map]
    refine jN ?_
    refine jIf ?_ ?_
    ·refine CY (jG 0 2 ⟨[V 0 (.fsl 1 (List.map cS a0)),V 1 (.fsl 1 (List.map cS a1)),V 2 (.fn 90 []),V 3 (.fn 97 []),V 10 (bs x21),V 17 (iv (if (List.length a1:Int) > (List.length a0:Int) then (List.length a1:Int) else (List.length a0:Int))),V 18 (iv x8),V 39 (.fsl 1 (List.map cS a1)),V 40 (iv x8)],[],0⟩ ?_)
     refine A5 (i:=2) (mo:=ixl a1 x8) rfl rfl rfl rfl (fun _ hc=>EV (c:=cS) (sz:=1) (e:=9) (kk:=.i64) (by kernel_rfl) (by kernel_rfl) (by kernel_rfl) (by kernel_rfl) hc) (fun _=>rfl) ?_
     intro x25 h25
     refine jG 3 2 ⟨[V 0 (.fsl 1 (List.map cS a0)),V 1 (.fsl 1 (List.map cS a1)),V 2 (.fn 90 []),V 3 (.fn 97 []),V 10 (bs x21),V 11 (bs x25),V 17 (iv (if (List.length a1:Int) > (List.length a0:Int) then (List.length a1:Int) else (List.length a0:Int))),V 18 (iv x8)],[],0⟩ ?_
     exact Ad rfl (AU rfl BV)
    exact Ah (AU rfl BV)
   intro x24
   refine Ab (jR (jG 0 3 ⟨[V 0 (.fsl 1 (List.map cS a0)),V 1 (.fsl 1 (List.map cS a1)),V 2 (.fn 90 []),V 3 (.fn 97 []),V 17 (iv (if (List.length a1:Int) > (List.length a0:Int) then (List.length a1:Int) else (List.length a0:Int))),V 18 (iv x8),V 43 (.fn 97 []),V 44 (bs x21),V 45 (bs x24)],[],0⟩ ?_))
   refine B7 (i:=3) rfl rfl rfl rfl (g:=97) (caps:=[]) (avs:=[bs x21,bs x24]) (vs:=[bs x21,bs x24]) (by kernel_rfl) (by kernel_rfl) rfl (AR rfl (AR rfl (BL _))) (AL (AP _) (AL (AP _) Ax)) (XD x21 x24) (fun _=>rfl) (fun _=>rfl) ?_
   intro x26 h26
   refine jG 4 1 ⟨[V 0 (.fsl 1 (List.map cS a0)),V 1 (.fsl 1 (List.map cS a1)),V 2 (.fn 90 []),V 3 (.fn 97 []),V 12 (iv x26),V 17 (iv (if (List.length a1:Int) > (List.length a0:Int) then (List.length a1:Int) else (List.length a0:Int))),V 18 (iv x8)],[],0⟩ ?_
   refine jN (jS ⟨[V 0 (.fsl 1 (List.map cS a0)),V 1 (.fsl 1 (List.map cS a1)),V 2 (.fn 90 []),V 3 (.fn 97 []),V 12 (iv x26),V 17 (iv (if (List.length a1:Int) > (List.length a0:Int) then (List.length a1:Int) else (List.length a0:Int))),V 18 (iv x8),V 48 (bv (x26 != 0))],[],0⟩ ?_)
   refine jIf ?_ ?_
   ·refine jS ⟨[V 8 (iv x26)],[],0⟩ ?_
    exact Ae (BG (Ar (Bm rfl nofun BV)))
   refine Ah (BX (Ab (jT ⟨[V 0 (.fsl 1 (List.map cS a0)),V 1 (.fsl 1 (List.map cS a1)),V 2 (.fn 90 []),V 3 (.fn 97 []),V 17 (iv (if (List.length a1:Int) > (List.length a0:Int) then (List.length a1:Int) else (List.length a0:Int))),V 18 (iv (w64 (x8 + 1)))],[],0⟩ ?_)))
   exact C7 BV
  exact Cp (Cq (Bm rfl nofun BV))
 rintro (x17 | _)
 ·exact BG (Ar (BO (iv x17)))
 refine C6 (Ab (jS ⟨[V 8 (iv 0)],[],0⟩ ?_))
 exact Ae (BO (iv 0)))
abbrev pW:List LO:=[BT 1 34 0 0,Ap 2 0 3]
abbrev pX:List LO:=[AA 4 34 1 2 0,AF 5 5 4 5,Bt 6 5 5 0 5 4,lm 7 6 4,AM 8 34 1 4 0 7 true,Aa 9 4 8 4 7 true,Ay 10 4 9 4 7 true,AS 11 7 10 4,lm 12 11 4,AM 13 34 1 6 0 12 true,Aa 14 4 13 4 12 true,AS 15 12 14 4,AB 3 15 4]
abbrev pY:List LO:=[Ap 2 0 3]
abbrev pZ:List LO:=[AA 17 34 1 2 0,AF 18 5 17 5,Bt 19 5 18 0 5 4,AB 16 19 4]
abbrev pI:List LO:=[Ap 2 4 3]
abbrev p9:List LO:=[AA 21 34 1 2 0,AF 22 5 21 5,Bt 23 5 22 97 5 4,AB 20 23 4]
abbrev qA:List LO:=[Ap 2 1 3]
abbrev qB:List LO:=[AA 25 34 1 2 0,AF 26 5 25 5,Bt 27 5 26 98 5 4,AB 24 27 4]
abbrev qC:List LO:=[Ap 2 2 3]
abbrev jA:List LO:=[Ap 2 3 3]
abbrev vK:LC:=.seq (.reg false pW) (.seq (.block 0 (.seq (.reg false pX) (.cond (AE 3) (.seq (.reg false pY) .ret) (.seq (.reg false pZ) (.cond (AE 16) (.seq (.reg false pI) .ret) (.seq (.reg false p9) (.cond (AE 20) (.seq (.reg false qA) .ret) (.seq (.reg false qB) (.cond (AE 24) (.seq (.reg false qC) .ret) .skip))))))))) (.seq (.reg false jA) .ret))
theorem vL:Bf E 95 28 [.tmp 2] vK:=Bp Go.Proofs.Tryz.f95
noncomputable def Lq (a0:Ac):Option (Int):=(if (((a0.Pre == 0) && (!a0.Post)) && a0.Dev)=true then some 0 else (if (a0.Pre == 0)=true then some 4 else (if (a0.Pre == 97)=true then some 1 else (if (a0.Pre == 98)=true then some 2 else some 3))))
theorem V6 (a0:Ac):Ct E 95 [.agg (AJ a0)] (Lq a0) (fun r:Int=>iv r):=CN vL (by
 unfold Lq
 refine jS ⟨[V 1 (pt 0 9)],[W 0 9 (AJ a0)],1⟩ ?_
 refine Aj (A4 (jS ⟨[V 1 (pt 0 9),V 3 (bv (((a0.Pre == 0) && (!a0.Post)) && a0.Dev))],[W 0 9 (AJ a0)],1⟩ ?_))
 refine jIf ?_ ?_
 ·refine jS ⟨[V 2 (iv 0)],[],1⟩ ?_
  exact Ae (BG (Ar (BO (iv 0))))
 refine jS ⟨[V 1 (pt 0 9),V 16 (bv (a0.Pre == 0))],[W 0 9 (AJ a0)],1⟩ ?_
 refine jIf ?_ ?_
 ·refine jS ⟨[V 2 (iv 4)],[],1⟩ ?_
  exact Ae (BG (Ar (BO (iv 4))))
 refine jS ⟨[V 1 (pt 0 9),V 20 (bv (a0.Pre == 97))],[W 0 9 (AJ a0)],1⟩ ?_
 refine jIf ?_ ?_
 ·refine jS ⟨[V 2 (iv 1)],[],1⟩ ?_
  exact Ae (BG (Ar (BO (iv 1))))
 refine jS ⟨[V 24 (bv (a0.Pre == 98))],[],1⟩ ?_
 refine jIf ?_ ?_
 ·refine jS ⟨[V 2 (iv 2)],[],1⟩ ?_
  exact Ae (BG (Ar (BO (iv 2))))
 refine Ah (BX (Ab (jS ⟨[V 2 (iv 3)],[],1⟩ ?_)))
 exact Ae (BO (iv 3)))
abbrev qE:List LO:=[Ap 2 0 3]
abbrev qF:List LO:=[lm 3 0 4]
abbrev qG:List LO:=[Ap 2 1 3]
abbrev qH:List LO:=[Ap 2 0 3]
abbrev vM:LC:=.seq (.reg false qE) (.seq (.seq (.reg false qF) (.cond (AE 3) (.seq (.reg false qG) .ret) .skip)) (.seq (.reg false qH) .ret))
theorem vN:Bf E 96 4 [.tmp 2] vM:=Bp Go.Proofs.Tryz.f96
noncomputable def Jd (a0:Bool):Option (Int):=(if a0=true then some 1 else some 0)
theorem LU (a0:Bool):Ct E 96 [bv a0] (Jd a0) (fun r:Int=>iv r):=CN vN (by
 unfold Jd
 refine jS ⟨[V 0 (bv a0)],[],0⟩ ?_
 refine Aj (jS ⟨[V 3 (bv a0)],[],0⟩ ?_)
 refine jIf ?_ ?_
 ·refine jS ⟨[V 2 (iv 1)],[],0⟩ ?_
  exact Ae (Ar (BO (iv 1)))
 refine Ah (Ab (jS ⟨[V 2 (iv 0)],[],0⟩ ?_))
 exact Ae (BO (iv 0)))
abbrev pC:List LO:=[BT 2 34 0 0,BT 3 34 1 0,Ap 4 0 3]
abbrev pD:List LO:=[AF 7 34 2 34,AN 8 88 #[AE 7] #[34] 4,BR 9 4 8 4,lm 10 9 4,Aa 11 34 3 34 10 false,A7 12 88 #[AE 11] #[34] 4 10 false,Ay 13 4 12 4 10 false,Ak 14 10 13 4]
abbrev pE:List LO:=[Ap 4 0 3]
abbrev pF:List LO:=[Bd 5 (.func 89) 100]
abbrev pG:List LO:=[Bd 6 (.func 90) 100]
abbrev pH:List LO:=[AA 15 34 2 0 0,AF 16 9 15 9,AA 17 34 3 0 0,AF 18 9 17 9,AN 19 92 #[AE 16,AE 18] #[9,9] 3,AA 20 34 2 1 0,AF 21 32 20 32,AA 22 34 3 1 0,AF 23 32 22 32,lm 24 5 100,AN 25 93 #[AE 21,AE 23,AE 24,.func 92] #[32,32,100,99] 3,AF 26 34 2 34,AN 27 95 #[AE 26] #[34] 3,AF 28 34 3 34,AN 29 95 #[AE 28] #[34] 3,AN 30 94 #[AE 27,AE 29] #[3,3] 3,AA 31 34 2 3 0,AF 32 9 31 9,AA 33 34 3 3 0,AF 34 9 33 9,AN 35 92 #[AE 32,AE 34] #[9,9] 3,AA 36 34 2 4 0,AF 37 4 36 4,AN 38 96 #[AE 37] #[4] 3,AA 39 34 3 4 0,AF 40 4 39 4,AN 41 96 #[AE 40] #[4] 3,lo 42 (.binOp .sub 3 (AE 38) (AE 41) 3) 3,AA 43 34 2 5 0,AF 44 9 43 9,AA 45 34 3 5 0,AF 46 9 45 9,AN 47 92 #[AE 44,AE 46] #[9,9] 3,AA 48 34 3 6 0,AF 49 4 48 4,AN 50 96 #[AE 49] #[4] 3,AA 51 34 2 6 0,AF 52 4 51 4,AN 53 96 #[AE 52] #[4] 3,lo 54 (.binOp .sub 3 (AE 50) (AE 53) 3) 3,AA 55 34 2 7 0,AF 56 9 55 9,AA 57 34 3 7 0,AF 58 9 57 9,AN 59 92 #[AE 56,AE 58] #[9,9] 3,AA 60 34 2 8 0,AF 61 32 60 32,AA 62 34 3 8 0,AF 63 32 62 32,lm 64 6 100,AN 65 93 #[AE 61,AE 63,AE 64,.func 97] #[32,32,100,99] 3,lo 66 (.buildSlice 117 9 #[(0,AE 19),(1,AE 25),(2,AE 30),(3,AE 35),(4,AE 42),(5,AE 47),(6,AE 54),(7,AE 59),(8,AE 65)]) 117,AN 67 91 #[AE 66] #[117] 3,AB 4 67 3]
abbrev u3:LC:=.seq (.reg false pC) (.seq (.seq (.reg false pD) (.cond (AE 14) (.seq (.reg false pE) .ret) .skip)) (.seq (.reg false pF) (.seq (.reg false pG) (.seq (.reg true pH) .ret))))
theorem u4:Bf E 65 68 [.tmp 4] u3:=Bp Go.Proofs.Tryz.f65
noncomputable def Fu (a0:Ac) (a1:Ac):Option (Int):=Option.bind (TB a0) (fun x1=>Option.bind (if (!x1)=true then some true else Option.bind (TB a1) (fun x4=>some (!x4)):Option (Bool)) (fun x3=>(if x3=true then some 0 else Option.bind (HE a0.Epoch a1.Epoch) (fun x5=>Option.bind (Dj a0.Release a1.Release) (fun x6=>Option.bind (Lq a0) (fun x7=>Option.bind (Lq a1) (fun x8=>Option.bind (Dq x7 x8) (fun x9=>Option.bind (HE a0.PreNum a1.PreNum) (fun x10=>Option.bind (Jd a0.Post) (fun x11=>Option.bind (Jd a1.Post) (fun x12=>Option.bind (HE a0.PostNum a1.PostNum) (fun x13=>Option.bind (Jd a1.Dev) (fun x14=>Option.bind (Jd a0.Dev) (fun x15=>Option.bind (HE a0.DevNum a1.DevNum) (fun x16=>Option.bind (Di a0.Local a1.Local) (fun x17=>Option.bind (JO [x5,x6,x9,x10,(w64 (x11 - x12)),x13,(w64 (x14 - x15)),x16,x17]) (fun x18=>some x18)))))))))))))))))
theorem Hp (a0:Ac) (a1:Ac):Ct E 65 [.agg (AJ a0),.agg (AJ a1)] (Fu a0 a1) (fun r:Int=>iv r):=CN u4 (by
 unfold Fu
 refine jS ⟨[V 2 (pt 0 9),V 3 (pt 1 9)],[W 0 9 (AJ a0),W 1 9 (AJ a1)],2⟩ ?_
 refine Aj (jR (jG 0 1 ⟨[V 2 (pt 0 9),V 3 (pt 1 9),V 7 (.agg (AJ a0))],[W 0 9 (AJ a0),W 1 9 (AJ a1)],2⟩ ?_))
 refine jK 1 (dF a0) ?_
 intro x1 h1
 refine jG 2 2 ⟨[V 2 (pt 0 9),V 3 (pt 1 9),V 10 (bv (!x1))],[W 0 9 (AJ a0),W 1 9 (AJ a1)],2⟩ ?_
 refine A2 4 4 (fun x3=>⟨[V 2 (pt 0 9),V 3 (pt 1 9),V 14 (bv x3)],[W 0 9 (AJ a0),W 1 9 (AJ a1)],2⟩) ?_ ?_
 ·refine jSp 10 ?_ ?_
  ·refine jG 0 4 ⟨[V 2 (pt 0 9),V 3 (pt 1 9),V 14 (bv true)],[W 0 9 (AJ a0),W 1 9 (AJ a1)],2⟩ ?_
   exact Ad rfl (AU rfl (wkR [(0,some 0),(1,some 1)] (Am _) (pc (hC 0) (pc (hC 1) AD))))
  refine jG 0 1 ⟨[V 2 (pt 0 9),V 3 (pt 1 9),(10,.lit false),V 11 (.agg (AJ a1))],[W 0 9 (AJ a0),W 1 9 (AJ a1)],2⟩ ?_
  refine jK 1 (dF a1) ?_
  intro x4 h4
  refine jG 2 2 ⟨[V 2 (pt 0 9),V 3 (pt 1 9),V 14 (bv (!x4))],[W 0 9 (AJ a0),W 1 9 (AJ a1)],2⟩ ?_
  exact Ad rfl (AU rfl (wkR [(0,some 0),(1,some 1)] (Am _) (pc (hC 0) (pc (hC 1) AD))))
 intro x3
 refine jN ?_
 refine jIf ?_ ?_
 ·refine jS ⟨[V 4 (iv 0)],[],2⟩ ?_
  exact Ae (Ar (BO (iv 0)))
 refine Ah (Ab (jS ⟨[V 2 (pt 0 9),V 3 (pt 1 9),V 5 (.fn 89 [])],[W 0 9 (AJ a0),W 1 9 (AJ a1)],2⟩ ?_))
 refine jS ⟨[V 2 (pt 0 9),V 3 (pt 1 9),V 5 (.fn 89 []),V 6 (.fn 90 [])],[W 0 9 (AJ a0),W 1 9 (AJ a1)],2⟩ ?_
 refine jR (jG 0 4 ⟨[V 2 (pt 0 9),V 3 (pt 1 9),V 5 (.fn 89 []),V 6 (.fn 90 []),V 16 (bs a0.Epoch),V 18 (bs a1.Epoch)],[W 0 9 (AJ a0),W 1 9 (AJ a1)],2⟩ ?_)
 refine jK 4 (Ha a0.Epoch a1.Epoch) ?_
 intro x5 h5
 refine jG 5 5 ⟨[V 2 (pt 0 9),V 3 (pt 1 9),V 6 (.fn 90 []),V 19 (iv x5),V 21 (.fsl 1 (List.map cS a0.Release)),V 23 (.fsl 1 (List.map cS a1.Release)),V 24 (.fn 89 [])],[W 0 9 (AJ a0),W 1 9 (AJ a1)],2⟩ ?_
 refine jK 10 (OM a0.Release a1.Release) ?_
 intro x6 h6
 refine jG 11 1 ⟨[V 2 (pt 0 9),V 3 (pt 1 9),V 6 (.fn 90 []),V 19 (iv x5),V 25 (iv x6),V 26 (.agg (AJ a0))],[W 0 9 (AJ a0),W 1 9 (AJ a1)],2⟩ ?_
 refine jK 12 (V6 a0) ?_
 intro x7 h7
 refine jG 13 1 ⟨[V 2 (pt 0 9),V 3 (pt 1 9),V 6 (.fn 90 []),V 19 (iv x5),V 25 (iv x6),V 27 (iv x7),V 28 (.agg (AJ a1))],[W 0 9 (AJ a0),W 1 9 (AJ a1)],2⟩ ?_
 refine jK 14 (V6 a1) ?_
 intro x8 h8
 refine jK 15 (HN x7 x8) ?_
 intro x9 h9
 refine jG 16 4 ⟨[V 2 (pt 0 9),V 3 (pt 1 9),V 6 (.fn 90 []),V 19 (iv x5),V 25 (iv x6),V 30 (iv x9),V 32 (bs a0.PreNum),V 34 (bs a1.PreNum)],[W 0 9 (AJ a0),W 1 9 (AJ a1)],2⟩ ?_
 refine jK 20 (Ha a0.PreNum a1.PreNum) ?_
 intro x10 h10
 refine jG 21 2 ⟨[V 2 (pt 0 9),V 3 (pt 1 9),V 6 (.fn 90 []),V 19 (iv x5),V 25 (iv x6),V 30 (iv x9),V 35 (iv x10),V 37 (bv a0.Post)],[W 0 9 (AJ a0),W 1 9 (AJ a1)],2⟩ ?_
 refine jK 23 (LU a0.Post) ?_
 intro x11 h11
 refine jG 24 2 ⟨[V 2 (pt 0 9),V 3 (pt 1 9),V 6 (.fn 90 []),V 19 (iv x5),V 25 (iv x6),V 30 (iv x9),V 35 (iv x10),V 38 (iv x11),V 40 (bv a1.Post)],[W 0 9 (AJ a0),W 1 9 (AJ a1)],2⟩ ?_
 refine jK 26 (LU a1.Post) ?_
 intro x12 h12
 refine jG 27 5 ⟨[V 2 (pt 0 9),V 3 (pt 1 9),V 6 (.fn 90 []),V 19 (iv x5),V 25 (iv x6),V 30 (iv x9),V 35 (iv x10),V 42 (iv (w64 (x11 - x12))),V 44 (bs a0.PostNum),V 46 (bs a1.PostNum)],[W 0 9 (AJ a0),W 1 9 (AJ a1)],2⟩ ?_
 refine jK 32 (Ha a0.PostNum a1.PostNum) ?_
 intro x13 h13
 refine jG 33 2 ⟨[V 2 (pt 0 9),V 3 (pt 1 9),V 6 (.fn 90 []),V 19 (iv x5),V 25 (iv x6),V 30 (iv x9),V 35 (iv x10),V 42 (iv (w64 (x11 - x12))),V 47 (iv x13),V 49 (bv a1.Dev)],[W 0 9 (AJ a0),W 1 9 (AJ a1)],2⟩ ?_
 refine jK 35 (LU a1.Dev) ?_
 intro x14 h14
 refine jG 36 2 ⟨[V 2 (pt 0 9),V 3 (pt 1 9),V 6 (.fn 90 []),V 19 (iv x5),V 25 (iv x6),V 30 (iv x9),V 35 (iv x10),V 42 (iv (w64 (x11 - x12))),V 47 (iv x13),V 50 (iv x14),V 52 (bv a0.Dev)],[W 0 9 (AJ a0),W 1 9 (AJ a1)],2⟩ ?_
 refine jK 38 (LU a0.Dev) ?_
 intro x15 h15
 refine jG 39 5 ⟨[V 2 (pt 0 9),V 3 (pt 1 9),V 6 (.fn 90 []),V 19 (iv x5),V 25 (iv x6),V 30 (iv x9),V 35 (iv x10),V 42 (iv (w64 (x11 - x12))),V 47 (iv x13),V 54 (iv (w64 (x14 - x15))),V 56 (bs a0.DevNum),V 58 (bs a1.DevNum)],[W 0 9 (AJ a0),W 1 9 (AJ a1)],2⟩ ?_
 refine jK 44 (Ha a0.DevNum a1.DevNum) ?_
 intro x16 h16
 refine jG 45 5 ⟨[V 19 (iv x5),V 25 (iv x6),V 30 (iv x9),V 35 (iv x10),V 42 (iv (w64 (x11 - x12))),V 47 (iv x13),V 54 (iv (w64 (x14 - x15))),V 59 (iv x16),V 61 (.fsl 1 (List.map cS a0.Local)),V 63 (.fsl 1 (List.map cS a1.Local)),V 64 (.fn 90 [])],[],2⟩ ?_
 refine jK 50 (OB a0.Local a1.Local) ?_
 intro x17 h17
 refine jG 51 1 ⟨[V 66 (.fsl 1 (List.map cI [x5,x6,x9,x10,(w64 (x11 - x12)),x13,(w64 (x14 - x15)),x16,x17]))],[],2⟩ ?_
 refine jK 52 (T4 [x5,x6,x9,x10,(w64 (x11 - x12)),x13,(w64 (x14 - x15)),x16,x17]) ?_
 intro x18 h18
 refine jG 53 1 ⟨[V 4 (iv x18)],[],2⟩ ?_
 exact jN (Ae (BO (iv x18))))
abbrev KO:List LO:=[AF 5 44 1 44,AN 6 38 #[AE 5] #[44] 0]
abbrev KP:List LO:=[AF 7 44 1 44,AH 8 7 0,AA 9 46 8 1 0,AF 10 3 9 3,AF 11 44 1 44,AH 12 11 0,AA 13 46 12 0 0,AF 14 9 13 9,Ai 15 #[AE 14] #[9] 3,CW 16 3 10 15 3 4]
abbrev KQ:List LO:=[Ap 3 0 3]
abbrev KR:List LO:=[AF 17 44 1 44,AN 18 19 #[AE 17] #[44] 4]
abbrev KS:List LO:=[AF 21 44 1 44,AN 22 38 #[AE 21] #[44] 0]
abbrev KT:List LO:=[lm 23 3 3,Aw 24 3 23 32 3 4,lm 25 24 4,Aa 26 44 1 44 25 true,Ao 27 26 0 25 true,AM 28 46 27 1 0 25 true,Aa 29 3 28 3 25 true,Aa 30 44 1 44 25 true,Ao 31 30 0 25 true,AM 32 46 31 0 0 25 true,Aa 33 9 32 9 25 true,BF 34 #[AE 33] #[9] 3 25 true,lg 35 (.binOp .lss 3 (AE 29) (AE 34) 3) 4 25 true,AS 36 25 35 4]
abbrev KU:List LO:=[AF 37 44 1 44,AF 38 44 1 44,AH 39 38 0,AA 40 46 39 1 0,AF 41 3 40 3,AN 42 39 #[AE 37,.const (.int .i64 12),AE 41] #[44,23,3] 0]
abbrev KW:List LO:=[AF 43 44 1 44,AN 44 40 #[AE 43] #[44] 9,lo 45 (.build 39 #[(0,AE 44)]) 39,BH 4 39 0,AO 39 4 45 0]
abbrev KX:List LO:=[AF 46 44 1 44,AN 47 19 #[AE 46] #[44] 4,BR 48 4 47 4]
abbrev Jf:List LO:=[AF 50 44 1 44,AA 51 39 4 0 0,AF 52 9 51 9,AN 53 41 #[AE 50,AE 52] #[44,9] 58,lm 49 53 58,Aq 54 49 0 9,Aq 55 49 1 4,AA 56 39 4 1 0,AO 9 56 54 0,AA 57 39 4 2 0,AO 4 57 55 0]
abbrev Jg:List LO:=[AF 58 44 1 44,AN 59 19 #[AE 58] #[44] 4,BR 60 4 59 4,lm 61 60 4,lmg 62 0 62 61 false,Aa 63 39 4 39 61 false,lg 64 (.call ⟨.value (AE 62),#[AE 63],#[39]⟩) 4 61 false,Ay 65 4 64 4 61 false,Ak 66 61 65 4]
abbrev Jh:List LO:=[AF 67 44 1 44,AN 68 38 #[AE 67] #[44] 0]
abbrev Ji:List LO:=[AF 69 44 1 44,AH 70 69 0,AA 71 46 70 1 0,AF 72 3 71 3,AF 73 44 1 44,AH 74 73 0,AA 75 46 74 0 0,AF 76 9 75 9,Ai 77 #[AE 76] #[9] 3,CW 78 3 72 77 3 4]
abbrev Jj:List LO:=[AF 79 44 1 44,AN 80 42 #[AE 79,.const (.int .u8 44)] #[44,5] 4,BR 81 4 80 4]
abbrev Jk:List LO:=[AF 82 44 1 44,AN 83 43 #[AE 82] #[44] 0]
abbrev Jl:List LO:=[AF 84 44 1 44,AH 85 84 0,AA 86 46 85 1 0,AF 87 3 86 3,Af 88 3 87 1 3 3,AH 89 84 0,AA 90 46 89 1 0,AO 3 90 88 0]
abbrev Jm:List LO:=[lm 19 3 3,Af 20 3 19 1 3 3,AB 3 20 3]
abbrev K4:LC:=.seq (.reg false KO) (.seq (.seq (.reg true KP) (.cond (AE 16) .ret .skip)) (.seq (.reg false KQ) (.block 0 (.loop (.seq (.seq (.reg false KR) (.cond (AE 18) .skip (.exit 0))) (.seq (.block 1 (.seq (.reg false KS) (.seq (.seq (.reg true KT) (.cond (AE 36) (.seq (.reg true KU) .ret) .skip)) (.seq (.reg false KW) (.seq (.seq (.reg false KX) (.cond (AE 48) .ret .skip)) (.seq (.reg false Jf) (.seq (.seq (.reg false Jg) (.cond (AE 66) .ret .skip)) (.seq (.reg false Jh) (.seq (.seq (.reg true Ji) (.cond (AE 78) .ret .skip)) (.seq (.seq (.reg false Jj) (.cond (AE 81) (.seq (.reg false Jk) .ret) .skip)) (.reg false Jl))))))))))) (.reg false Jm)))))))
theorem K5:Bf E 37 91 [] K4:=Bp Go.Proofs.Tryz.f37
abbrev MS:List LO:=[Ag 2 4]
abbrev MT:List LO:=[lm 3 0 44,AH 4 3 0,AA 5 46 4 2 0,AA 6 25 5 0 0,AF 7 23 6 23,Aw 8 23 7 0 23 4,AB 2 8 4]
abbrev NZ:LC:=.seq (.reg false MS) (.seq (.reg false MT) .ret)
theorem Na:Bf E 19 9 [.tmp 2] NZ:=Bp Go.Proofs.Tryz.f19
noncomputable def Ba (a0:Str) (a1:Int) (a2:Int) (a3:Int):Option (Bool):=some (a2 == 0)
theorem Ch (a0:Str) (a1:Int) (a2:Int) (a3:Int):Ct E 19 [.fptr [bs a0,iv a1,iv a2,iv a3] 0] (Ba a0 a1 a2 a3) (fun r:Bool=>bv r):=CN Na (by
 unfold Ba
 refine jS ⟨[V 0 (.fptr [bs a0,iv a1,iv a2,iv a3] 0)],[],0⟩ ?_
 refine jS ⟨[V 2 (bv (a2 == 0))],[],0⟩ ?_
 exact Ae (BO (bv (a2 == 0))))
abbrev Oa:List LO:=[lm 2 0 44,lm 3 0 44,AH 4 3 0,AA 5 46 4 0 0,AF 6 9 5 9,lm 7 0 44,AH 8 7 0,AA 9 46 8 1 0,AF 10 3 9 3,AN 11 69 #[AE 6,AE 10,.const (.int .i64 6)] #[9,3,3] 3,AH 12 2 0,AA 13 46 12 1 0,AO 3 13 11 0]
abbrev Hw:LC:=.reg true Oa
theorem Pb:Bf E 38 14 [] Hw:=Bp Go.Proofs.Tryz.f38
abbrev Pa (a0:Str) (a1:Int) (a2:Int) (a3:Int) (r:Int):CS:=⟨[],[W 0 4 [bs a0,iv r,iv a2,iv a3]],1⟩
noncomputable def CK (a0:Str) (a1:Int) (a2:Int) (a3:Int):Option (Int):=Option.bind (Dy a0 a1 6) (fun x3=>some x3)
theorem Do (a0:Str) (a1:Int) (a2:Int) (a3:Int):CtM E 38 [pt 0 4] [W 0 4 [bs a0,iv a1,iv a2,iv a3]] 1 (CK a0 a1 a2 a3) (fun r:Int=>.tup []) (fun r:Int=>[W 0 4 [bs a0,iv r,iv a2,iv a3]]) 1:=B5 (N:=14) (L:=Hw) Pb rfl (Nat.le_of_ble_eq_true rfl) (fun F hF=>by
 unfold CK
 refine CY (jG 0 9 ⟨[V 2 (pt 0 4),V 6 (bs a0),V 10 (iv a1)],[W 0 4 [bs a0,iv a1,iv a2,iv a3]],1⟩ ?_)
 refine jK 9 (E2 a0 a1 6) ?_
 intro x3 h3
 refine jG 10 3 ⟨[],[W 0 4 [bs a0,iv x3,iv a2,iv a3]],1⟩ ?_
 exact Ad rfl (BY (Pa a0 a1 a2 a3 x3) (.inl rfl) (wkR [(0,some 0)] (An hF (k:=1) rfl) (pc (hC 0) AD))))
abbrev Qu:List LO:=[lm 6 0 44,AN 7 19 #[AE 6] #[44] 4]
abbrev Qv:List LO:=[lm 8 0 44,lm 9 1 23,lm 10 2 3,lo 11 (.build 25 #[(0,AE 9),(1,AE 10)]) 25,AH 12 8 0,AA 13 46 12 2 0,AO 25 13 11 0]
abbrev KZ:LC:=.seq (.reg false Qu) (.cond (AE 7) (.reg false Qv) .skip)
theorem SM:Bf E 39 14 [] KZ:=Bp Go.Proofs.Tryz.f39
abbrev KY (a0:Str) (a1:Int) (a2:Int) (a3:Int) (a4:Int) (a5:Int) (r:Int × Int):CS:=⟨[],[W 0 4 [bs a0,iv a1,iv r.1,iv r.2]],1⟩
noncomputable def Bu (a0:Str) (a1:Int) (a2:Int) (a3:Int) (a4:Int) (a5:Int):Option (Int × Int):=Option.bind (Ba a0 a1 a2 a3) (fun x4=>(if x4=true then some (a4,a5) else some (a2,a3)))
theorem CI (a0:Str) (a1:Int) (a2:Int) (a3:Int) (a4:Int) (a5:Int):CtM E 39 [pt 0 4,iv a4,iv a5] [W 0 4 [bs a0,iv a1,iv a2,iv a3]] 1 (Bu a0 a1 a2 a3 a4 a5) (fun r:Int × Int=>.tup []) (fun r:Int × Int=>[W 0 4 [bs a0,iv a1,iv r.1,iv r.2]]) 1:=B5 (N:=14) (L:=KZ) SM rfl (Nat.le_of_ble_eq_true rfl) (fun F hF=>by
 unfold Bu
 refine jR (jG 0 1 ⟨[V 0 (pt 0 4),V 1 (iv a4),V 2 (iv a5),V 6 (pt 0 4)],[W 0 4 [bs a0,iv a1,iv a2,iv a3]],1⟩ ?_)
 refine By (i:=1) rfl rfl rfl rfl (vs:=[pt 0 4]) (vs0:=[.fptr [bs a0,iv a1,iv a2,iv a3] 0]) (b:=true) (by kernel_rfl) (by kernel_rfl) (AL (AP _) Ax) (Ch a0 a1 a2 a3) (fun _=>rfl) (fun _=>rfl) ?_
 intro x4 h4
 refine jN ?_
 refine jIf ?_ ?_
 ·refine jT ⟨[],[W 0 4 [bs a0,iv a1,iv a4,iv a5]],1⟩ ?_
  exact BY (KY a0 a1 a2 a3 a4 a5 (a4,a5)) (.inl rfl) (wkR [(0,some 0)] (An hF (k:=1) rfl) (pc (hC 0) AD))
 exact Ah (BY (KY a0 a1 a2 a3 a4 a5 (a2,a3)) (.inl rfl) (wkR [(0,some 0)] (An hF (k:=1) rfl) (pc (hC 0) AD))))
abbrev MQ:List LO:=[Ag 4 4]
abbrev MR:List LO:=[lm 5 0 44,AH 6 5 0,AA 7 46 6 1 0,AF 8 3 7 3,lm 9 0 44,AH 10 9 0,AA 11 46 10 0 0,AF 12 9 11 9,Ai 13 #[AE 12] #[9] 3,Al 14 3 8 13 3 4,lm 15 14 4,lmg 16 0 44 15 true,Ao 17 16 0 15 true,AM 18 46 17 0 0 15 true,Aa 19 9 18 9 15 true,lmg 20 0 44 15 true,Ao 21 20 0 15 true,AM 22 46 21 1 0 15 true,Aa 23 3 22 3 15 true,BQ 24 9 19 23 5 15 true,lmg 25 1 5 15 true,Bb 26 5 24 25 5 4 15 true,AS 27 15 26 4,AB 4 27 4]
abbrev NX:LC:=.seq (.reg false MQ) (.seq (.reg true MR) .ret)
theorem NY:Bf E 42 28 [.tmp 4] NX:=Bp Go.Proofs.Tryz.f42
noncomputable def Bv (a0:Str) (a1:Int) (a2:Int) (a3:Int) (a4:Int):Option (Bool):=Option.bind (if (decide (a1 < (List.length a0:Int)))=true then Option.bind (idx a0 a1) (fun x3=>some (x3 == a4)) else some false:Option (Bool)) (fun x2=>some x2)
theorem Cg (a0:Str) (a1:Int) (a2:Int) (a3:Int) (a4:Int):Ct E 42 [.fptr [bs a0,iv a1,iv a2,iv a3] 0,.s (.int .u8 a4)] (Bv a0 a1 a2 a3 a4) (fun r:Bool=>bv r):=CN NY (by
 unfold Bv
 refine jS ⟨[V 0 (.fptr [bs a0,iv a1,iv a2,iv a3] 0),V 1 (.s (.int .u8 a4))],[],0⟩ ?_
 refine jR (jG 0 11 ⟨[V 0 (.fptr [bs a0,iv a1,iv a2,iv a3] 0),V 1 (.s (.int .u8 a4)),V 15 (bv (decide (a1 < (List.length a0:Int))))],[],0⟩ ?_)
 refine A2 11 12 (fun x2=>⟨[V 27 (bv x2)],[],0⟩) ?_ ?_
 ·refine jSp 15 ?_ ?_
  ·refine jG 0 8 ⟨[V 1 (.s (.int .u8 a4)),(15,.lit true),V 19 (bs a0),V 23 (iv a1)],[],0⟩ ?_
   refine A5 (i:=8) (mo:=idx a0 a1) rfl rfl rfl rfl (fun _ hc=>Bq (kk:=.i64) (by kernel_rfl) (by kernel_rfl) (by kernel_rfl) hc) (fun _=>rfl) ?_
   intro x3 h3
   refine jG 9 3 ⟨[V 27 (bv (x3 == a4))],[],0⟩ ?_
   exact Ad rfl (AU rfl BV)
  refine jG 0 12 ⟨[V 27 (bv false)],[],0⟩ ?_
  exact Ad rfl (AU rfl BV)
 intro x2
 refine jG 23 1 ⟨[V 4 (bv x2)],[],0⟩ ?_
 exact jN (Ae (BO (bv x2))))
abbrev Pc:List LO:=[lm 2 0 44,AH 3 2 0,AA 4 46 3 1 0,AF 5 3 4 3,lm 6 0 44,AH 7 6 0,AA 8 46 7 0 0,AF 9 9 8 9,Ai 10 #[AE 9] #[9] 3,CW 11 3 5 10 3 4]
abbrev Pd:List LO:=[lm 12 0 44,lm 13 0 44,AH 14 13 0,AA 15 46 14 0 0,AF 16 9 15 9,Ai 17 #[AE 16] #[9] 3,AN 18 39 #[AE 12,.const (.int .i64 11),AE 17] #[44,23,3] 0]
abbrev Pe:List LO:=[lm 19 0 44,lm 20 0 44,AH 21 20 0,AA 22 46 21 1 0,AF 23 3 22 3,AN 24 39 #[AE 19,.const (.int .i64 10),AE 23] #[44,23,3] 0]
abbrev JJ:LC:=.seq (.reg true Pc) (.cond (AE 11) (.reg false Pd) (.reg false Pe))
theorem Qw:Bf E 43 25 [] JJ:=Bp Go.Proofs.Tryz.f43
abbrev JH (a0:Str) (a1:Int) (a2:Int) (a3:Int) (r:Int × Int):CS:=⟨[],[W 0 4 [bs a0,iv a1,iv r.1,iv r.2]],1⟩
noncomputable def Cn (a0:Str) (a1:Int) (a2:Int) (a3:Int):Option (Int × Int):=(if (decide (a1≥(List.length a0:Int)))=true then Option.bind (Bu a0 a1 a2 a3 11 (List.length a0:Int)) (fun (x7,x8)=>some (x7,x8)) else Option.bind (Bu a0 a1 a2 a3 10 a1) (fun (x9,x10)=>some (x9,x10)))
theorem FC (a0:Str) (a1:Int) (a2:Int) (a3:Int):CtM E 43 [pt 0 4] [W 0 4 [bs a0,iv a1,iv a2,iv a3]] 1 (Cn a0 a1 a2 a3) (fun r:Int × Int=>.tup []) (fun r:Int × Int=>[W 0 4 [bs a0,iv a1,iv r.1,iv r.2]]) 1:=B5 (N:=25) (L:=JJ) Qw rfl (Nat.le_of_ble_eq_true rfl) (fun F hF=>by
 unfold Cn
 refine jS ⟨[V 0 (pt 0 4),V 11 (bv (decide (a1≥(List.length a0:Int))))],[W 0 4 [bs a0,iv a1,iv a2,iv a3]],1⟩ ?_
 refine jIf ?_ ?_
 ·refine CY (jG 0 6 ⟨[V 12 (pt 0 4),V 17 (iv (List.length a0:Int))],[W 0 4 [bs a0,iv a1,iv a2,iv a3]],1⟩ ?_)
  refine BC 6 [(0,some 0)] [(0,some 0)] (fun r:Int × Int=>[W 0 4 [bs a0,iv a1,iv r.1,iv r.2]]) (fun r:Int × Int=>.tup []) 1 (CI a0 a1 a2 a3 11 (List.length a0:Int)) (pc (hC 0) AD) (fun r=>(pc (.inr (hC 0)) AD)) ?_
  rintro⟨x7,x8⟩ hm3
  exact Ad rfl (BY (JH a0 a1 a2 a3 (x7,x8)) (.inl rfl) (wkR [(0,some 0)] (An hF (k:=1) rfl) (pc (hC 0) AD)))
 refine CY (jG 0 5 ⟨[V 19 (pt 0 4),V 23 (iv a1)],[W 0 4 [bs a0,iv a1,iv a2,iv a3]],1⟩ ?_)
 refine BC 5 [(0,some 0)] [(0,some 0)] (fun r:Int × Int=>[W 0 4 [bs a0,iv a1,iv r.1,iv r.2]]) (fun r:Int × Int=>.tup []) 1 (CI a0 a1 a2 a3 10 a1) (pc (hC 0) AD) (fun r=>(pc (.inr (hC 0)) AD)) ?_
 rintro⟨x9,x10⟩ hm4
 exact Ad rfl (BY (JH a0 a1 a2 a3 (x9,x10)) (.inl rfl) (wkR [(0,some 0)] (An hF (k:=1) rfl) (pc (hC 0) AD))))
abbrev MV:List LO:=[A8 2 #[] 9]
abbrev MW:List LO:=[lm 6 0 44,AH 7 6 0,AA 8 46 7 0 0,AF 9 9 8 9,lm 10 0 44,AH 11 10 0,AA 12 46 11 1 0,AF 13 3 12 3,lo 14 (.buildSlice 32 8 #[(0,.const (.string ⟨#[126,61]⟩)),(1,.const (.string ⟨#[61,61]⟩)),(2,.const (.string ⟨#[33,61]⟩)),(3,.const (.string ⟨#[60,61]⟩)),(4,.const (.string ⟨#[62,61]⟩)),(5,.const (.string ⟨#[60]⟩)),(6,.const (.string ⟨#[62]⟩)),(7,.const (.string ⟨#[61,61,61]⟩))]) 32,AN 15 70 #[AE 9,AE 13,AE 14] #[9,3,32] 58,lm 5 15 58,Aq 16 5 0 9,Aq 17 5 1 4,AB 3 16 9,AB 4 17 4]
abbrev MX:List LO:=[lm 18 4 4,BR 19 4 18 4]
abbrev MY:List LO:=[lm 20 0 44,AN 21 42 #[AE 20,.const (.int .u8 126)] #[44,5] 4,lm 22 21 4,lmg 23 0 44 22 false,A7 24 42 #[AE 23,.const (.int .u8 33)] #[44,5] 4 22 false,Ak 25 22 24 4,lm 26 25 4,lmg 27 0 44 26 false,A7 28 42 #[AE 27,.const (.int .u8 61)] #[44,5] 4 26 false,Ak 29 26 28 4]
abbrev MZ:List LO:=[lm 30 0 44,AH 31 30 0,AA 32 46 31 1 0,AF 33 3 32 3,Af 34 3 33 1 3 3,AH 35 30 0,AA 36 46 35 1 0,AO 3 36 34 0]
abbrev Ma:List LO:=[lm 37 0 44,AN 38 43 #[AE 37] #[44] 0]
abbrev Mb:List LO:=[lm 39 0 44,AH 40 39 0,AA 41 46 40 1 0,AF 42 3 41 3,lm 43 3 9,Ai 44 #[AE 43] #[9] 3,Bk 45 3 42 44 3 3,AH 46 39 0,AA 47 46 46 1 0,AO 3 47 45 0]
abbrev Mc:List LO:=[lm 48 3 9,AB 2 48 9]
abbrev HC:LC:=.seq (.reg false MV) (.seq (.reg true MW) (.seq (.seq (.reg false MX) (.cond (AE 19) (.seq (.seq (.reg false MY) (.cond (AE 29) (.reg false MZ) .skip)) (.reg false Ma)) .skip)) (.seq (.reg false Mb) (.seq (.reg false Mc) .ret))))
theorem Nd:Bf E 40 49 [.tmp 2] HC:=Bp Go.Proofs.Tryz.f40
abbrev Nb (a0:Str) (a1:Int) (a2:Int) (a3:Int) (r:Str × Int × Int × Int):CS:=⟨[V 2 (bs r.1)],[W 0 4 [bs a0,iv r.2.1,iv r.2.2.1,iv r.2.2.2]],1⟩
noncomputable def DL (a0:Str) (a1:Int) (a2:Int) (a3:Int):Option (Str × Int × Int × Int):=Option.bind (Gv a0 a1 ([[126,61],[61,61],[33,61],[60,61],[62,61],[60],[62],[61,61,61]])) (fun x17=>Option.bind ((if (!x17.2)=true then Option.bind (Option.bind (Bv a0 a1 a2 a3 126) (fun x35=>Option.bind (if x35=true then some true else Option.bind (Bv a0 a1 a2 a3 33) (fun x38=>some x38):Option (Bool)) (fun x37=>Option.bind (if x37=true then some true else Option.bind (Bv a0 a1 a2 a3 61) (fun x41=>some x41):Option (Bool)) (fun x40=>(if x40=true then some (w64 (a1 + 1)) else some a1)))):Option (Int)) (fun x34=>Option.bind (Cn a0 x34 a2 a3) (fun (x42,x43)=>some (x34,x42,x43))) else some (a1,a2,a3)):Option (Int × Int × Int)) (fun (x26,x27,x28)=>some (x17.1,(w64 (x26 + (List.length x17.1:Int))),x27,x28)))
theorem MU (a0:Str) (a1:Int) (a2:Int) (a3:Int):CtM E 40 [pt 0 4] [W 0 4 [bs a0,iv a1,iv a2,iv a3]] 1 (DL a0 a1 a2 a3) (fun r:Str × Int × Int × Int=>bs r.1) (fun r:Str × Int × Int × Int=>[W 0 4 [bs a0,iv r.2.1,iv r.2.2.1,iv r.2.2.2]]) 1:=B5 (N:=49) (L:=HC) Nd rfl (Nat.le_of_ble_eq_true rfl) (fun F hF=>by
 unfold DL
 refine jS ⟨[V 0 (pt 0 4)],[W 0 4 [bs a0,iv a1,iv a2,iv a3]],1⟩ ?_
 refine jR (jG 0 9 ⟨[V 0 (pt 0 4),V 9 (bs a0),V 13 (iv a1),V 14 (.fsl 1 (List.map cS ([[126,61],[61,61],[33,61],[60,61],[62,61],[60],[62],[61,61,61]])))],[W 0 4 [bs a0,iv a1,iv a2,iv a3]],1⟩ ?_)
 refine jK 9 (QH a0 a1 ([[126,61],[61,61],[33,61],[60,61],[62,61],[60],[62],[61,61,61]])) ?_
 intro x17 h17
 refine jG 10 5 ⟨[V 0 (pt 0 4),V 3 (bs x17.1),V 4 (bv x17.2)],[W 0 4 [bs a0,iv a1,iv a2,iv a3]],1⟩ ?_
 refine jN (Aj ?_)
 refine BA (fun (x26,x27,x28)=>⟨[V 0 (pt 0 4),V 3 (bs x17.1)],[W 0 4 [bs a0,iv x26,iv x27,iv x28]],1⟩) (fun (x26,x27,x28)=>.normal) ?_ ?_
 ·refine jS ⟨[V 0 (pt 0 4),V 3 (bs x17.1),V 19 (bv (!x17.2))],[W 0 4 [bs a0,iv a1,iv a2,iv a3]],1⟩ ?_
  refine jIf ?_ ?_
  ·refine Aj ?_
   refine BA (fun x34=>⟨[V 0 (pt 0 4),V 3 (bs x17.1)],[W 0 4 [bs a0,iv x34,iv a2,iv a3]],1⟩) (fun x34=>.normal) ?_ ?_
   ·refine jR (jG 0 1 ⟨[V 0 (pt 0 4),V 3 (bs x17.1),V 20 (pt 0 4)],[W 0 4 [bs a0,iv a1,iv a2,iv a3]],1⟩ ?_)
    refine By (i:=1) rfl rfl rfl rfl (vs:=[pt 0 4,.s (.int .u8 126)]) (vs0:=[.fptr [bs a0,iv a1,iv a2,iv a3] 0,.s (.int .u8 126)]) (b:=true) (by kernel_rfl) (by kernel_rfl) (AL (AP _) (AL (AP _) Ax)) (Cg a0 a1 a2 a3 126) (fun _=>rfl) (fun _=>rfl) ?_
    intro x35 h35
    refine jG 2 1 ⟨[V 0 (pt 0 4),V 3 (bs x17.1),V 22 (bv x35)],[W 0 4 [bs a0,iv a1,iv a2,iv a3]],1⟩ ?_
    refine A2 3 3 (fun x37=>⟨[V 0 (pt 0 4),V 3 (bs x17.1),V 25 (bv x37)],[W 0 4 [bs a0,iv a1,iv a2,iv a3]],1⟩) ?_ ?_
    ·refine jSp 22 ?_ ?_
     ·refine jG 0 3 ⟨[V 0 (pt 0 4),V 3 (bs x17.1),V 25 (bv true)],[W 0 4 [bs a0,iv a1,iv a2,iv a3]],1⟩ ?_
      exact Ad rfl (AU rfl (wkR [(0,some 0)] (An hF (k:=1) rfl) (pc (hC 0) AD)))
     refine jG 0 1 ⟨[V 0 (pt 0 4),V 3 (bs x17.1),(22,.lit false),V 23 (pt 0 4)],[W 0 4 [bs a0,iv a1,iv a2,iv a3]],1⟩ ?_
     refine By (i:=1) rfl rfl rfl rfl (vs:=[pt 0 4,.s (.int .u8 33)]) (vs0:=[.fptr [bs a0,iv a1,iv a2,iv a3] 0,.s (.int .u8 33)]) (b:=true) (by kernel_rfl) (by kernel_rfl) (AL (AP _) (AL (AP _) Ax)) (Cg a0 a1 a2 a3 33) (fun _=>rfl) (fun _=>rfl) ?_
     intro x38 h38
     refine jG 2 1 ⟨[V 0 (pt 0 4),V 3 (bs x17.1),V 25 (bv x38)],[W 0 4 [bs a0,iv a1,iv a2,iv a3]],1⟩ ?_
     exact Ad rfl (AU rfl (wkR [(0,some 0)] (An hF (k:=1) rfl) (pc (hC 0) AD)))
    intro x37
    refine jG 6 1 ⟨[V 0 (pt 0 4),V 3 (bs x17.1),V 26 (bv x37)],[W 0 4 [bs a0,iv a1,iv a2,iv a3]],1⟩ ?_
    refine A2 7 3 (fun x40=>⟨[V 0 (pt 0 4),V 3 (bs x17.1),V 29 (bv x40)],[W 0 4 [bs a0,iv a1,iv a2,iv a3]],1⟩) ?_ ?_
    ·refine jSp 26 ?_ ?_
     ·refine jG 0 3 ⟨[V 0 (pt 0 4),V 3 (bs x17.1),V 29 (bv true)],[W 0 4 [bs a0,iv a1,iv a2,iv a3]],1⟩ ?_
      exact Ad rfl (AU rfl (wkR [(0,some 0)] (An hF (k:=1) rfl) (pc (hC 0) AD)))
     refine jG 0 1 ⟨[V 0 (pt 0 4),V 3 (bs x17.1),(26,.lit false),V 27 (pt 0 4)],[W 0 4 [bs a0,iv a1,iv a2,iv a3]],1⟩ ?_
     refine By (i:=1) rfl rfl rfl rfl (vs:=[pt 0 4,.s (.int .u8 61)]) (vs0:=[.fptr [bs a0,iv a1,iv a2,iv a3] 0,.s (.int .u8 61)]) (b:=true) (by kernel_rfl) (by kernel_rfl) (AL (AP _) (AL (AP _) Ax)) (Cg a0 a1 a2 a3 61) (fun _=>rfl) (fun _=>rfl) ?_
     intro x41 h41
     refine jG 2 1 ⟨[V 0 (pt 0 4),V 3 (bs x17.1),V 29 (bv x41)],[W 0 4 [bs a0,iv a1,iv a2,iv a3]],1⟩ ?_
     exact Ad rfl (AU rfl (wkR [(0,some 0)] (An hF (k:=1) rfl) (pc (hC 0) AD)))
    intro x40
    refine jN ?_
    refine jIf ?_ ?_
    ·refine jT ⟨[V 0 (pt 0 4),V 3 (bs x17.1)],[W 0 4 [bs a0,iv (w64 (a1 + 1)),iv a2,iv a3]],1⟩ ?_
     exact AU rfl (wkR [(0,some 0)] (An hF (k:=1) rfl) (pc (hC 0) AD))
    exact Ah (AU rfl (wkR [(0,some 0)] (An hF (k:=1) rfl) (pc (hC 0) AD)))
   intro x34
   refine Ab (CY (jG 0 1 ⟨[V 0 (pt 0 4),V 3 (bs x17.1),V 37 (pt 0 4)],[W 0 4 [bs a0,iv x34,iv a2,iv a3]],1⟩ ?_))
   refine BC 1 [(0,some 0)] [(0,some 0)] (fun r:Int × Int=>[W 0 4 [bs a0,iv x34,iv r.1,iv r.2]]) (fun r:Int × Int=>.tup []) 1 (FC a0 x34 a2 a3) (pc (hC 0) AD) (fun r=>(pc (.inr (hC 0)) AD)) ?_
   rintro⟨x42,x43⟩ hm3
   exact Ad rfl (AU rfl (wkR [(0,some 0)] (An hF (k:=1) rfl) (pc (hC 0) AD)))
  exact Ah (AU rfl (wkR [(0,some 0)] (An hF (k:=1) rfl) (pc (hC 0) AD)))
 rintro⟨x26,x27,x28⟩
 refine Ab (jS ⟨[V 3 (bs x17.1)],[W 0 4 [bs a0,iv (w64 (x26 + (List.length x17.1:Int))),iv x27,iv x28]],1⟩ ?_)
 refine jS ⟨[V 2 (bs x17.1)],[W 0 4 [bs a0,iv (w64 (x26 + (List.length x17.1:Int))),iv x27,iv x28]],1⟩ ?_
 exact Ae (BY (Nb a0 a1 a2 a3 (x17.1,(w64 (x26 + (List.length x17.1:Int))),x27,x28)) (.inr rfl) (wkR [(0,some 0)] (An hF (k:=1) rfl) (pc (hC 0) AD))))
abbrev Nn:List LO:=[Ag 4 4]
abbrev No:List LO:=[lm 5 0 9,Ai 6 #[AE 5] #[9] 3,lm 7 1 9,Ai 8 #[AE 7] #[9] 3,CW 9 3 6 8 3 4,lm 10 9 4,lmg 11 0 9 10 true,lmg 12 0 9 10 true,BF 13 #[AE 12] #[9] 3 10 true,lmg 14 1 9 10 true,BF 15 #[AE 14] #[9] 3 10 true,lg 16 (.binOp .sub 3 (AE 13) (AE 15) 3) 3 10 true,lg 17 (.slice 9 (AE 11) (some (AE 16)) none none) 9 10 true,lmg 18 1 9 10 true,Bb 19 9 17 18 9 4 10 true,AS 20 10 19 4,AB 4 20 4]
abbrev Oo:LC:=.seq (.reg false Nn) (.seq (.reg false No) .ret)
theorem Oq:Bf E 100 21 [.tmp 4] Oo:=Bp Go.Proofs.Tryz.f100
noncomputable def EK (a0:Str) (a1:Str):Option (Bool):=Option.bind (if (decide ((List.length a0:Int)≥(List.length a1:Int)))=true then Option.bind (E0 a0 (w64 ((List.length a0:Int) - (List.length a1:Int))) (List.length a0:Int)) (fun x3=>some (x3 == a1)) else some false:Option (Bool)) (fun x2=>some x2)
theorem Nm (a0:Str) (a1:Str):Ct E 100 [bs a0,bs a1] (EK a0 a1) (fun r:Bool=>bv r):=CN Oq (by
 unfold EK
 refine jS ⟨[V 0 (bs a0),V 1 (bs a1)],[],0⟩ ?_
 refine jR (jG 0 6 ⟨[V 0 (bs a0),V 1 (bs a1),V 10 (bv (decide ((List.length a0:Int)≥(List.length a1:Int))))],[],0⟩ ?_)
 refine A2 6 10 (fun x2=>⟨[V 20 (bv x2)],[],0⟩) ?_ ?_
 ·refine jSp 10 ?_ ?_
  ·refine jG 0 6 ⟨[V 1 (bs a1),(10,.lit true),V 11 (bs a0),V 16 (iv (w64 ((List.length a0:Int) - (List.length a1:Int))))],[],0⟩ ?_
   refine A5 (i:=6) (mo:=E0 a0 (w64 ((List.length a0:Int) - (List.length a1:Int))) (List.length a0:Int)) rfl rfl rfl rfl (fun _ hc=>FP (by kernel_rfl) (by kernel_rfl) (by kernel_rfl) (by kernel_rfl) hc) (fun _=>rfl) ?_
   intro x3 h3
   refine jG 7 3 ⟨[V 20 (bv (x3 == a1))],[],0⟩ ?_
   exact Ad rfl (AU rfl BV)
  refine jG 0 10 ⟨[V 20 (bv false)],[],0⟩ ?_
  exact Ad rfl (AU rfl BV)
 intro x2
 refine jG 16 1 ⟨[V 4 (bv x2)],[],0⟩ ?_
 exact jN (Ae (BO (bv x2))))
abbrev Sq:List LO:=[Ag 4 4]
abbrev Sr:List LO:=[lm 5 0 9,lm 6 1 9,AN 7 100 #[AE 5,AE 6] #[9,9] 4,AB 4 7 4]
abbrev Tz:LC:=.seq (.reg false Sq) (.seq (.reg false Sr) .ret)
theorem TI:Bf E 72 8 [.tmp 4] Tz:=Bp Go.Proofs.Tryz.f72
noncomputable def Ec (a0:Str) (a1:Str):Option (Bool):=Option.bind (EK a0 a1) (fun x1=>some x1)
theorem Sp (a0:Str) (a1:Str):Ct E 72 [bs a0,bs a1] (Ec a0 a1) (fun r:Bool=>bv r):=CN TI (by
 unfold Ec
 refine jS ⟨[V 0 (bs a0),V 1 (bs a1)],[],0⟩ ?_
 refine jR (jG 0 2 ⟨[V 5 (bs a0),V 6 (bs a1)],[],0⟩ ?_)
 refine jK 2 (Nm a0 a1) ?_
 intro x1 h1
 refine jG 3 1 ⟨[V 4 (bv x1)],[],0⟩ ?_
 exact jN (Ae (BO (bv x1))))
abbrev Xn:List LO:=[BT 1 34 0 0,Ag 2 4]
abbrev Xo:List LO:=[AA 3 34 1 2 0,AF 4 5 3 5,Bt 5 5 4 0 5 4,lm 6 5 4,AM 7 34 1 4 0 6 true,Aa 8 4 7 4 6 true,Ay 9 4 8 4 6 true,AS 10 6 9 4,lm 11 10 4,AM 12 34 1 6 0 11 true,Aa 13 4 12 4 11 true,Ay 14 4 13 4 11 true,AS 15 11 14 4,lm 16 15 4,AM 17 34 1 8 0 16 true,Aa 18 32 17 32 16 true,BF 19 #[AE 18] #[32] 3 16 true,lg 20 (.binOp .eql 3 (AE 19) (.const (.int .i64 0)) 3) 4 16 true,AS 21 16 20 4,AB 2 21 4]
abbrev ZO:LC:=.seq (.reg false Xn) (.seq (.reg false Xo) .ret)
theorem ZP:Bf E 73 22 [.tmp 2] ZO:=Bp Go.Proofs.Tryz.f73
noncomputable def HB (a0:Ac):Option (Bool):=some ((((a0.Pre == 0) && (!a0.Post)) && (!a0.Dev)) && ((List.length a0.Local:Int) == 0))
theorem Xm (a0:Ac):Ct E 73 [.agg (AJ a0)] (HB a0) (fun r:Bool=>bv r):=CN ZP (by
 unfold HB
 refine jS ⟨[V 1 (pt 0 9)],[W 0 9 (AJ a0)],1⟩ ?_
 refine jR (jG 0 20 ⟨[V 2 (bv ((((a0.Pre == 0) && (!a0.Post)) && (!a0.Dev)) && ((List.length (List.map cS a0.Local):Int) == 0)))],[],1⟩ ?_)
 simp only[List.length_map]
 exact jN (Ae (BO (bv ((((a0.Pre == 0) && (!a0.Post)) && (!a0.Dev)) && ((List.length a0.Local:Int) == 0))))))
abbrev Qy:List LO:=[A8 4 #[] 9,Ag 5 4]
abbrev Qz:List LO:=[lm 12 0 44,AN 13 38 #[AE 12] #[44] 0]
abbrev QI:List LO:=[lm 14 0 44,AH 15 14 0,AA 16 46 15 1 0,AF 17 3 16 3,AB 6 17 3]
abbrev Q0:List LO:=[lm 18 0 44,AH 19 18 0,AA 20 46 19 1 0,AF 21 3 20 3,lm 22 0 44,AH 23 22 0,AA 24 46 23 0 0,AF 25 9 24 9,Ai 26 #[AE 25] #[9] 3,Al 27 3 21 26 3 4,lm 28 27 4,lmg 29 0 44 28 true,Ao 30 29 0 28 true,AM 31 46 30 0 0 28 true,Aa 32 9 31 9 28 true,lmg 33 0 44 28 true,Ao 34 33 0 28 true,AM 35 46 34 1 0 28 true,Aa 36 3 35 3 28 true,BQ 37 9 32 36 5 28 true,A7 38 71 #[AE 37,.const (.int .i64 6)] #[5,3] 4 28 true,Ay 39 4 38 4 28 true,AS 40 28 39 4,lm 41 40 4,lmg 42 0 44 41 true,A7 43 42 #[AE 42,.const (.int .u8 44)] #[44,5] 4 41 true,Ay 44 4 43 4 41 true,AS 45 41 44 4]
abbrev Q1:List LO:=[lm 46 0 44,AH 47 46 0,AA 48 46 47 1 0,AF 49 3 48 3,Af 50 3 49 1 3 3,AH 51 46 0,AA 52 46 51 1 0,AO 3 52 50 0]
abbrev Q3:List LO:=[lm 53 0 44,AH 54 53 0,AA 55 46 54 0 0,AF 56 9 55 9,lm 57 6 3,lm 58 0 44,AH 59 58 0,AA 60 46 59 1 0,AF 61 3 60 3,lo 62 (.slice 9 (AE 56) (some (AE 57)) (some (AE 61)) none) 9,AB 7 62 9]
abbrev Q4:List LO:=[lm 63 7 9,BK 64 9 63 #[] 9 4]
abbrev Q5:List LO:=[lm 65 0 44,AN 66 43 #[AE 65] #[44] 0]
abbrev Q6:List LO:=[A8 4 #[] 9,Ag 5 4]
abbrev Pf:List LO:=[lm 67 1 9,BK 68 9 67 #[61,61,61] 9 4]
abbrev Pg:List LO:=[lm 69 7 9,Ai 70 #[AE 69] #[9] 3,CG 71 0 3]
abbrev Ph:List LO:=[Al 72 3 71 70 3 4]
abbrev Pi:List LO:=[lm 73 71 3,AB 8 73 3]
abbrev Pj:List LO:=[lm 74 7 9,lm 75 8 3,lo 76 (.index 9 (AE 74) (AE 75)) 5,lo 77 (.binOp .lss 5 (AE 76) (.const (.int .u8 33)) 5) 4,lm 78 77 4,lmg 79 7 9 78 false,lmg 80 8 3 78 false,BQ 81 9 79 80 5 78 false,lg 82 (.binOp .gtr 5 (AE 81) (.const (.int .u8 126)) 5) 4 78 false,Ak 83 78 82 4]
abbrev Pk:List LO:=[lm 84 0 44,lm 85 6 3,lm 86 8 3,Bk 87 3 85 86 3 3,AN 88 39 #[AE 84,.const (.int .i64 10),AE 87] #[44,23,3] 0]
abbrev Pm:List LO:=[Af 89 3 71 1 3 3,lm 71 89 3]
abbrev Pn:List LO:=[lm 90 7 9,AB 4 90 9,Ag 5 4]
abbrev Po:List LO:=[lm 91 7 9,AN 92 72 #[AE 91,.const (.string ⟨#[46,42]⟩)] #[9,9] 4,lm 93 92 4,lmg 94 1 9 93 true,lg 95 (.binOp .eql 9 (AE 94) (.const (.string ⟨#[61,61]⟩)) 9) 4 93 true,lmg 96 95 4 93 true,lmg 97 1 9 96 false,lg 98 (.binOp .eql 9 (AE 97) (.const (.string ⟨#[33,61]⟩)) 9) 4 96 false,FR 99 96 98 4 93 true,AS 100 93 99 4,AB 9 100 4]
abbrev Pp:List LO:=[lm 101 9 4]
abbrev Pq:List LO:=[lm 102 7 9,lm 103 7 9,Ai 104 #[AE 103] #[9] 3,lo 105 (.binOp .sub 3 (AE 104) (.const (.int .i64 2)) 3) 3,lo 106 (.slice 9 (AE 102) none (some (AE 105)) none) 9,AB 7 106 9]
abbrev Pr:List LO:=[lm 108 7 9,AN 109 31 #[AE 108] #[9] 35,lm 107 109 35,Aq 110 107 0 34,Aq 111 107 1 25,BH 10 34 0,BH 11 25 0,AO 34 10 110 0,AO 25 11 111 0]
abbrev Ps:List LO:=[AA 113 25 11 0 0,AF 114 23 113 23,BM 115 23 114 0 23 4,AB 112 115 4]
abbrev Pt:List LO:=[lm 116 0 44,AA 117 25 11 0 0,AF 118 23 117 23,lm 119 6 3,AA 120 25 11 1 0,AF 121 3 120 3,Bk 122 3 119 121 3 3,AN 123 39 #[AE 116,AE 118,AE 122] #[44,23,3] 0]
abbrev Pu:List LO:=[lm 125 9 4,lm 126 125 4,Aa 127 34 10 34 126 true,A7 128 73 #[AE 127] #[34] 4 126 true,Ay 129 4 128 4 126 true,AS 130 126 129 4,AB 124 130 4]
abbrev Pv:List LO:=[lm 131 1 9,BK 132 9 131 #[126,61] 9 4,lm 133 132 4,AM 134 34 10 1 0 133 true,Aa 135 32 134 32 133 true,BF 136 #[AE 135] #[32] 3 133 true,lg 137 (.binOp .lss 3 (AE 136) (.const (.int .i64 2)) 3) 4 133 true,AS 138 133 137 4,AB 124 138 4]
abbrev Pw:List LO:=[lm 139 1 9,Em 140 9 139 #[61,61] 9 4,lm 141 140 4,lmg 142 1 9 141 true,lg 143 (.binOp .neq 9 (AE 142) (.const (.string ⟨#[33,61]⟩)) 9) 4 141 true,AS 144 141 143 4,lm 145 144 4,AM 146 34 10 8 0 145 true,Aa 147 32 146 32 145 true,BF 148 #[AE 147] #[32] 3 145 true,lg 149 (.binOp .gtr 3 (AE 148) (.const (.int .i64 0)) 3) 4 145 true,AS 150 145 149 4,AB 124 150 4]
abbrev Px:List LO:=[lm 151 0 44,lm 152 6 3,AN 153 39 #[AE 151,.const (.int .i64 19),AE 152] #[44,23,3] 0]
abbrev Py:List LO:=[lm 154 7 9,lm 155 9 4,AB 4 154 9,AB 5 155 4]
abbrev Ka:LC:=.seq (.reg false Qy) (.seq (.reg false Qz) (.seq (.reg false QI) (.seq (.block 0 (.loop (.seq (.seq (.reg true Q0) (.cond (AE 45) .skip (.exit 0))) (.block 1 (.reg false Q1))))) (.seq (.reg true Q3) (.seq (.seq (.reg false Q4) (.cond (AE 64) (.seq (.reg false Q5) (.seq (.reg false Q6) .ret)) .skip)) (.seq (.seq (.reg false Pf) (.cond (AE 68) (.seq (.seq (.reg false Pg) (.block 2 (.loop (.seq (.reg false Ph) (.seq (.cond (AE 72) .skip (.exit 2)) (.seq (.block 3 (.seq (.reg false Pi) (.seq (.reg false Pj) (.cond (AE 83) (.reg false Pk) .skip)))) (.reg false Pm))))))) (.seq (.reg false Pn) .ret)) .skip)) (.seq (.reg false Po) (.seq (.seq (.reg false Pp) (.cond (AE 101) (.reg false Pq) .skip)) (.seq (.reg false Pr) (.seq (.block 4 (.seq (.reg false Ps) (.cond (AE 112) (.reg false Pt) (.seq (.seq (.reg false Pu) (.cond (AE 124) .skip (.seq (.reg false Pv) (.cond (AE 124) .skip (.reg false Pw))))) (.cond (AE 124) (.reg false Px) .skip))))) (.seq (.reg false Py) .ret)))))))))))
theorem SN:Bf E 41 156 [.tmp 4,.tmp 5] Ka:=Bp Go.Proofs.Tryz.f41
noncomputable def DV (a0:Str) (a2:Int) (a3:Int):Int→Option (Step (Int) (Int)):=fun x64=>Option.bind (if (decide (x64 < (List.length a0:Int)))=true then Option.bind (idx a0 x64) (fun x75=>Option.bind (Ep x75 6) (fun x76=>some (!x76))) else some false:Option (Bool)) (fun x74=>Option.bind (if x74=true then Option.bind (Bv a0 x64 a2 a3 44) (fun x79=>some (!x79)) else some false:Option (Bool)) (fun x78=>(if x78=true then some (Step.next (w64 (x64 + 1))) else some (Step.done x64))))
noncomputable def DW (a0:Str) (x58:Int) (x71:Int) (x80:Str):(Int × Int × Int)→Option (Step (Int × Int × Int) (Int × Int)):=fun (x90,x91,x92)=>(if (decide (x92 < (List.length x80:Int)))=true then Option.bind (Option.bind (idx x80 x92) (fun x112=>Option.bind (if (decide (x112 < 33))=true then some true else Option.bind (idx x80 x92) (fun x115=>some (decide (x115 > 126))):Option (Bool)) (fun x114=>(if x114=true then Option.bind (Bu a0 x71 x90 x91 10 (w64 (x58 + x92))) (fun (x116,x117)=>some (x116,x117)) else some (x90,x91)))):Option (Int × Int)) (fun (x110,x111)=>some (Step.next (x110,x111,(w64 (x92 + 1))))) else some (Step.done (x90,x91)))
abbrev Gb (a0:Str) (a1:Int) (a2:Int) (a3:Int) (a4:Str) (r:Str × Bool × Int × Int × Int):CS:=⟨[V 4 (bs r.1),V 5 (bv r.2.1)],[W 0 4 [bs a0,iv r.2.2.1,iv r.2.2.2.1,iv r.2.2.2.2]],1⟩
noncomputable def EB (a0:Str) (a1:Int) (a2:Int) (a3:Int) (a4:Str):Option (Str × Bool × Int × Int × Int):=Option.bind (CK a0 a1 a2 a3) (fun x58=>Option.bind (CD (DV a0 a2 a3) x58) (fun x71=>Option.bind (E0 a0 x58 x71) (fun x80=>(if (x80 == [])=true then Option.bind (Cn a0 x71 a2 a3) (fun (x81,x82)=>some ([],false,x71,x81,x82)) else (if (a4 == [61,61,61])=true then Option.bind (CD (DW a0 x58 x71 x80) (a2,a3,0)) (fun (x103,x104)=>some (x80,false,x71,x103,x104)) else Option.bind (Ec x80 [46,42]) (fun x118=>Option.bind ((if (x118 && ((a4 == [61,61]) || (a4 == [33,61])))=true then Option.bind (E0 x80 0 (w64 ((List.length x80:Int) - 2))) (fun x121=>some x121) else some x80):Option (Str)) (fun x120=>Option.bind (Gp x120) (fun x122=>Option.bind ((if (x122.2.Err != 0)=true then Option.bind (Bu a0 x71 a2 a3 x122.2.Err (w64 (x58 + x122.2.At))) (fun (x132,x133)=>some (x132,x133)) else Option.bind (Option.bind (if (x118 && ((a4 == [61,61]) || (a4 == [33,61])))=true then Option.bind (HB (Ac.mk x122.1.Epoch x122.1.Release x122.1.Pre x122.1.PreNum x122.1.Post x122.1.PostNum x122.1.Dev x122.1.DevNum x122.1.Local)) (fun x139=>some (!x139)) else some false:Option (Bool)) (fun x138=>(if x138=true then some true else (if ((a4 == [126,61]) && (decide ((List.length x122.1.Release:Int) < 2)))=true then some true else some (((!(a4 == [61,61])) && (!(a4 == [33,61]))) && (decide ((List.length x122.1.Local:Int) > 0)))))):Option (Bool)) (fun x136=>(if x136=true then Option.bind (Bu a0 x71 a2 a3 19 x58) (fun (x140,x141)=>some (x140,x141)) else some (a2,a3)))):Option (Int × Int)) (fun (x130,x131)=>some (x120,(x118 && ((a4 == [61,61]) || (a4 == [33,61]))),x71,x130,x131))))))))))
theorem Qx (a0:Str) (a1:Int) (a2:Int) (a3:Int) (a4:Str):CtM E 41 [pt 0 4,bs a4] [W 0 4 [bs a0,iv a1,iv a2,iv a3]] 1 (EB a0 a1 a2 a3 a4) (fun r:Str × Bool × Int × Int × Int=>.tup [bs r.1,bv r.2.1]) (fun r:Str × Bool × Int × Int × Int=>[W 0 4 [bs a0,iv r.2.2.1,iv r.2.2.2.1,iv r.2.2.2.2]]) 1:=B5 (N:=156) (L:=Ka) SN rfl (Nat.le_of_ble_eq_true rfl) (fun F hF=>by
 unfold EB
 refine jS ⟨[V 0 (pt 0 4),V 1 (bs a4)],[W 0 4 [bs a0,iv a1,iv a2,iv a3]],1⟩ ?_
 refine jR (jG 0 1 ⟨[V 0 (pt 0 4),V 1 (bs a4),V 12 (pt 0 4)],[W 0 4 [bs a0,iv a1,iv a2,iv a3]],1⟩ ?_)
 refine BC 1 [(0,some 0)] [(0,some 0)] (fun r:Int=>[W 0 4 [bs a0,iv r,iv a2,iv a3]]) (fun r:Int=>.tup []) 1 (Do a0 a1 a2 a3) (pc (hC 0) AD) (fun r=>(pc (.inr (hC 0)) AD)) ?_
 rintro x58 hm16
 refine jN (jS ⟨[V 0 (pt 0 4),V 1 (bs a4),V 6 (iv x58)],[W 0 4 [bs a0,iv x58,iv a2,iv a3]],1⟩ ?_)
 refine Aj (A4 ?_)
 refine BA (fun x71=>⟨[V 0 (pt 0 4),V 1 (bs a4),V 6 (iv x58)],[W 0 4 [bs a0,iv x71,iv a2,iv a3]],1⟩) (fun x71=>(.exit 0)) (C5 (fun x64=>⟨[V 0 (pt 0 4),V 1 (bs a4),V 6 (iv x58)],[W 0 4 [bs a0,iv x64,iv a2,iv a3]],1⟩) (wkR [(0,some 0)] (An hF (k:=1) rfl) (pc (hC 0) AD)) ?_) ?_
 ·intro x64
  unfold DV
  refine Aj (jR (jG 0 11 ⟨[V 0 (pt 0 4),V 1 (bs a4),V 6 (iv x58),V 28 (bv (decide (x64 < (List.length a0:Int))))],[W 0 4 [bs a0,iv x64,iv a2,iv a3]],1⟩ ?_))
  refine A2 11 12 (fun x74=>⟨[V 0 (pt 0 4),V 1 (bs a4),V 6 (iv x58),V 40 (bv x74)],[W 0 4 [bs a0,iv x64,iv a2,iv a3]],1⟩) ?_ ?_
  ·refine jSp 28 ?_ ?_
   ·refine jG 0 8 ⟨[V 0 (pt 0 4),V 1 (bs a4),V 6 (iv x58),(28,.lit true),V 32 (bs a0),V 36 (iv x64)],[W 0 4 [bs a0,iv x64,iv a2,iv a3]],1⟩ ?_
    refine A5 (i:=8) (mo:=idx a0 x64) rfl rfl rfl rfl (fun _ hc=>Bq (kk:=.i64) (by kernel_rfl) (by kernel_rfl) (by kernel_rfl) hc) (fun _=>rfl) ?_
    intro x75 h75
    refine jK 9 (Gg x75 6) ?_
    intro x76 h76
    refine jG 10 2 ⟨[V 0 (pt 0 4),V 1 (bs a4),V 6 (iv x58),V 40 (bv (!x76))],[W 0 4 [bs a0,iv x64,iv a2,iv a3]],1⟩ ?_
    exact Ad rfl (AU rfl (wkR [(0,some 0)] (An hF (k:=1) rfl) (pc (hC 0) AD)))
   refine jG 0 12 ⟨[V 0 (pt 0 4),V 1 (bs a4),V 6 (iv x58),V 40 (bv false)],[W 0 4 [bs a0,iv x64,iv a2,iv a3]],1⟩ ?_
   exact Ad rfl (AU rfl (wkR [(0,some 0)] (An hF (k:=1) rfl) (pc (hC 0) AD)))
  intro x74
  refine jG 23 1 ⟨[V 0 (pt 0 4),V 1 (bs a4),V 6 (iv x58),V 41 (bv x74)],[W 0 4 [bs a0,iv x64,iv a2,iv a3]],1⟩ ?_
  refine A2 24 4 (fun x78=>⟨[V 0 (pt 0 4),V 1 (bs a4),V 6 (iv x58),V 45 (bv x78)],[W 0 4 [bs a0,iv x64,iv a2,iv a3]],1⟩) ?_ ?_
  ·refine jSp 41 ?_ ?_
   ·refine jG 0 1 ⟨[V 0 (pt 0 4),V 1 (bs a4),V 6 (iv x58),(41,.lit true),V 42 (pt 0 4)],[W 0 4 [bs a0,iv x64,iv a2,iv a3]],1⟩ ?_
    refine By (i:=1) rfl rfl rfl rfl (vs:=[pt 0 4,.s (.int .u8 44)]) (vs0:=[.fptr [bs a0,iv x64,iv a2,iv a3] 0,.s (.int .u8 44)]) (b:=true) (by kernel_rfl) (by kernel_rfl) (AL (AP _) (AL (AP _) Ax)) (Cg a0 x64 a2 a3 44) (fun _=>rfl) (fun _=>rfl) ?_
    intro x79 h79
    refine jG 2 2 ⟨[V 0 (pt 0 4),V 1 (bs a4),V 6 (iv x58),V 45 (bv (!x79))],[W 0 4 [bs a0,iv x64,iv a2,iv a3]],1⟩ ?_
    exact Ad rfl (AU rfl (wkR [(0,some 0)] (An hF (k:=1) rfl) (pc (hC 0) AD)))
   refine jG 0 4 ⟨[V 0 (pt 0 4),V 1 (bs a4),V 6 (iv x58),V 45 (bv false)],[W 0 4 [bs a0,iv x64,iv a2,iv a3]],1⟩ ?_
   exact Ad rfl (AU rfl (wkR [(0,some 0)] (An hF (k:=1) rfl) (pc (hC 0) AD)))
  intro x78
  refine jN ?_
  refine jIf ?_ ?_
  ·refine Ah (Ab (A4 (jT ⟨[V 0 (pt 0 4),V 1 (bs a4),V 6 (iv x58)],[W 0 4 [bs a0,iv (w64 (x64 + 1)),iv a2,iv a3]],1⟩ ?_)))
   exact BX (C7 (wkR [(0,some 0)] (An hF (k:=1) rfl) (pc (hC 0) AD)))
  exact Cp (Cq (Bm rfl nofun (wkR [(0,some 0)] (An hF (k:=1) rfl) (pc (hC 0) AD))))
 intro x71
 refine C6 (Ab (jR (jG 0 9 ⟨[V 0 (pt 0 4),V 1 (bs a4),V 6 (iv x58),V 56 (bs a0),V 57 (iv x58),V 61 (iv x71)],[W 0 4 [bs a0,iv x71,iv a2,iv a3]],1⟩ ?_)))
 refine A5 (i:=9) (mo:=E0 a0 x58 x71) rfl rfl rfl rfl (fun _ hc=>FP (by kernel_rfl) (by kernel_rfl) (by kernel_rfl) (by kernel_rfl) hc) (fun _=>rfl) ?_
 intro x80 h80
 refine jG 10 1 ⟨[V 0 (pt 0 4),V 1 (bs a4),V 6 (iv x58),V 7 (bs x80)],[W 0 4 [bs a0,iv x71,iv a2,iv a3]],1⟩ ?_
 refine jN (Aj (jS ⟨[V 0 (pt 0 4),V 1 (bs a4),V 6 (iv x58),V 7 (bs x80),V 64 (bv (x80 == []))],[W 0 4 [bs a0,iv x71,iv a2,iv a3]],1⟩ ?_))
 refine jIf ?_ ?_
 ·refine jR (jG 0 1 ⟨[V 65 (pt 0 4)],[W 0 4 [bs a0,iv x71,iv a2,iv a3]],1⟩ ?_)
  refine BC 1 [(0,some 0)] [(0,some 0)] (fun r:Int × Int=>[W 0 4 [bs a0,iv x71,iv r.1,iv r.2]]) (fun r:Int × Int=>.tup []) 1 (FC a0 x71 a2 a3) (pc (hC 0) AD) (fun r=>(pc (.inr (hC 0)) AD)) ?_
  rintro⟨x81,x82⟩ hm7
  refine jN (jS ⟨[V 4 (bs []),V 5 (bv false)],[W 0 4 [bs a0,iv x71,iv x81,iv x82]],1⟩ ?_)
  exact Ae (Ar (BY (Gb a0 a1 a2 a3 a4 ([],false,x71,x81,x82)) (.inr rfl) (wkR [(0,some 0)] (An hF (k:=1) rfl) (pc (hC 0) AD))))
 refine Ah (Ab (Aj (jS ⟨[V 0 (pt 0 4),V 1 (bs a4),V 6 (iv x58),V 7 (bs x80),V 68 (bv (a4 == [61,61,61]))],[W 0 4 [bs a0,iv x71,iv a2,iv a3]],1⟩ ?_)))
 refine jIf ?_ ?_
 ·refine Aj (jS ⟨[V 0 (pt 0 4),V 6 (iv x58),V 7 (bs x80),V 70 (iv (List.length x80:Int)),V 71 (iv 0)],[W 0 4 [bs a0,iv x71,iv a2,iv a3]],1⟩ ?_)
  refine A4 ?_
  refine BA (fun (x103,x104)=>⟨[V 7 (bs x80)],[W 0 4 [bs a0,iv x71,iv x103,iv x104]],1⟩) (fun (x103,x104)=>(.exit 2)) (C5 (fun (x90,x91,x92)=>⟨[V 0 (pt 0 4),V 6 (iv x58),V 7 (bs x80),V 70 (iv (List.length x80:Int)),V 71 (iv x92)],[W 0 4 [bs a0,iv x71,iv x90,iv x91]],1⟩) (wkR [(0,some 0)] (An hF (k:=1) rfl) (pc (hC 0) AD)) ?_) ?_
  ·rintro⟨x90,x91,x92⟩
   unfold DW
   refine jS ⟨[V 0 (pt 0 4),V 6 (iv x58),V 7 (bs x80),V 70 (iv (List.length x80:Int)),V 71 (iv x92),V 72 (bv (decide (x92 < (List.length x80:Int))))],[W 0 4 [bs a0,iv x71,iv x90,iv x91]],1⟩ ?_
   refine Aj ?_
   refine jIf ?_ ?_
   ·refine Ah (Ab (Aj ?_))
    refine BA (fun (x110,x111)=>⟨[V 0 (pt 0 4),V 6 (iv x58),V 7 (bs x80),V 70 (iv (List.length x80:Int)),V 71 (iv x92)],[W 0 4 [bs a0,iv x71,iv x110,iv x111]],1⟩) (fun (x110,x111)=>.normal) ?_ ?_
    ·refine A4 (jS ⟨[V 0 (pt 0 4),V 6 (iv x58),V 7 (bs x80),V 8 (iv x92),V 70 (iv (List.length x80:Int)),V 71 (iv x92)],[W 0 4 [bs a0,iv x71,iv x90,iv x91]],1⟩ ?_)
     refine jR (jG 0 2 ⟨[V 0 (pt 0 4),V 6 (iv x58),V 7 (bs x80),V 8 (iv x92),V 70 (iv (List.length x80:Int)),V 71 (iv x92),V 74 (bs x80),V 75 (iv x92)],[W 0 4 [bs a0,iv x71,iv x90,iv x91]],1⟩ ?_)
     refine A5 (i:=2) (mo:=idx x80 x92) rfl rfl rfl rfl (fun _ hc=>Bq (kk:=.i64) (by kernel_rfl) (by kernel_rfl) (by kernel_rfl) hc) (fun _=>rfl) ?_
     intro x112 h112
     refine jG 3 2 ⟨[V 0 (pt 0 4),V 6 (iv x58),V 7 (bs x80),V 8 (iv x92),V 70 (iv (List.length x80:Int)),V 71 (iv x92),V 78 (bv (decide (x112 < 33)))],[W 0 4 [bs a0,iv x71,iv x90,iv x91]],1⟩ ?_
     refine A2 5 5 (fun x114=>⟨[V 0 (pt 0 4),V 6 (iv x58),V 7 (bs x80),V 8 (iv x92),V 70 (iv (List.length x80:Int)),V 71 (iv x92),V 83 (bv x114)],[W 0 4 [bs a0,iv x71,iv x90,iv x91]],1⟩) ?_ ?_
     ·refine jSp 78 ?_ ?_
      ·refine jG 0 5 ⟨[V 0 (pt 0 4),V 6 (iv x58),V 7 (bs x80),V 8 (iv x92),V 70 (iv (List.length x80:Int)),V 71 (iv x92),V 83 (bv true)],[W 0 4 [bs a0,iv x71,iv x90,iv x91]],1⟩ ?_
       exact Ad rfl (AU rfl (wkR [(0,some 0)] (An hF (k:=1) rfl) (pc (hC 0) AD)))
      refine jG 0 2 ⟨[V 0 (pt 0 4),V 6 (iv x58),V 7 (bs x80),V 8 (iv x92),V 70 (iv (List.length x80:Int)),V 71 (iv x92),(78,.lit false),V 79 (bs x80),V 80 (iv x92)],[W 0 4 [bs a0,iv x71,iv x90,iv x91]],1⟩ ?_
      refine A5 (i:=2) (mo:=idx x80 x92) rfl rfl rfl rfl (fun _ hc=>Bq (kk:=.i64) (by kernel_rfl) (by kernel_rfl) (by kernel_rfl) hc) (fun _=>rfl) ?_
      intro x115 h115
      refine jG 3 2 ⟨[V 0 (pt 0 4),V 6 (iv x58),V 7 (bs x80),V 8 (iv x92),V 70 (iv (List.length x80:Int)),V 71 (iv x92),V 83 (bv (decide (x115 > 126)))],[W 0 4 [bs a0,iv x71,iv x90,iv x91]],1⟩ ?_
      exact Ad rfl (AU rfl (wkR [(0,some 0)] (An hF (k:=1) rfl) (pc (hC 0) AD)))
     intro x114
     refine jN ?_
     refine jIf ?_ ?_
     ·refine CY (jG 0 4 ⟨[V 0 (pt 0 4),V 6 (iv x58),V 7 (bs x80),V 70 (iv (List.length x80:Int)),V 71 (iv x92),V 84 (pt 0 4),V 87 (iv (w64 (x58 + x92)))],[W 0 4 [bs a0,iv x71,iv x90,iv x91]],1⟩ ?_)
      refine BC 4 [(0,some 0)] [(0,some 0)] (fun r:Int × Int=>[W 0 4 [bs a0,iv x71,iv r.1,iv r.2]]) (fun r:Int × Int=>.tup []) 1 (CI a0 x71 x90 x91 10 (w64 (x58 + x92))) (pc (hC 0) AD) (fun r=>(pc (.inr (hC 0)) AD)) ?_
      rintro⟨x116,x117⟩ hm11
      exact Ad rfl (BX (AU rfl (wkR [(0,some 0)] (An hF (k:=1) rfl) (pc (hC 0) AD))))
     exact Ah (BX (AU rfl (wkR [(0,some 0)] (An hF (k:=1) rfl) (pc (hC 0) AD))))
    rintro⟨x110,x111⟩
    refine Ab (jT ⟨[V 0 (pt 0 4),V 6 (iv x58),V 7 (bs x80),V 70 (iv (List.length x80:Int)),V 71 (iv (w64 (x92 + 1)))],[W 0 4 [bs a0,iv x71,iv x110,iv x111]],1⟩ ?_)
    exact C7 (wkR [(0,some 0)] (An hF (k:=1) rfl) (pc (hC 0) AD))
   exact Cp (Cq (Bm rfl nofun (wkR [(0,some 0)] (An hF (k:=1) rfl) (pc (hC 0) AD))))
  rintro⟨x103,x104⟩
  refine C6 (Ab (jS ⟨[V 4 (bs x80),V 5 (bv false)],[W 0 4 [bs a0,iv x71,iv x103,iv x104]],1⟩ ?_))
  exact Ae (Ar (BY (Gb a0 a1 a2 a3 a4 (x80,false,x71,x103,x104)) (.inr rfl) (wkR [(0,some 0)] (An hF (k:=1) rfl) (pc (hC 0) AD))))
 refine Ah (Ab (jR (jG 0 1 ⟨[V 0 (pt 0 4),V 1 (bs a4),V 6 (iv x58),V 7 (bs x80),V 91 (bs x80)],[W 0 4 [bs a0,iv x71,iv a2,iv a3]],1⟩ ?_)))
 refine jK 1 (Sp x80 [46,42]) ?_
 intro x118 h118
 refine jG 2 9 ⟨[V 0 (pt 0 4),V 1 (bs a4),V 6 (iv x58),V 7 (bs x80),V 9 (bv (x118 && ((a4 == [61,61]) || (a4 == [33,61]))))],[W 0 4 [bs a0,iv x71,iv a2,iv a3]],1⟩ ?_
 refine jN (Aj ?_)
 refine BA (fun x120=>⟨[V 0 (pt 0 4),V 1 (bs a4),V 6 (iv x58),V 7 (bs x120),V 9 (bv (x118 && ((a4 == [61,61]) || (a4 == [33,61]))))],[W 0 4 [bs a0,iv x71,iv a2,iv a3]],1⟩) (fun x120=>.normal) ?_ ?_
 ·refine jS ⟨[V 0 (pt 0 4),V 1 (bs a4),V 6 (iv x58),V 7 (bs x80),V 9 (bv (x118 && ((a4 == [61,61]) || (a4 == [33,61])))),V 101 (bv (x118 && ((a4 == [61,61]) || (a4 == [33,61]))))],[W 0 4 [bs a0,iv x71,iv a2,iv a3]],1⟩ ?_
  refine jIf ?_ ?_
  ·refine CY (jG 0 4 ⟨[V 0 (pt 0 4),V 1 (bs a4),V 6 (iv x58),V 9 (bv (x118 && ((a4 == [61,61]) || (a4 == [33,61])))),V 102 (bs x80),V 105 (iv (w64 ((List.length x80:Int) - 2)))],[W 0 4 [bs a0,iv x71,iv a2,iv a3]],1⟩ ?_)
   refine A5 (i:=4) (mo:=E0 x80 0 (w64 ((List.length x80:Int) - 2))) rfl rfl rfl rfl (fun _ hc=>FP (by kernel_rfl) (by kernel_rfl) (by kernel_rfl) (by kernel_rfl) hc) (fun _=>rfl) ?_
   intro x121 h121
   refine jG 5 1 ⟨[V 0 (pt 0 4),V 1 (bs a4),V 6 (iv x58),V 7 (bs x121),V 9 (bv (x118 && ((a4 == [61,61]) || (a4 == [33,61]))))],[W 0 4 [bs a0,iv x71,iv a2,iv a3]],1⟩ ?_
   exact Ad rfl (AU rfl (wkR [(0,some 0)] (An hF (k:=1) rfl) (pc (hC 0) AD)))
  exact Ah (AU rfl (wkR [(0,some 0)] (An hF (k:=1) rfl) (pc (hC 0) AD)))
 intro x120
 refine Ab (jR (jG 0 1 ⟨[V 0 (pt 0 4),V 1 (bs a4),V 6 (iv x58),V 7 (bs x120),V 9 (bv (x118 && ((a4 == [61,61]) || (a4 == [33,61])))),V 108 (bs x120)],[W 0 4 [bs a0,iv x71,iv a2,iv a3]],1⟩ ?_))
 refine jK 1 (Hr x120) ?_
 intro x122 h122
 refine jG 2 7 ⟨[V 0 (pt 0 4),V 1 (bs a4),V 6 (iv x58),V 7 (bs x120),V 9 (bv (x118 && ((a4 == [61,61]) || (a4 == [33,61])))),V 10 (pt 1 9),V 11 (pt 2 2)],[W 0 4 [bs a0,iv x71,iv a2,iv a3],W 1 9 (AJ x122.1),W 2 2 [iv x122.2.Err,iv x122.2.At]],3⟩ ?_
 refine jN (Aj ?_)
 refine BA (fun (x130,x131)=>⟨[V 7 (bs x120),V 9 (bv (x118 && ((a4 == [61,61]) || (a4 == [33,61]))))],[W 0 4 [bs a0,iv x71,iv x130,iv x131]],1⟩) (fun (x130,x131)=>.normal) ?_ ?_
 ·refine A4 (jS ⟨[V 0 (pt 0 4),V 1 (bs a4),V 6 (iv x58),V 7 (bs x120),V 9 (bv (x118 && ((a4 == [61,61]) || (a4 == [33,61])))),V 10 (pt 1 9),V 11 (pt 2 2),V 112 (bv (x122.2.Err != 0))],[W 0 4 [bs a0,iv x71,iv a2,iv a3],W 1 9 (AJ x122.1),W 2 2 [iv x122.2.Err,iv x122.2.At]],3⟩ ?_)
  refine jIf ?_ ?_
  ·refine CY (jG 0 7 ⟨[V 7 (bs x120),V 9 (bv (x118 && ((a4 == [61,61]) || (a4 == [33,61])))),V 116 (pt 0 4),V 118 (iv x122.2.Err),V 122 (iv (w64 (x58 + x122.2.At)))],[W 0 4 [bs a0,iv x71,iv a2,iv a3]],3⟩ ?_)
   refine BC 7 [(0,some 0)] [(0,some 0)] (fun r:Int × Int=>[W 0 4 [bs a0,iv x71,iv r.1,iv r.2]]) (fun r:Int × Int=>.tup []) 3 (CI a0 x71 a2 a3 x122.2.Err (w64 (x58 + x122.2.At))) (pc (hC 0) AD) (fun r=>(pc (.inr (hC 0)) AD)) ?_
   rintro⟨x132,x133⟩ hm14
   exact Ad rfl (BX (AU rfl (wkR [(0,some 0)] (An hF (k:=1) rfl) (pc (hC 0) AD))))
  refine Aj ?_
  refine BA (fun x136=>⟨[V 0 (pt 0 4),V 6 (iv x58),V 7 (bs x120),V 9 (bv (x118 && ((a4 == [61,61]) || (a4 == [33,61])))),V 124 (bv x136)],[W 0 4 [bs a0,iv x71,iv a2,iv a3]],1⟩) (fun x136=>.normal) ?_ ?_
  ·refine jR (jG 0 2 ⟨[V 0 (pt 0 4),V 1 (bs a4),V 6 (iv x58),V 7 (bs x120),V 9 (bv (x118 && ((a4 == [61,61]) || (a4 == [33,61])))),V 10 (pt 1 9),V 126 (bv (x118 && ((a4 == [61,61]) || (a4 == [33,61]))))],[W 0 4 [bs a0,iv x71,iv a2,iv a3],W 1 9 (AJ x122.1)],3⟩ ?_)
   refine A2 2 4 (fun x138=>⟨[V 0 (pt 0 4),V 1 (bs a4),V 6 (iv x58),V 7 (bs x120),V 9 (bv (x118 && ((a4 == [61,61]) || (a4 == [33,61])))),V 10 (pt 1 9),V 130 (bv x138)],[W 0 4 [bs a0,iv x71,iv a2,iv a3],W 1 9 (AJ x122.1)],2⟩) ?_ ?_
   ·refine jSp 126 ?_ ?_
    ·refine jG 0 1 ⟨[V 0 (pt 0 4),V 1 (bs a4),V 6 (iv x58),V 7 (bs x120),V 9 (bv (x118 && ((a4 == [61,61]) || (a4 == [33,61])))),V 10 (pt 1 9),(126,.lit true),V 127 (.agg (AJ x122.1))],[W 0 4 [bs a0,iv x71,iv a2,iv a3],W 1 9 (AJ x122.1)],3⟩ ?_
     refine jK 1 (Xm x122.1) ?_
     intro x139 h139
     refine jG 2 2 ⟨[V 0 (pt 0 4),V 1 (bs a4),V 6 (iv x58),V 7 (bs x120),V 9 (bv (x118 && ((a4 == [61,61]) || (a4 == [33,61])))),V 10 (pt 1 9),V 130 (bv (!x139))],[W 0 4 [bs a0,iv x71,iv a2,iv a3],W 1 9 (AJ x122.1)],3⟩ ?_
     exact Ad rfl (AU rfl (wkR [(0,some 0),(1,some 1)] (An hF (k:=1) rfl) (pc (hC 0) (pc (hC 1) AD))))
    refine jG 0 4 ⟨[V 0 (pt 0 4),V 1 (bs a4),V 6 (iv x58),V 7 (bs x120),V 9 (bv (x118 && ((a4 == [61,61]) || (a4 == [33,61])))),V 10 (pt 1 9),V 130 (bv false)],[W 0 4 [bs a0,iv x71,iv a2,iv a3],W 1 9 (AJ x122.1)],3⟩ ?_
    exact Ad rfl (AU rfl (wkR [(0,some 0),(1,some 1)] (An hF (k:=1) rfl) (pc (hC 0) (pc (hC 1) AD))))
   intro x138
   refine jG 6 1 ⟨[V 0 (pt 0 4),V 1 (bs a4),V 6 (iv x58),V 7 (bs x120),V 9 (bv (x118 && ((a4 == [61,61]) || (a4 == [33,61])))),V 10 (pt 1 9),V 124 (bv x138)],[W 0 4 [bs a0,iv x71,iv a2,iv a3],W 1 9 (AJ x122.1)],2⟩ ?_
   refine jN ?_
   refine jIf ?_ ?_
   ·exact Ah (AU rfl (wkR [(0,some 0)] (An hF (k:=1) rfl) (pc (hC 0) AD)))
   refine jR (jG 0 9 ⟨[V 0 (pt 0 4),V 1 (bs a4),V 6 (iv x58),V 7 (bs x120),V 9 (bv (x118 && ((a4 == [61,61]) || (a4 == [33,61])))),V 10 (pt 1 9),V 124 (bv ((a4 == [126,61]) && (decide ((List.length (List.map cS x122.1.Release):Int) < 2))))],[W 0 4 [bs a0,iv x71,iv a2,iv a3],W 1 9 (AJ x122.1)],2⟩ ?_)
   simp only[List.length_map]
   refine jN ?_
   refine jIf ?_ ?_
   ·exact Ah (AU rfl (wkR [(0,some 0)] (An hF (k:=1) rfl) (pc (hC 0) AD)))
   refine CY (jG 0 13 ⟨[V 0 (pt 0 4),V 6 (iv x58),V 7 (bs x120),V 9 (bv (x118 && ((a4 == [61,61]) || (a4 == [33,61])))),V 124 (bv (((!(a4 == [61,61])) && (!(a4 == [33,61]))) && (decide ((List.length (List.map cS x122.1.Local):Int) > 0))))],[W 0 4 [bs a0,iv x71,iv a2,iv a3]],2⟩ ?_)
   simp only[List.length_map]
   exact Ad rfl (AU rfl (wkR [(0,some 0)] (An hF (k:=1) rfl) (pc (hC 0) AD)))
  intro x136
  refine Ab ?_
  refine jIf ?_ ?_
  ·refine CY (jG 0 2 ⟨[V 7 (bs x120),V 9 (bv (x118 && ((a4 == [61,61]) || (a4 == [33,61])))),V 151 (pt 0 4),V 152 (iv x58)],[W 0 4 [bs a0,iv x71,iv a2,iv a3]],1⟩ ?_)
   refine BC 2 [(0,some 0)] [(0,some 0)] (fun r:Int × Int=>[W 0 4 [bs a0,iv x71,iv r.1,iv r.2]]) (fun r:Int × Int=>.tup []) 1 (CI a0 x71 a2 a3 19 x58) (pc (hC 0) AD) (fun r=>(pc (.inr (hC 0)) AD)) ?_
   rintro⟨x140,x141⟩ hm15
   exact Ad rfl (BX (AU rfl (wkR [(0,some 0)] (An hF (k:=1) rfl) (pc (hC 0) AD))))
  exact Ah (BX (AU rfl (wkR [(0,some 0)] (An hF (k:=1) rfl) (pc (hC 0) AD))))
 rintro⟨x130,x131⟩
 refine Ab (jS ⟨[V 4 (bs x120),V 5 (bv (x118 && ((a4 == [61,61]) || (a4 == [33,61]))))],[W 0 4 [bs a0,iv x71,iv x130,iv x131]],1⟩ ?_)
 exact Ae (BY (Gb a0 a1 a2 a3 a4 (x120,(x118 && ((a4 == [61,61]) || (a4 == [33,61]))),x71,x130,x131)) (.inr rfl) (wkR [(0,some 0)] (An hF (k:=1) rfl) (pc (hC 0) AD))))
abbrev Eh:List LO:=[BT 2 22 0 0,Bd 4 (.const (.slice none 0 0)) 22]
abbrev Ei:List LO:=[lm 6 1 49]
abbrev Ej:List LO:=[BH 5 39 0,AO 39 5 7 0]
abbrev Ek:List LO:=[AF 8 22 2 22,AF 9 39 5 39,lo 10 (.buildSlice 22 1 #[(0,AE 9)]) 22,DP 11 #[AE 8,AE 10] #[22,22] 22,AO 22 2 11 0]
noncomputable def B2:Code:=EE (G0 Go.Proofs.Tryz.f36) [1,0,1,0,0]
theorem EN:GX E B2=some (.reg false Ej):=by kernel_rfl
noncomputable def B3:Code:=EE (G0 Go.Proofs.Tryz.f36) [1,0,1,0,1]
theorem EO:GX E B3=some (.block 1 (.reg false Ek)):=by kernel_rfl
abbrev El:List LO:=[AF 12 22 2 22,AB 4 12 22]
noncomputable abbrev DA:LC:=.seq (.reg false Eh) (.seq (.seq (.reg false Ei) (.block 0 (.rng (.tmp 6) [7] B2 B3))) (.seq (.reg false El) .ret))
theorem Ez:Bf E 36 13 [.tmp 4] DA:=Bp Go.Proofs.Tryz.f36
noncomputable abbrev AG (q:LoopState) (p:Option Code):C0:=.loop { state:=q,pending:=p,tmps:=tl 13 [V 2 (pt 2 1),V 6 (.fn 37 [pt 0 1])] none,params:=[7],assign:=B2,body:=B3 }
noncomputable def BS (a0:Str):(Int × Int × Int × Int × List AK)→Option (Step (Int × Int × Int × Int × List AK) ((Int × Int × Int × List AK) ⊕ (Int × Int × Int × List AK))):=fun (x90,x91,x92,x93,x94)=>Option.bind (Ba a0 x90 x91 x92) (fun x131=>(if x131=true then Option.bind (CK a0 x90 x91 x92) (fun x132=>(if ((x93 == 32) && (decide (x132 < (List.length a0:Int))))=true then Option.bind (Bu a0 x132 x91 x92 12 x132) (fun (x133,x134)=>some (Step.done (Sum.inl (x132,x133,x134,x94)))) else Option.bind (DL a0 x132 x91 x92) (fun (x135,x136,x137,x138)=>Option.bind (Ba a0 x136 x137 x138) (fun x139=>(if (!x139)=true then some (Step.done (Sum.inl (x136,x137,x138,x94))) else Option.bind (EB a0 x136 x137 x138 x135) (fun (x140,x141,x142,x143,x144)=>Option.bind (Ba a0 x142 x143 x144) (fun x145=>Option.bind (if (!x145)=true then some (true,x94) else Option.bind (Option.bind (app 40 x94 [(AK.mk x135 x140 x141)]) (fun x152=>some x152):Option (List AK)) (fun x151=>some (false,x151)):Option (Bool × List AK)) (fun (x148,x149)=>(if x148=true then some (Step.done (Sum.inl (x142,x143,x144,x149))) else Option.bind (CK a0 x142 x143 x144) (fun x153=>(if (decide (x153≥(List.length a0:Int)))=true then some (Step.done (Sum.inl (x153,x143,x144,x149))) else Option.bind (Bv a0 x153 x143 x144 44) (fun x154=>(if (!x154)=true then Option.bind (Cn a0 x153 x143 x144) (fun (x155,x156)=>some (Step.done (Sum.inl (x153,x155,x156,x149)))) else some (Step.next ((w64 (x153 + 1)),x143,x144,(w64 (x93 + 1)),x149))))))))))))))) else some (Step.done (Sum.inr (x90,x91,x92,x94)))))
abbrev CF (a0:Str) (a1:Int) (a2:Int) (a3:Int) (r:List AK × Int × Int × Int):CS:=⟨[V 4 (.osl 2 0 (List.length r.1) 3)],[W 0 1 [pt 1 4],W 1 4 [bs a0,iv r.2.1,iv r.2.2.1,iv r.2.2.2],(2,.rows 3 (List.map AC r.1))],3⟩
noncomputable def Bw (a0:Str) (a1:Int) (a2:Int) (a3:Int):Option (List AK × Int × Int × Int):=Option.bind (CK a0 a1 a2 a3) (fun x68=>(if (decide (x68≥(List.length a0:Int)))=true then some ([],x68,a2,a3) else Option.bind (CD (BS a0) (x68,a2,a3,0,[])) (fun y=>match y with | Sum.inl (x123,x124,x125,x126)=>some (x126,x123,x124,x125) | Sum.inr (x127,x128,x129,x130)=>some (x130,x127,x128,x129))))
theorem Eg (a0:Str) (a1:Int) (a2:Int) (a3:Int):CtM E 36 [AQ,.fn 37 [pt 0 1]] [W 0 1 [pt 1 4],W 1 4 [bs a0,iv a1,iv a2,iv a3]] 2 (Bw a0 a1 a2 a3) (fun r:List AK × Int × Int × Int=>.osl 2 0 (List.length r.1) 3) (fun r:List AK × Int × Int × Int=>[W 0 1 [pt 1 4],W 1 4 [bs a0,iv r.2.1,iv r.2.2.1,iv r.2.2.2],(2,.rows 3 (List.map AC r.1))]) 3:=B5 (N:=13) (L:=DA) Ez rfl (Nat.le_of_ble_eq_true rfl) (fun F hF=>by
 unfold Bw
 refine jS ⟨[V 1 (.fn 37 [pt 0 1]),V 2 (pt 2 1)],[W 0 1 [pt 1 4],W 1 4 [bs a0,iv a1,iv a2,iv a3],W 2 1 [AQ]],3⟩ ?_
 refine Aj (jS ⟨[V 2 (pt 2 1),V 6 (.fn 37 [pt 0 1])],[W 0 1 [pt 1 4],W 1 4 [bs a0,iv a1,iv a2,iv a3],W 2 1 [AQ]],3⟩ ?_)
 refine A4 ?_
 refine AAk [2,6] [0,1,2] (st1:=⟨[V 2 (pt 2 1),V 6 (.fn 37 [pt 0 1])],[W 0 1 [pt 1 4],W 1 4 [bs a0,iv a1,iv a2,iv a3],W 2 1 [AQ]],3⟩) (by kernel_rfl) ?_
 refine AC5 (g:=37) (caps:=[pt 0 1]) (by kernel_rfl) K5 (Nat.le_of_ble_eq_true rfl) ?_
 intro F16 hc16
 refine jR (jG 0 1 ⟨[V 0 (.yld 3),V 1 (pt 0 1),V 5 (pt 1 4)],[W 0 1 [pt 1 4],W 1 4 [bs a0,iv a1,iv a2,iv a3],W 2 1 [AQ],(3,AG .ready none)],4⟩ ?_)
 refine BC 1 [(0,some 1)] [(1,some 0)] (fun r:Int=>[W 0 1 [pt 1 4],W 1 4 [bs a0,iv r,iv a2,iv a3],W 2 1 [AQ],(3,AG .ready none)]) (fun r:Int=>.tup []) 4 (Do a0 a1 a2 a3) (pc (hC 1) AD) (fun r=>(pc (.inl ⟨rfl,rfl⟩) (pc (.inr (hC 0)) (pc (.inl ⟨rfl,rfl⟩) (pc (.inl ⟨rfl,rfl⟩) AD))))) ?_
 rintro x68 hm38
 refine jN (Aj (jS ⟨[V 0 (.yld 3),V 1 (pt 0 1),V 16 (bv (decide (x68≥(List.length a0:Int))))],[W 0 1 [pt 1 4],W 1 4 [bs a0,iv x68,iv a2,iv a3],W 2 1 [AQ],(3,AG .ready none)],4⟩ ?_))
 refine jIf ?_ ?_
 ·refine Ae (Ar ?_)
  refine WI hc16 (.inr rfl) rfl nofun rfl ?_
  refine BX (Ab (jS ⟨[V 4 (AQ)],[W 0 1 [pt 1 4],W 1 4 [bs a0,iv x68,iv a2,iv a3]],4⟩ ?_))
  exact Ae (BY (CF a0 a1 a2 a3 ([],x68,a2,a3)) (.inr rfl) (wkR [(0,some 0),(1,some 1),(2,none)] (An hF (k:=2) rfl) (pc (hC 0) (pc (hC 1) (pc hZ AD)))))
 refine Ah (Ab (jS ⟨[V 0 (.yld 3),V 1 (pt 0 1),V 3 (iv 0)],[W 0 1 [pt 1 4],W 1 4 [bs a0,iv x68,iv a2,iv a3],W 2 1 [AQ],(3,AG .ready none)],4⟩ ?_))
 refine A4 ?_
 refine BA (fun y=>match y with | Sum.inl (x123,x124,x125,x126)=>⟨[],[W 0 1 [pt 1 4],W 1 4 [bs a0,iv x123,iv x124,iv x125],W 2 1 [.osl 4 0 (List.length x126) 3],(3,AG .ready none),(4,.rows 3 (List.map AC x126))],5⟩ | Sum.inr (x127,x128,x129,x130)=>⟨[],[W 0 1 [pt 1 4],W 1 4 [bs a0,iv x127,iv x128,iv x129],W 2 1 [.osl 4 0 (List.length x130) 3],(3,AG .ready none),(4,.rows 3 (List.map AC x130))],5⟩) (fun y=>match y with | Sum.inl (x123,x124,x125,x126)=>.ret | Sum.inr (x127,x128,x129,x130)=>(.exit 0)) (C5 (fun (x90,x91,x92,x93,x94)=>⟨[V 0 (.yld 3),V 1 (pt 0 1),V 3 (iv x93)],[W 0 1 [pt 1 4],W 1 4 [bs a0,iv x90,iv x91,iv x92],W 2 1 [.osl 4 0 (List.length x94) 3],(3,AG .ready none),(4,.rows 3 (List.map AC x94))],5⟩) (wkR [(0,some 0),(1,some 1),(2,some 2),(3,some 3),(4,none)] (An hc16.2.2 (k:=4) rfl) (pc (hC 0) (pc (hC 1) (pc (hC 2) (pc (.inr (.inr (.inl ⟨3,_,_,rfl,rfl,rfl,by kernel_rfl⟩))) (pc hZ AD)))))) ?_) ?_
 ·rintro⟨x90,x91,x92,x93,x94⟩
  unfold BS
  refine Aj (jR (jG 0 1 ⟨[V 0 (.yld 3),V 1 (pt 0 1),V 3 (iv x93),V 17 (pt 1 4)],[W 0 1 [pt 1 4],W 1 4 [bs a0,iv x90,iv x91,iv x92],W 2 1 [.osl 4 0 (List.length x94) 3],(3,AG .ready none),(4,.rows 3 (List.map AC x94))],5⟩ ?_))
  refine By (i:=1) rfl rfl rfl rfl (vs:=[pt 1 4]) (vs0:=[.fptr [bs a0,iv x90,iv x91,iv x92] 0]) (b:=true) (by kernel_rfl) (by kernel_rfl) (AL (AP _) Ax) (Ch a0 x90 x91 x92) (fun _=>rfl) (fun _=>rfl) ?_
  intro x131 h131
  refine jN ?_
  refine jIf ?_ ?_
  ·refine Ah (Ab (Aj (A4 (jR (jG 0 1 ⟨[V 0 (.yld 3),V 1 (pt 0 1),V 3 (iv x93),V 21 (pt 1 4)],[W 0 1 [pt 1 4],W 1 4 [bs a0,iv x90,iv x91,iv x92],W 2 1 [.osl 4 0 (List.length x94) 3],(3,AG .ready none),(4,.rows 3 (List.map AC x94))],5⟩ ?_)))))
   refine BC 1 [(0,some 1)] [(1,some 0)] (fun r:Int=>[W 0 1 [pt 1 4],W 1 4 [bs a0,iv r,iv x91,iv x92],W 2 1 [.osl 4 0 (List.length x94) 3],(3,AG .ready none),(4,.rows 3 (List.map AC x94))]) (fun r:Int=>.tup []) 5 (Do a0 x90 x91 x92) (pc (hC 1) AD) (fun r=>(pc (.inl ⟨rfl,rfl⟩) (pc (.inr (hC 0)) (pc (.inl ⟨rfl,rfl⟩) (pc (.inl ⟨rfl,rfl⟩) (pc (.inl ⟨rfl,rfl⟩) AD)))))) ?_
   rintro x132 hm37
   refine jN (Aj (jS ⟨[V 0 (.yld 3),V 1 (pt 0 1),V 3 (iv x93),V 36 (bv ((x93 == 32) && (decide (x132 < (List.length a0:Int)))))],[W 0 1 [pt 1 4],W 1 4 [bs a0,iv x132,iv x91,iv x92],W 2 1 [.osl 4 0 (List.length x94) 3],(3,AG .ready none),(4,.rows 3 (List.map AC x94))],5⟩ ?_))
   refine jIf ?_ ?_
   ·refine jR (jG 0 5 ⟨[V 37 (pt 1 4),V 41 (iv x132)],[W 0 1 [pt 1 4],W 1 4 [bs a0,iv x132,iv x91,iv x92],W 2 1 [.osl 4 0 (List.length x94) 3],(3,AG .ready none),(4,.rows 3 (List.map AC x94))],5⟩ ?_)
    refine BC 5 [(0,some 1)] [(1,some 0)] (fun r:Int × Int=>[W 0 1 [pt 1 4],W 1 4 [bs a0,iv x132,iv r.1,iv r.2],W 2 1 [.osl 4 0 (List.length x94) 3],(3,AG .ready none),(4,.rows 3 (List.map AC x94))]) (fun r:Int × Int=>.tup []) 5 (CI a0 x132 x91 x92 12 x132) (pc (hC 1) AD) (fun r=>(pc (.inl ⟨rfl,rfl⟩) (pc (.inr (hC 0)) (pc (.inl ⟨rfl,rfl⟩) (pc (.inl ⟨rfl,rfl⟩) (pc (.inl ⟨rfl,rfl⟩) AD)))))) ?_
    rintro⟨x133,x134⟩ hm30
    exact jN (Ae (Ar (BG (Ar (Bm rfl nofun (wkR [(0,some 0),(1,some 1),(2,some 2),(3,some 3),(4,some 4)] (An hc16.2.2 (k:=4) rfl) (pc (hC 0) (pc (hC 1) (pc (hC 2) (pc (.inr (.inr (.inl ⟨3,_,_,rfl,rfl,rfl,by kernel_rfl⟩))) (pc (hL 4 (AY A3 _)) AD)))))))))))
   refine Ah (Ab (jR (jG 0 1 ⟨[V 0 (.yld 3),V 1 (pt 0 1),V 3 (iv x93),V 43 (pt 1 4)],[W 0 1 [pt 1 4],W 1 4 [bs a0,iv x132,iv x91,iv x92],W 2 1 [.osl 4 0 (List.length x94) 3],(3,AG .ready none),(4,.rows 3 (List.map AC x94))],5⟩ ?_)))
   refine BC 1 [(0,some 1)] [(1,some 0)] (fun r:Str × Int × Int × Int=>[W 0 1 [pt 1 4],W 1 4 [bs a0,iv r.2.1,iv r.2.2.1,iv r.2.2.2],W 2 1 [.osl 4 0 (List.length x94) 3],(3,AG .ready none),(4,.rows 3 (List.map AC x94))]) (fun r:Str × Int × Int × Int=>bs r.1) 5 (MU a0 x132 x91 x92) (pc (hC 1) AD) (fun r=>(pc (.inl ⟨rfl,rfl⟩) (pc (.inr (hC 0)) (pc (.inl ⟨rfl,rfl⟩) (pc (.inl ⟨rfl,rfl⟩) (pc (.inl ⟨rfl,rfl⟩) AD)))))) ?_
   rintro⟨x135,x136,x137,x138⟩ hm36
   refine jG 2 3 ⟨[V 0 (.yld 3),V 1 (pt 0 1),V 3 (iv x93),V 4 (pt 5 3)],[W 0 1 [pt 1 4],W 1 4 [bs a0,iv x136,iv x137,iv x138],W 2 1 [.osl 4 0 (List.length x94) 3],(3,AG .ready none),(4,.rows 3 (List.map AC x94)),W 5 3 [bs x135,bs [],bv false]],6⟩ ?_
   refine jN (Aj (jR (jG 0 1 ⟨[V 0 (.yld 3),V 1 (pt 0 1),V 3 (iv x93),V 4 (pt 5 3),V 46 (pt 1 4)],[W 0 1 [pt 1 4],W 1 4 [bs a0,iv x136,iv x137,iv x138],W 2 1 [.osl 4 0 (List.length x94) 3],(3,AG .ready none),(4,.rows 3 (List.map AC x94)),W 5 3 [bs x135,bs [],bv false]],6⟩ ?_)))
   refine By (i:=1) rfl rfl rfl rfl (vs:=[pt 1 4]) (vs0:=[.fptr [bs a0,iv x136,iv x137,iv x138] 0]) (b:=true) (by kernel_rfl) (by kernel_rfl) (AL (AP _) Ax) (Ch a0 x136 x137 x138) (fun _=>rfl) (fun _=>rfl) ?_
   intro x139 h139
   refine jG 2 1 ⟨[V 0 (.yld 3),V 1 (pt 0 1),V 3 (iv x93),V 4 (pt 5 3),V 48 (bv (!x139))],[W 0 1 [pt 1 4],W 1 4 [bs a0,iv x136,iv x137,iv x138],W 2 1 [.osl 4 0 (List.length x94) 3],(3,AG .ready none),(4,.rows 3 (List.map AC x94)),W 5 3 [bs x135,bs [],bv false]],6⟩ ?_
   refine jN ?_
   refine jIf ?_ ?_
   ·exact Ae (Ar (BG (Ar (Bm rfl nofun (wkR [(0,some 0),(1,some 1),(2,some 2),(3,some 3),(4,some 4)] (An hc16.2.2 (k:=4) rfl) (pc (hC 0) (pc (hC 1) (pc (hC 2) (pc (.inr (.inr (.inl ⟨3,_,_,rfl,rfl,rfl,by kernel_rfl⟩))) (pc (hL 4 (AY A3 _)) AD))))))))))
   refine Ah (Ab (jR (jG 0 3 ⟨[V 0 (.yld 3),V 1 (pt 0 1),V 3 (iv x93),V 4 (pt 5 3),V 50 (pt 1 4),V 52 (bs x135)],[W 0 1 [pt 1 4],W 1 4 [bs a0,iv x136,iv x137,iv x138],W 2 1 [.osl 4 0 (List.length x94) 3],(3,AG .ready none),(4,.rows 3 (List.map AC x94)),W 5 3 [bs x135,bs [],bv false]],6⟩ ?_)))
   refine BC 3 [(0,some 1)] [(1,some 0)] (fun r:Str × Bool × Int × Int × Int=>[W 0 1 [pt 1 4],W 1 4 [bs a0,iv r.2.2.1,iv r.2.2.2.1,iv r.2.2.2.2],W 2 1 [.osl 4 0 (List.length x94) 3],(3,AG .ready none),(4,.rows 3 (List.map AC x94)),W 5 3 [bs x135,bs [],bv false]]) (fun r:Str × Bool × Int × Int × Int=>.tup [bs r.1,bv r.2.1]) 6 (Qx a0 x136 x137 x138 x135) (pc (hC 1) AD) (fun r=>(pc (.inl ⟨rfl,rfl⟩) (pc (.inr (hC 0)) (pc (.inl ⟨rfl,rfl⟩) (pc (.inl ⟨rfl,rfl⟩) (pc (.inl ⟨rfl,rfl⟩) (pc (.inl ⟨rfl,rfl⟩) AD))))))) ?_
   rintro⟨x140,x141,x142,x143,x144⟩ hm35
   refine jG 4 7 ⟨[V 0 (.yld 3),V 1 (pt 0 1),V 3 (iv x93),V 4 (pt 5 3)],[W 0 1 [pt 1 4],W 1 4 [bs a0,iv x142,iv x143,iv x144],W 2 1 [.osl 4 0 (List.length x94) 3],(3,AG .ready none),(4,.rows 3 (List.map AC x94)),W 5 3 [bs x135,bs x140,bv x141]],6⟩ ?_
   refine jN (Aj (jR (jG 0 1 ⟨[V 0 (.yld 3),V 1 (pt 0 1),V 3 (iv x93),V 4 (pt 5 3),V 58 (pt 1 4)],[W 0 1 [pt 1 4],W 1 4 [bs a0,iv x142,iv x143,iv x144],W 2 1 [.osl 4 0 (List.length x94) 3],(3,AG .ready none),(4,.rows 3 (List.map AC x94)),W 5 3 [bs x135,bs x140,bv x141]],6⟩ ?_)))
   refine By (i:=1) rfl rfl rfl rfl (vs:=[pt 1 4]) (vs0:=[.fptr [bs a0,iv x142,iv x143,iv x144] 0]) (b:=true) (by kernel_rfl) (by kernel_rfl) (AL (AP _) Ax) (Ch a0 x142 x143 x144) (fun _=>rfl) (fun _=>rfl) ?_
   intro x145 h145
   refine jG 2 2 ⟨[V 0 (.yld 3),V 1 (pt 0 1),V 3 (iv x93),V 4 (pt 5 3),V 61 (bv (!x145))],[W 0 1 [pt 1 4],W 1 4 [bs a0,iv x142,iv x143,iv x144],W 2 1 [.osl 4 0 (List.length x94) 3],(3,AG .ready none),(4,.rows 3 (List.map AC x94)),W 5 3 [bs x135,bs x140,bv x141]],6⟩ ?_
   refine A2 4 5 (fun (x148,x149)=>⟨[V 0 (.yld 3),V 1 (pt 0 1),V 3 (iv x93),V 66 (bv x148)],[W 0 1 [pt 1 4],W 1 4 [bs a0,iv x142,iv x143,iv x144],W 2 1 [.osl 4 0 (List.length x149) 3],(3,AG .ready none),(4,.rows 3 (List.map AC x149))],5⟩) ?_ ?_
   ·refine jSp 61 ?_ ?_
    ·refine jG 0 5 ⟨[V 0 (.yld 3),V 1 (pt 0 1),V 3 (iv x93),V 66 (bv true)],[W 0 1 [pt 1 4],W 1 4 [bs a0,iv x142,iv x143,iv x144],W 2 1 [.osl 4 0 (List.length x94) 3],(3,AG .ready none),(4,.rows 3 (List.map AC x94))],6⟩ ?_
     exact Ad rfl (AU rfl (wkR [(0,some 0),(1,some 1),(2,some 2),(3,some 3),(4,some 4)] (An hc16.2.2 (k:=4) rfl) (pc (hC 0) (pc (hC 1) (pc (hC 2) (pc (.inr (.inr (.inl ⟨3,_,_,rfl,rfl,rfl,by kernel_rfl⟩))) (pc (hL 4 (AY A3 _)) AD)))))))
    refine jG 0 2 ⟨[V 0 (.yld 3),V 1 (pt 0 1),V 3 (iv x93),(61,.lit false),V 62 (.yld 3),V 63 (.agg [bs x135,bs x140,bv x141])],[W 0 1 [pt 1 4],W 1 4 [bs a0,iv x142,iv x143,iv x144],W 2 1 [.osl 4 0 (List.length x94) 3],(3,AG .ready none),(4,.rows 3 (List.map AC x94))],6⟩ ?_
    refine b6 (i:=2) (l:=3) (Nc:=13) (Kc:=[V 2 (pt 2 1),V 6 (.fn 37 [pt 0 1])]) (ps:=[7]) (vs:=[.agg [bs x135,bs x140,bv x141]]) (fun x151=>⟨[],[W 0 1 [pt 1 4],W 1 4 [bs a0,iv x142,iv x143,iv x144],W 2 1 [.osl 6 0 (List.length x151) 3],(3,AG .busy none),(6,.rows 3 (List.map AC x151))],7⟩) (fun x151=>.normal) [0,1,3,61,64] [0,1,2,3,6] (after:=(fun x151=>⟨[V 0 (.yld 3),V 1 (pt 0 1),V 3 (iv x93),(61,.lit false),V 64 (bv true)],[W 0 1 [pt 1 4],W 1 4 [bs a0,iv x142,iv x143,iv x144],W 2 1 [.osl 6 0 (List.length x151) 3],(3,AG .ready none),(6,.rows 3 (List.map AC x151))],7⟩)) rfl rfl EN EO (by kernel_rfl) (by kernel_rfl) (sI hc16 rfl) rfl (by kernel_rfl) rfl ?_ (by intro x151 <;> exact⟨none,by kernel_rfl⟩) (by intro x151 <;> kernel_rfl) ?_
    ·intro F32 hy32
     refine jT ⟨[V 2 (pt 2 1),V 5 (pt 6 3)],[W 0 1 [pt 1 4],W 1 4 [bs a0,iv x142,iv x143,iv x144],W 2 1 [.osl 4 0 (List.length x94) 3],(3,AG .ready none),(4,.rows 3 (List.map AC x94)),W 6 3 [bs x135,bs x140,bv x141]],7⟩ ?_
     refine zB hy32 rfl ?_
     refine A4 (CY (jG 0 3 ⟨[V 2 (pt 2 1),V 8 (.osl 4 0 (List.length x94) 3),V 10 (.osl 7 0 (List.length [(AK.mk x135 x140 x141)]) 3)],[W 0 1 [pt 1 4],W 1 4 [bs a0,iv x142,iv x143,iv x144],W 2 1 [.osl 4 0 (List.length x94) 3],(3,AG .busy none),(4,.rows 3 (List.map AC x94)),(7,.rows 3 (List.map AC [(AK.mk x135 x140 x141)]))],8⟩ ?_))
     refine A5 (i:=3) (mo:=app 40 x94 [(AK.mk x135 x140 x141)]) rfl rfl rfl rfl (fun _ hc=>LQ (u:=.osl 4 0 (List.length x94) 3) (w:=.osl 7 0 (List.length [(AK.mk x135 x140 x141)]) 3) (e:=39) (td:=.slice 39) (by kernel_rfl) (by kernel_rfl) (by kernel_rfl) (by kernel_rfl) (.inl ⟨_,rfl⟩) (E5 (c:=AC) (sz:=3) (b:=40) (id:=4) (by kernel_rfl) (by kernel_rfl) (Oe (by kernel_rfl)) (List.cons_ne_nil _ _) hc)) (fun _=>rfl) ?_
     intro x152 h152
     refine jG 4 1 ⟨[],[W 0 1 [pt 1 4],W 1 4 [bs a0,iv x142,iv x143,iv x144],W 2 1 [.osl 8 0 (List.length x152) 3],(3,AG .busy none),(8,.rows 3 (List.map AC x152))],9⟩ ?_
     exact Ad rfl (BX (AU rfl (wkR [(0,some 0),(1,some 1),(2,some 2),(3,some 3),(4,some 4),(5,some 5),(6,some 8)] (An hy32.2 (k:=6) rfl) (pc (hC 0) (pc (hC 1) (pc (hC 2) (pc (.inr (.inr (.inl ⟨3,_,_,rfl,rfl,rfl,by kernel_rfl⟩))) (pc (hL 8 (AY A3 _)) AD))))))))
    intro x151
    refine jG 3 2 ⟨[V 0 (.yld 3),V 1 (pt 0 1),V 3 (iv x93),V 66 (bv false)],[W 0 1 [pt 1 4],W 1 4 [bs a0,iv x142,iv x143,iv x144],W 2 1 [.osl 6 0 (List.length x151) 3],(3,AG .ready none),(6,.rows 3 (List.map AC x151))],7⟩ ?_
    exact Ad rfl (AU rfl (wkR [(0,some 0),(1,some 1),(2,some 2),(3,some 3),(4,some 6)] (An hc16.2.2 (k:=4) rfl) (pc (hC 0) (pc (hC 1) (pc (hC 2) (pc (.inr (.inr (.inl ⟨3,_,_,rfl,rfl,rfl,by kernel_rfl⟩))) (pc (hL 6 (AY A3 _)) AD)))))))
   rintro⟨x148,x149⟩
   refine jN ?_
   refine jIf ?_ ?_
   ·exact Ae (Ar (BG (Ar (Bm rfl nofun (wkR [(0,some 0),(1,some 1),(2,some 2),(3,some 3),(4,some 4)] (An hc16.2.2 (k:=4) rfl) (pc (hC 0) (pc (hC 1) (pc (hC 2) (pc (.inr (.inr (.inl ⟨3,_,_,rfl,rfl,rfl,by kernel_rfl⟩))) (pc (hL 4 (AY A3 _)) AD))))))))))
   refine Ah (Ab (jR (jG 0 1 ⟨[V 0 (.yld 3),V 1 (pt 0 1),V 3 (iv x93),V 67 (pt 1 4)],[W 0 1 [pt 1 4],W 1 4 [bs a0,iv x142,iv x143,iv x144],W 2 1 [.osl 4 0 (List.length x149) 3],(3,AG .ready none),(4,.rows 3 (List.map AC x149))],5⟩ ?_)))
   refine BC 1 [(0,some 1)] [(1,some 0)] (fun r:Int=>[W 0 1 [pt 1 4],W 1 4 [bs a0,iv r,iv x143,iv x144],W 2 1 [.osl 4 0 (List.length x149) 3],(3,AG .ready none),(4,.rows 3 (List.map AC x149))]) (fun r:Int=>.tup []) 5 (Do a0 x142 x143 x144) (pc (hC 1) AD) (fun r=>(pc (.inl ⟨rfl,rfl⟩) (pc (.inr (hC 0)) (pc (.inl ⟨rfl,rfl⟩) (pc (.inl ⟨rfl,rfl⟩) (pc (.inl ⟨rfl,rfl⟩) AD)))))) ?_
   rintro x153 hm34
   refine jN (Aj (jS ⟨[V 0 (.yld 3),V 1 (pt 0 1),V 3 (iv x93),V 78 (bv (decide (x153≥(List.length a0:Int))))],[W 0 1 [pt 1 4],W 1 4 [bs a0,iv x153,iv x143,iv x144],W 2 1 [.osl 4 0 (List.length x149) 3],(3,AG .ready none),(4,.rows 3 (List.map AC x149))],5⟩ ?_))
   refine jIf ?_ ?_
   ·exact Ae (Ar (BG (Ar (Bm rfl nofun (wkR [(0,some 0),(1,some 1),(2,some 2),(3,some 3),(4,some 4)] (An hc16.2.2 (k:=4) rfl) (pc (hC 0) (pc (hC 1) (pc (hC 2) (pc (.inr (.inr (.inl ⟨3,_,_,rfl,rfl,rfl,by kernel_rfl⟩))) (pc (hL 4 (AY A3 _)) AD))))))))))
   refine Ah (Ab (Aj (jR (jG 0 1 ⟨[V 0 (.yld 3),V 1 (pt 0 1),V 3 (iv x93),V 79 (pt 1 4)],[W 0 1 [pt 1 4],W 1 4 [bs a0,iv x153,iv x143,iv x144],W 2 1 [.osl 4 0 (List.length x149) 3],(3,AG .ready none),(4,.rows 3 (List.map AC x149))],5⟩ ?_))))
   refine By (i:=1) rfl rfl rfl rfl (vs:=[pt 1 4,.s (.int .u8 44)]) (vs0:=[.fptr [bs a0,iv x153,iv x143,iv x144] 0,.s (.int .u8 44)]) (b:=true) (by kernel_rfl) (by kernel_rfl) (AL (AP _) (AL (AP _) Ax)) (Cg a0 x153 x143 x144 44) (fun _=>rfl) (fun _=>rfl) ?_
   intro x154 h154
   refine jG 2 1 ⟨[V 0 (.yld 3),V 1 (pt 0 1),V 3 (iv x93),V 81 (bv (!x154))],[W 0 1 [pt 1 4],W 1 4 [bs a0,iv x153,iv x143,iv x144],W 2 1 [.osl 4 0 (List.length x149) 3],(3,AG .ready none),(4,.rows 3 (List.map AC x149))],5⟩ ?_
   refine jN ?_
   refine jIf ?_ ?_
   ·refine jR (jG 0 1 ⟨[V 82 (pt 1 4)],[W 0 1 [pt 1 4],W 1 4 [bs a0,iv x153,iv x143,iv x144],W 2 1 [.osl 4 0 (List.length x149) 3],(3,AG .ready none),(4,.rows 3 (List.map AC x149))],5⟩ ?_)
    refine BC 1 [(0,some 1)] [(1,some 0)] (fun r:Int × Int=>[W 0 1 [pt 1 4],W 1 4 [bs a0,iv x153,iv r.1,iv r.2],W 2 1 [.osl 4 0 (List.length x149) 3],(3,AG .ready none),(4,.rows 3 (List.map AC x149))]) (fun r:Int × Int=>.tup []) 5 (FC a0 x153 x143 x144) (pc (hC 1) AD) (fun r=>(pc (.inl ⟨rfl,rfl⟩) (pc (.inr (hC 0)) (pc (.inl ⟨rfl,rfl⟩) (pc (.inl ⟨rfl,rfl⟩) (pc (.inl ⟨rfl,rfl⟩) AD)))))) ?_
    rintro⟨x155,x156⟩ hm33
    exact jN (Ae (Ar (BG (Ar (Bm rfl nofun (wkR [(0,some 0),(1,some 1),(2,some 2),(3,some 3),(4,some 4)] (An hc16.2.2 (k:=4) rfl) (pc (hC 0) (pc (hC 1) (pc (hC 2) (pc (.inr (.inr (.inl ⟨3,_,_,rfl,rfl,rfl,by kernel_rfl⟩))) (pc (hL 4 (AY A3 _)) AD)))))))))))
   refine Ah (Ab (jT ⟨[V 0 (.yld 3),V 1 (pt 0 1),V 3 (iv x93)],[W 0 1 [pt 1 4],W 1 4 [bs a0,iv (w64 (x153 + 1)),iv x143,iv x144],W 2 1 [.osl 4 0 (List.length x149) 3],(3,AG .ready none),(4,.rows 3 (List.map AC x149))],5⟩ ?_))
   refine BX (Ab (jT ⟨[V 0 (.yld 3),V 1 (pt 0 1),V 3 (iv (w64 (x93 + 1)))],[W 0 1 [pt 1 4],W 1 4 [bs a0,iv (w64 (x153 + 1)),iv x143,iv x144],W 2 1 [.osl 4 0 (List.length x149) 3],(3,AG .ready none),(4,.rows 3 (List.map AC x149))],5⟩ ?_))
   exact C7 (wkR [(0,some 0),(1,some 1),(2,some 2),(3,some 3),(4,some 4)] (An hc16.2.2 (k:=4) rfl) (pc (hC 0) (pc (hC 1) (pc (hC 2) (pc (.inr (.inr (.inl ⟨3,_,_,rfl,rfl,rfl,by kernel_rfl⟩))) (pc (hL 4 (AY A3 _)) AD))))))
  exact Cp (Cq (Bm rfl nofun (wkR [(0,some 0),(1,some 1),(2,some 2),(3,some 3),(4,some 4)] (An hc16.2.2 (k:=4) rfl) (pc (hC 0) (pc (hC 1) (pc (hC 2) (pc (.inr (.inr (.inl ⟨3,_,_,rfl,rfl,rfl,by kernel_rfl⟩))) (pc (hL 4 (AY A3 _)) AD))))))))
 rintro (⟨x123,x124,x125,x126⟩ | ⟨x127,x128,x129,x130⟩)
 ·refine BG ?_
  refine WI hc16 (.inr rfl) rfl nofun rfl ?_
  refine BX (Ab (jS ⟨[V 4 (.osl 4 0 (List.length x126) 3)],[W 0 1 [pt 1 4],W 1 4 [bs a0,iv x123,iv x124,iv x125],(4,.rows 3 (List.map AC x126))],5⟩ ?_))
  exact Ae (BY (CF a0 a1 a2 a3 (x126,x123,x124,x125)) (.inr rfl) (wkR [(0,some 0),(1,some 1),(2,some 4)] (An hF (k:=2) rfl) (pc (hC 0) (pc (hC 1) (pc (hL 4 (AY A3 _)) AD)))))
 refine C6 ?_
 refine WI hc16 (.inl rfl) rfl nofun rfl ?_
 refine BX (Ab (jS ⟨[V 4 (.osl 4 0 (List.length x130) 3)],[W 0 1 [pt 1 4],W 1 4 [bs a0,iv x127,iv x128,iv x129],(4,.rows 3 (List.map AC x130))],5⟩ ?_))
 exact Ae (BY (CF a0 a1 a2 a3 (x130,x127,x128,x129)) (.inr rfl) (wkR [(0,some 0),(1,some 1),(2,some 4)] (An hF (k:=2) rfl) (pc (hC 0) (pc (hC 1) (pc (hL 4 (AY A3 _)) AD))))))
abbrev Js:List LO:=[Bd 2 (.const (.slice none 0 0)) 22]
abbrev Jt:List LO:=[lm 3 0 49,AN 4 36 #[.const (.slice none 0 0),AE 3] #[22,49] 22,AB 2 4 22]
abbrev E3:LC:=.seq (.reg false Js) (.seq (.reg false Jt) .ret)
theorem Kr:Bf E 17 5 [.tmp 2] E3:=Bp Go.Proofs.Tryz.f17
abbrev Kq (a0:Str) (a1:Int) (a2:Int) (a3:Int) (r:List AK × Int × Int × Int):CS:=⟨[V 2 (.osl 2 0 (List.length r.1) 3)],[W 0 1 [pt 1 4],W 1 4 [bs a0,iv r.2.1,iv r.2.2.1,iv r.2.2.2],(2,.rows 3 (List.map AC r.1))],3⟩
noncomputable def DE (a0:Str) (a1:Int) (a2:Int) (a3:Int):Option (List AK × Int × Int × Int):=Option.bind (Bw a0 a1 a2 a3) (fun (x9,x10,x11,x12)=>some (x9,x10,x11,x12))
theorem Jr (a0:Str) (a1:Int) (a2:Int) (a3:Int):CtM E 17 [.fn 37 [pt 0 1]] [W 0 1 [pt 1 4],W 1 4 [bs a0,iv a1,iv a2,iv a3]] 2 (DE a0 a1 a2 a3) (fun r:List AK × Int × Int × Int=>.osl 2 0 (List.length r.1) 3) (fun r:List AK × Int × Int × Int=>[W 0 1 [pt 1 4],W 1 4 [bs a0,iv r.2.1,iv r.2.2.1,iv r.2.2.2],(2,.rows 3 (List.map AC r.1))]) 3:=B5 (N:=5) (L:=E3) Kr rfl (Nat.le_of_ble_eq_true rfl) (fun F hF=>by
 unfold DE
 refine jS ⟨[V 0 (.fn 37 [pt 0 1])],[W 0 1 [pt 1 4],W 1 4 [bs a0,iv a1,iv a2,iv a3]],2⟩ ?_
 refine jR (jG 0 1 ⟨[V 3 (.fn 37 [pt 0 1])],[W 0 1 [pt 1 4],W 1 4 [bs a0,iv a1,iv a2,iv a3]],2⟩ ?_)
 refine BC 1 [(0,some 0),(1,some 1)] [(0,some 0),(1,some 1),(2,some 2)] (fun r:List AK × Int × Int × Int=>[W 0 1 [pt 1 4],W 1 4 [bs a0,iv r.2.1,iv r.2.2.1,iv r.2.2.2],(2,.rows 3 (List.map AC r.1))]) (fun r:List AK × Int × Int × Int=>.osl 2 0 (List.length r.1) 3) 3 (Eg a0 a1 a2 a3) (pc (hC 0) (pc (hC 1) AD)) (fun r=>(pc (.inr (hC 0)) (pc (.inr (hC 1)) (pc (.inr (hL 2 (AY A3 _))) AD)))) ?_
 rintro⟨x9,x10,x11,x12⟩ hm2
 refine jG 2 1 ⟨[V 2 (.osl 2 0 (List.length x9) 3)],[W 0 1 [pt 1 4],W 1 4 [bs a0,iv x10,iv x11,iv x12],(2,.rows 3 (List.map AC x9))],3⟩ ?_
 exact jN (Ae (BY (Kq a0 a1 a2 a3 (x9,x10,x11,x12)) (.inr rfl) (wkR [(0,some 0),(1,some 1),(2,some 2)] (An hF (k:=2) rfl) (pc (hC 0) (pc (hC 1) (pc (hL 2 (AY A3 _)) AD)))))))
abbrev NV:List LO:=[BT 1 44 0 0,Bd 2 (.const .nilFunc) 49]
abbrev NW:List LO:=[lo 3 (.makeFunc (Fn.func 37) #[] #[AE 1]) 48,AB 2 3 49]
abbrev HY:LC:=.seq (.reg false NV) (.seq (.reg false NW) .ret)
theorem Oc:Bf E 18 4 [.tmp 2] HY:=Bp Go.Proofs.Tryz.f18
abbrev Ob (a0:Str) (a1:Int) (a2:Int) (a3:Int) (r:Unit):CS:=⟨[V 2 (.fn 37 [pt 1 1])],[W 0 4 [bs a0,iv a1,iv a2,iv a3],W 1 1 [pt 0 4]],2⟩
noncomputable def EH (a0:Str) (a1:Int) (a2:Int) (a3:Int):Option (Unit):=some ()
theorem NU (a0:Str) (a1:Int) (a2:Int) (a3:Int):CtM E 18 [pt 0 4] [W 0 4 [bs a0,iv a1,iv a2,iv a3]] 1 (EH a0 a1 a2 a3) (fun r:Unit=>.fn 37 [pt 1 1]) (fun r:Unit=>[W 0 4 [bs a0,iv a1,iv a2,iv a3],W 1 1 [pt 0 4]]) 2:=B5 (N:=4) (L:=HY) Oc rfl (Nat.le_of_ble_eq_true rfl) (fun F hF=>by
 unfold EH
 refine jS ⟨[V 1 (pt 1 1)],[W 0 4 [bs a0,iv a1,iv a2,iv a3],W 1 1 [pt 0 4]],2⟩ ?_
 refine jS ⟨[V 2 (.fn 37 [pt 1 1])],[W 0 4 [bs a0,iv a1,iv a2,iv a3],W 1 1 [pt 0 4]],2⟩ ?_
 exact Ae (BY (Ob a0 a1 a2 a3 ()) (.inr rfl) (wkR [(0,some 0),(1,some 1)] (An hF (k:=1) rfl) (pc (hC 0) (pc (hC 1) AD)))))
abbrev ZD:List LO:=[Bd 2 (.const (.slice none 0 0)) 22,BH 3 25 0]
abbrev ZE:List LO:=[lm 6 0 9,Ai 7 #[AE 6] #[9] 3,DJ 8 3 7 256 3 4]
abbrev ZF:List LO:=[lo 9 (.build 25 #[(0,.const (.int .i64 12)),(1,.const (.int .i64 256))]) 25,Bd 2 (.const (.slice none 0 0)) 22,AO 25 3 9 0]
abbrev ZG:List LO:=[lm 10 0 9,lo 11 (.build 46 #[(0,AE 10)]) 46,BT 12 46 11 44,AB 4 12 44]
abbrev ZH:List LO:=[lm 13 4 44,AN 14 18 #[AE 13] #[44] 49,AN 15 17 #[AE 14] #[49] 22,AB 5 15 22]
abbrev ZJ:List LO:=[lm 16 4 44,AN 17 19 #[AE 16] #[44] 4,BR 18 4 17 4]
abbrev ZK:List LO:=[lm 19 4 44,AH 20 19 0,AA 21 46 20 2 0,AF 22 25 21 25,Bd 2 (.const (.slice none 0 0)) 22,AO 25 3 22 0]
abbrev ZL:List LO:=[lm 23 5 22,lo 24 (.build 25 #[]) 25,AB 2 23 22,AO 25 3 24 0]
abbrev SF:LC:=.seq (.reg false ZD) (.seq (.seq (.reg false ZE) (.cond (AE 8) (.seq (.reg false ZF) .ret) .skip)) (.seq (.reg false ZG) (.seq (.reg false ZH) (.seq (.seq (.reg false ZJ) (.cond (AE 18) (.seq (.reg true ZK) .ret) .skip)) (.seq (.reg false ZL) .ret)))))
theorem dU:Bf E 6 25 [.tmp 2,.cell 3 25] SF:=Bp Go.Proofs.Tryz.f6
abbrev MD (a0:Str) (r:List AK × Int × Int):CS:=⟨[V 2 (.osl 0 0 (List.length r.1) 3),V 3 (pt 1 2)],[(0,.rows 3 (List.map AC r.1)),W 1 2 [iv r.2.1,iv r.2.2]],2⟩
noncomputable def D2 (a0:Str):Option (List AK × Int × Int):=(if (decide ((List.length a0:Int) > 256))=true then some ([],12,256) else Option.bind (EH a0 0 0 0) (fun _=>Option.bind (DE a0 0 0 0) (fun (x9,x10,x11,x12)=>Option.bind (Ba a0 x10 x11 x12) (fun x13=>(if (!x13)=true then some ([],x11,x12) else some (x9,0,0))))))
theorem FV (a0:Str):CtM E 6 [bs a0] [] 0 (D2 a0) (fun r:List AK × Int × Int=>.tup [.osl 0 0 (List.length r.1) 3,.agg [iv r.2.1,iv r.2.2]]) (fun r:List AK × Int × Int=>[(0,.rows 3 (List.map AC r.1))]) 2:=B5 (N:=25) (L:=SF) dU rfl (Nat.le_of_ble_eq_true rfl) (fun F hF=>by
 unfold D2
 refine jS ⟨[V 0 (bs a0),V 3 (pt 0 2)],[W 0 2 [iv 0,iv 0]],1⟩ ?_
 refine Aj (jS ⟨[V 0 (bs a0),V 3 (pt 0 2),V 8 (bv (decide ((List.length a0:Int) > 256)))],[W 0 2 [iv 0,iv 0]],1⟩ ?_)
 refine jIf ?_ ?_
 ·refine jS ⟨[V 2 (AQ),V 3 (pt 0 2)],[W 0 2 [iv 12,iv 256]],1⟩ ?_
  exact Ae (Ar (BY (MD a0 ([],12,256)) (.inr rfl) (wkR [(0,none),(1,some 0)] (An hF (k:=0) rfl) (pc hZ (pc (hC 0) AD)))))
 refine Ah (Ab (jS ⟨[V 3 (pt 0 2),V 4 (pt 1 4)],[W 0 2 [iv 0,iv 0],W 1 4 [bs a0,iv 0,iv 0,iv 0]],2⟩ ?_))
 refine jR (jG 0 1 ⟨[V 3 (pt 0 2),V 4 (pt 1 4),V 13 (pt 1 4)],[W 0 2 [iv 0,iv 0],W 1 4 [bs a0,iv 0,iv 0,iv 0]],2⟩ ?_)
 refine BC 1 [(0,some 1)] [(1,some 0),(2,some 1)] (fun r:Unit=>[W 0 2 [iv 0,iv 0],W 1 4 [bs a0,iv 0,iv 0,iv 0],W 2 1 [pt 1 4]]) (fun r:Unit=>.fn 37 [pt 2 1]) 3 (NU a0 0 0 0) (pc (hC 1) AD) (fun r=>(pc (.inl ⟨rfl,rfl⟩) (pc (.inr (hC 0)) (pc (.inr (hC 1)) AD)))) ?_
 rintro⟨⟩ hm4
 refine BC 2 [(0,some 2),(1,some 1)] [(2,some 0),(1,some 1),(3,some 2)] (fun r:List AK × Int × Int × Int=>[W 0 2 [iv 0,iv 0],W 1 4 [bs a0,iv r.2.1,iv r.2.2.1,iv r.2.2.2],W 2 1 [pt 1 4],(3,.rows 3 (List.map AC r.1))]) (fun r:List AK × Int × Int × Int=>.osl 3 0 (List.length r.1) 3) 4 (Jr a0 0 0 0) (pc (hC 2) (pc (hC 1) AD)) (fun r=>(pc (.inl ⟨rfl,rfl⟩) (pc (.inr (hC 1)) (pc (.inr (hC 0)) (pc (.inr (hL 2 (AY A3 _))) AD))))) ?_
 rintro⟨x9,x10,x11,x12⟩ hm3
 refine jG 3 1 ⟨[V 3 (pt 0 2),V 4 (pt 1 4),V 5 (.osl 3 0 (List.length x9) 3)],[W 0 2 [iv 0,iv 0],W 1 4 [bs a0,iv x10,iv x11,iv x12],(3,.rows 3 (List.map AC x9))],4⟩ ?_
 refine jN (Aj (jR (jG 0 1 ⟨[V 3 (pt 0 2),V 4 (pt 1 4),V 5 (.osl 3 0 (List.length x9) 3),V 16 (pt 1 4)],[W 0 2 [iv 0,iv 0],W 1 4 [bs a0,iv x10,iv x11,iv x12],(3,.rows 3 (List.map AC x9))],4⟩ ?_)))
 refine By (i:=1) rfl rfl rfl rfl (vs:=[pt 1 4]) (vs0:=[.fptr [bs a0,iv x10,iv x11,iv x12] 0]) (b:=true) (by kernel_rfl) (by kernel_rfl) (AL (AP _) Ax) (Ch a0 x10 x11 x12) (fun _=>rfl) (fun _=>rfl) ?_
 intro x13 h13
 refine jG 2 1 ⟨[V 3 (pt 0 2),V 4 (pt 1 4),V 5 (.osl 3 0 (List.length x9) 3),V 18 (bv (!x13))],[W 0 2 [iv 0,iv 0],W 1 4 [bs a0,iv x10,iv x11,iv x12],(3,.rows 3 (List.map AC x9))],4⟩ ?_
 refine jN ?_
 refine jIf ?_ ?_
 ·refine jS ⟨[V 2 (AQ),V 3 (pt 0 2)],[W 0 2 [iv x11,iv x12]],4⟩ ?_
  exact Ae (Ar (BY (MD a0 ([],x11,x12)) (.inr rfl) (wkR [(0,none),(1,some 0)] (An hF (k:=0) rfl) (pc hZ (pc (hC 0) AD)))))
 refine Ah (Ab (jS ⟨[V 2 (.osl 3 0 (List.length x9) 3),V 3 (pt 0 2)],[W 0 2 [iv 0,iv 0],(3,.rows 3 (List.map AC x9))],4⟩ ?_))
 exact Ae (BY (MD a0 (x9,0,0)) (.inr rfl) (wkR [(0,some 3),(1,some 0)] (An hF (k:=0) rfl) (pc (hL 3 (AY A3 _)) (pc (hC 0) AD)))))
abbrev Km:List LO:=[Bd 2 (.const (.slice none 0 0)) 32]
abbrev Kn:List LO:=[lm 3 0 32,lo 4 (.binOp .eql 32 (AE 3) (.const (.slice none 0 0)) 32) 4]
abbrev Ko:List LO:=[Bd 2 (.const (.slice none 0 0)) 32]
abbrev Kp:List LO:=[lo 5 (.buildSlice 32 0 #[]) 32,lm 6 0 32,DP 7 #[AE 5,AE 6] #[32,32] 32,AB 2 7 32]
abbrev FZ:LC:=.seq (.reg false Km) (.seq (.seq (.reg false Kn) (.cond (AE 4) (.seq (.reg false Ko) .ret) .skip)) (.seq (.reg false Kp) .ret))
theorem LA:Bf E 110 8 [.tmp 2] FZ:=Bp Go.Proofs.Tryz.f110
abbrev FY (a0:List Str) (r:List Str):CS:=⟨[V 2 (.osl 0 0 (List.length r) 1)],[(0,.rows 1 (List.map cS r))],1⟩
noncomputable def Cc (a0:List Str):Option (List Str):=Option.bind (app 16 ([]:List Str) a0) (fun x3=>some x3)
theorem Kl (a0:List Str):CtM E 110 [.fsl 1 (List.map cS a0)] [] 0 (Cc a0) (fun r:List Str=>.osl 0 0 (List.length r) 1) (fun r:List Str=>[(0,.rows 1 (List.map cS r))]) 1:=B5 (N:=8) (L:=FZ) LA rfl (Nat.le_of_ble_eq_true rfl) (fun F hF=>by
 unfold Cc
 refine jS ⟨[V 0 (.fsl 1 (List.map cS a0))],[],0⟩ ?_
 refine Aj (jR (jG 0 1 ⟨[V 0 (.fsl 1 (List.map cS a0)),V 3 (.fsl 1 (List.map cS a0))],[],0⟩ ?_))
 refine AC8 1 (v:=.fsl 1 (List.map cS a0)) (C:=a0=[]) (mA:=(some [])) (b:=false) AFu (fun h=>by first | (rw[h]; rfl) | simp[h,app]) (fun _=>?_) ?_ (hr:=.inr ⟨_,_,rfl⟩)
 ·refine jN ?_
  refine Re (c:=true) (by kernel_rfl) ?_
  refine jS ⟨[V 2 (AQ)],[],0⟩ ?_
  exact Ae (Ar (BY (FY a0 []) (.inr rfl) (wkR [(0,none)] (An hF (k:=0) rfl) (pc hZ AD))))
 refine jN ?_
 refine Re (c:=false) (by kernel_rfl) ?_
 refine Ah (Ab (jR (jG 0 2 ⟨[V 5 (.osl 0 0 (List.length ([]:List Str)) 1),V 6 (.fsl 1 (List.map cS a0))],[(0,.rows 1 (List.map cS ([]:List Str)))],1⟩ ?_)))
 refine AFO (i:=2) (C:=a0=[]) (st1:=fun x3=>⟨[V 7 (.osl 1 0 (List.length x3) 1)],[(1,.rows 1 (List.map cS x3))],2⟩) rfl rfl rfl rfl (fun q _ hc=>LQ (u:=.osl 0 0 (List.length ([]:List Str)) 1) (w:=.fsl 1 (List.map cS a0)) (e:=9) (td:=.slice 9) (by kernel_rfl) (by kernel_rfl) (by kernel_rfl) (by kernel_rfl) (.inl ⟨_,rfl⟩) (E5 (c:=cS) (sz:=1) (b:=16) (id:=0) (by kernel_rfl) (by kernel_rfl) Wb q hc)) (fun q _ hc=>LQ (u:=.osl 0 0 (List.length ([]:List Str)) 1) (w:=.fsl 1 (List.map cS a0)) (e:=9) (td:=.slice 9) (by kernel_rfl) (by kernel_rfl) (by kernel_rfl) (by kernel_rfl) (.inl ⟨_,rfl⟩) (gE (c:=cS) (sz:=1) (b:=16) (m:=a0) (by kernel_rfl) (.inr (.inr ⟨_,_,_,_,rfl⟩)) Wb q)) (fun _=>rfl) (fun _=>rfl) (fun _=>wkR [(1,some 1)] (An hF (k:=0) rfl) (pc (hL 1 (AY BU _)) AD)) (fun q _ hc=>by cases ACV q hc; exact wkR [(1,some 0)] (An hF (k:=0) rfl) (pc (hL 0 (AY BU _)) AD)) ?_
 intro x3 h3
 refine jG 3 1 ⟨[V 2 (.osl 1 0 (List.length x3) 1)],[(1,.rows 1 (List.map cS x3))],2⟩ ?_
 exact jN (Ae (BY (FY a0 x3) (.inr rfl) (wkR [(0,some 1)] (An hF (k:=0) rfl) (pc (hL 1 (AY BU _)) AD)))))
abbrev PI:List LO:=[A8 2 #[] 9]
abbrev P0:List LO:=[lm 5 0 51,AH 6 5 0,AA 7 54 6 0 0,AF 8 9 7 9,lm 9 0 51,AH 10 9 0,AA 11 54 10 1 0,AF 12 3 11 3,AN 13 23 #[AE 8,AE 12,.const (.int .i64 1)] #[9,3,3] 3,AB 3 13 3]
abbrev P1:List LO:=[lm 14 0 51,AH 15 14 0,AA 16 54 15 0 0,AF 17 9 16 9,lm 18 0 51,AH 19 18 0,AA 20 54 19 1 0,AF 21 3 20 3,lm 22 3 3,lo 23 (.slice 9 (AE 17) (some (AE 21)) (some (AE 22)) none) 9,AB 4 23 9]
abbrev P2:List LO:=[lm 24 0 51,lm 25 3 3,AH 26 24 0,AA 27 54 26 1 0,AO 3 27 25 0]
abbrev P3:List LO:=[lm 28 4 9,AN 29 46 #[AE 28] #[9] 9,AB 2 29 9]
abbrev JK:LC:=.seq (.reg false PI) (.seq (.reg true P0) (.seq (.reg true P1) (.seq (.reg false P2) (.seq (.reg false P3) .ret))))
theorem Q8:Bf E 24 30 [.tmp 2] JK:=Bp Go.Proofs.Tryz.f24
abbrev Q7 (a0:Str) (a1:Int) (a2:Int) (a3:Int) (r:Str × Int):CS:=⟨[V 2 (bs r.1)],[W 0 4 [bs a0,iv r.2,iv a2,iv a3]],1⟩
noncomputable def Bl (a0:Str) (a1:Int) (a2:Int) (a3:Int):Option (Str × Int):=Option.bind (Fw a0 a1 1) (fun x6=>Option.bind (E0 a0 a1 x6) (fun x7=>Option.bind (HU x7) (fun x8=>some (x8,x6))))
theorem DM (a0:Str) (a1:Int) (a2:Int) (a3:Int):CtM E 24 [pt 0 4] [W 0 4 [bs a0,iv a1,iv a2,iv a3]] 1 (Bl a0 a1 a2 a3) (fun r:Str × Int=>bs r.1) (fun r:Str × Int=>[W 0 4 [bs a0,iv r.2,iv a2,iv a3]]) 1:=B5 (N:=30) (L:=JK) Q8 rfl (Nat.le_of_ble_eq_true rfl) (fun F hF=>by
 unfold Bl
 refine jS ⟨[V 0 (pt 0 4)],[W 0 4 [bs a0,iv a1,iv a2,iv a3]],1⟩ ?_
 refine jR (jG 0 8 ⟨[V 0 (pt 0 4),V 8 (bs a0),V 12 (iv a1)],[W 0 4 [bs a0,iv a1,iv a2,iv a3]],1⟩ ?_)
 refine jK 8 (LZ a0 a1 1) ?_
 intro x6 h6
 refine jG 9 1 ⟨[V 0 (pt 0 4),V 3 (iv x6)],[W 0 4 [bs a0,iv a1,iv a2,iv a3]],1⟩ ?_
 refine jN (jR (jG 0 9 ⟨[V 0 (pt 0 4),V 3 (iv x6),V 17 (bs a0),V 21 (iv a1),V 22 (iv x6)],[W 0 4 [bs a0,iv a1,iv a2,iv a3]],1⟩ ?_))
 refine A5 (i:=9) (mo:=E0 a0 a1 x6) rfl rfl rfl rfl (fun _ hc=>FP (by kernel_rfl) (by kernel_rfl) (by kernel_rfl) (by kernel_rfl) hc) (fun _=>rfl) ?_
 intro x7 h7
 refine jG 10 1 ⟨[V 0 (pt 0 4),V 3 (iv x6),V 4 (bs x7)],[W 0 4 [bs a0,iv a1,iv a2,iv a3]],1⟩ ?_
 refine jN (jS ⟨[V 4 (bs x7)],[W 0 4 [bs a0,iv x6,iv a2,iv a3]],1⟩ ?_)
 refine jR (jG 0 1 ⟨[V 28 (bs x7)],[W 0 4 [bs a0,iv x6,iv a2,iv a3]],1⟩ ?_)
 refine jK 1 (UE x7) ?_
 intro x8 h8
 refine jG 2 1 ⟨[V 2 (bs x8)],[W 0 4 [bs a0,iv x6,iv a2,iv a3]],1⟩ ?_
 exact jN (Ae (BY (Q7 a0 a1 a2 a3 (x8,x6)) (.inr rfl) (wkR [(0,some 0)] (An hF (k:=1) rfl) (pc (hC 0) AD)))))
abbrev K6:List LO:=[Ag 6 4]
abbrev K7:List LO:=[lm 7 0 51,AH 8 7 0,AA 9 54 8 1 0,AF 10 3 9 3,lm 11 1 3,Bk 12 3 10 11 3 3,lm 13 0 51,AH 14 13 0,AA 15 54 14 0 0,AF 16 9 15 9,Ai 17 #[AE 16] #[9] 3,Al 18 3 12 17 3 4,lm 19 18 4,lmg 20 0 51 19 true,Ao 21 20 0 19 true,AM 22 54 21 0 0 19 true,Aa 23 9 22 9 19 true,lmg 24 0 51 19 true,Ao 25 24 0 19 true,AM 26 54 25 1 0 19 true,Aa 27 3 26 3 19 true,lmg 28 1 3 19 true,lg 29 (.binOp .add 3 (AE 27) (AE 28) 3) 3 19 true,BQ 30 9 23 29 5 19 true,lmg 31 2 3 19 true,A7 32 45 #[AE 30,AE 31] #[5,3] 4 19 true,AS 33 19 32 4,AB 6 33 4]
abbrev Lc:LC:=.seq (.reg false K6) (.seq (.reg true K7) .ret)
theorem Ld:Bf E 25 34 [.tmp 6] Lc:=Bp Go.Proofs.Tryz.f25
noncomputable def BB (a0:Str) (a1:Int) (a2:Int) (a3:Int) (a4:Int) (a5:Int):Option (Bool):=Option.bind (if (decide ((w64 (a1 + a4)) < (List.length a0:Int)))=true then Option.bind (idx a0 (w64 (a1 + a4))) (fun x4=>Option.bind (MF x4 a5) (fun x5=>some x5)) else some false:Option (Bool)) (fun x3=>some x3)
theorem B6 (a0:Str) (a1:Int) (a2:Int) (a3:Int) (a4:Int) (a5:Int):Ct E 25 [.fptr [bs a0,iv a1,iv a2,iv a3] 0,iv a4,iv a5] (BB a0 a1 a2 a3 a4 a5) (fun r:Bool=>bv r):=CN Ld (by
 unfold BB
 refine jS ⟨[V 0 (.fptr [bs a0,iv a1,iv a2,iv a3] 0),V 1 (iv a4),V 2 (iv a5)],[],0⟩ ?_
 refine jR (jG 0 13 ⟨[V 0 (.fptr [bs a0,iv a1,iv a2,iv a3] 0),V 1 (iv a4),V 2 (iv a5),V 19 (bv (decide ((w64 (a1 + a4)) < (List.length a0:Int))))],[],0⟩ ?_)
 refine A2 13 14 (fun x3=>⟨[V 33 (bv x3)],[],0⟩) ?_ ?_
 ·refine jSp 19 ?_ ?_
  ·refine jG 0 10 ⟨[V 2 (iv a5),(19,.lit true),V 23 (bs a0),V 29 (iv (w64 (a1 + a4)))],[],0⟩ ?_
   refine A5 (i:=10) (mo:=idx a0 (w64 (a1 + a4))) rfl rfl rfl rfl (fun _ hc=>Bq (kk:=.i64) (by kernel_rfl) (by kernel_rfl) (by kernel_rfl) hc) (fun _=>rfl) ?_
   intro x4 h4
   refine jG 11 1 ⟨[(19,.lit true),V 30 (.s (.int .u8 x4)),V 31 (iv a5)],[],0⟩ ?_
   refine jK 12 (SO x4 a5) ?_
   intro x5 h5
   refine jG 13 1 ⟨[V 33 (bv x5)],[],0⟩ ?_
   exact Ad rfl (AU rfl BV)
  refine jG 0 14 ⟨[V 33 (bv false)],[],0⟩ ?_
  exact Ad rfl (AU rfl BV)
 intro x3
 refine jG 27 1 ⟨[V 6 (bv x3)],[],0⟩ ?_
 exact jN (Ae (BO (bv x3))))
abbrev SP:List LO:=[lm 3 0 51,AH 4 3 0,AA 5 54 4 2 0,AA 6 25 5 0 0,AF 7 23 6 23,BM 8 23 7 0 23 4]
abbrev SQ:List LO:=[Ap 2 10 23]
abbrev SR:List LO:=[lm 9 0 51,AH 10 9 0,AA 11 54 10 1 0,AF 12 3 11 3,lm 13 0 51,AH 14 13 0,AA 15 54 14 0 0,AF 16 9 15 9,Ai 17 #[AE 16] #[9] 3,CW 18 3 12 17 3 4]
abbrev SS:List LO:=[Ap 2 11 23]
abbrev ST:List LO:=[lm 19 0 51,lm 20 2 23,lm 21 0 51,AH 22 21 0,AA 23 54 22 1 0,AF 24 3 23 3,lo 25 (.build 25 #[(0,AE 20),(1,AE 24)]) 25,AH 26 19 0,AA 27 54 26 2 0,AO 25 27 25 0]
abbrev LL:LC:=.seq (.seq (.reg false SP) (.cond (AE 8) .ret .skip)) (.seq (.reg false SQ) (.seq (.seq (.reg true SR) (.cond (AE 18) (.reg false SS) .skip)) (.reg false ST)))
theorem Tu:Bf E 26 28 [] LL:=Bp Go.Proofs.Tryz.f26
abbrev LK (a0:Str) (a1:Int) (a2:Int) (a3:Int) (r:Int × Int):CS:=⟨[],[W 0 4 [bs a0,iv a1,iv r.1,iv r.2]],1⟩
noncomputable def Cu (a0:Str) (a1:Int) (a2:Int) (a3:Int):Option (Int × Int):=(if (a2 != 0)=true then some (a2,a3) else Option.bind ((if (decide (a1≥(List.length a0:Int)))=true then some 11 else some 10):Option (Int)) (fun x4=>some (x4,a1)))
theorem Gd (a0:Str) (a1:Int) (a2:Int) (a3:Int):CtM E 26 [pt 0 4] [W 0 4 [bs a0,iv a1,iv a2,iv a3]] 1 (Cu a0 a1 a2 a3) (fun r:Int × Int=>.tup []) (fun r:Int × Int=>[W 0 4 [bs a0,iv a1,iv r.1,iv r.2]]) 1:=B5 (N:=28) (L:=LL) Tu rfl (Nat.le_of_ble_eq_true rfl) (fun F hF=>by
 unfold Cu
 refine Aj (jS ⟨[V 0 (pt 0 4),V 8 (bv (a2 != 0))],[W 0 4 [bs a0,iv a1,iv a2,iv a3]],1⟩ ?_)
 refine jIf ?_ ?_
 ·exact Ae (Ar (BY (LK a0 a1 a2 a3 (a2,a3)) (.inr rfl) (wkR [(0,some 0)] (An hF (k:=1) rfl) (pc (hC 0) AD))))
 refine Ah (Ab (jS ⟨[V 0 (pt 0 4),V 2 (iv 10)],[W 0 4 [bs a0,iv a1,iv a2,iv a3]],1⟩ ?_))
 refine Aj ?_
 refine BA (fun x4=>⟨[V 0 (pt 0 4),V 2 (iv x4)],[W 0 4 [bs a0,iv a1,iv a2,iv a3]],1⟩) (fun x4=>.normal) ?_ ?_
 ·refine jS ⟨[V 0 (pt 0 4),V 2 (iv 10),V 18 (bv (decide (a1≥(List.length a0:Int))))],[W 0 4 [bs a0,iv a1,iv a2,iv a3]],1⟩ ?_
  refine jIf ?_ ?_
  ·refine jT ⟨[V 0 (pt 0 4),V 2 (iv 11)],[W 0 4 [bs a0,iv a1,iv a2,iv a3]],1⟩ ?_
   exact AU rfl (wkR [(0,some 0)] (An hF (k:=1) rfl) (pc (hC 0) AD))
  exact Ah (AU rfl (wkR [(0,some 0)] (An hF (k:=1) rfl) (pc (hC 0) AD)))
 intro x4
 refine Ab (jT ⟨[],[W 0 4 [bs a0,iv a1,iv x4,iv a1]],1⟩ ?_)
 exact BY (LK a0 a1 a2 a3 (x4,a1)) (.inl rfl) (wkR [(0,some 0)] (An hF (k:=1) rfl) (pc (hC 0) AD)))
abbrev kQ:List LO:=[Ag 2 4]
abbrev kR:List LO:=[lm 3 0 5,Bt 4 5 3 45 5 4,lm 5 4 4,lmg 6 0 5 5 false,A1 7 5 6 95 5 4 5 false,Ak 8 5 7 4,lm 9 8 4,lmg 10 0 5 9 false,A1 11 5 10 46 5 4 9 false,Ak 12 9 11 4,AB 2 12 4]
abbrev rM:LC:=.seq (.reg false kQ) (.seq (.reg false kR) .ret)
theorem rN:Bf E 77 13 [.tmp 2] rM:=Bp Go.Proofs.Tryz.f77
noncomputable def Pz (a0:Int):Option (Bool):=some (((a0 == 45) || (a0 == 95)) || (a0 == 46))
theorem kP (a0:Int):Ct E 77 [.s (.int .u8 a0)] (Pz a0) (fun r:Bool=>bv r):=CN rN (by
 unfold Pz
 refine jS ⟨[V 0 (.s (.int .u8 a0))],[],0⟩ ?_
 refine jS ⟨[V 2 (bv (((a0 == 45) || (a0 == 95)) || (a0 == 46)))],[],0⟩ ?_
 exact Ae (BO (bv (((a0 == 45) || (a0 == 95)) || (a0 == 46)))))
abbrev K8:List LO:=[Ag 4 4]
abbrev K9:List LO:=[lm 5 0 51,AH 6 5 0,AA 7 54 6 1 0,AF 8 3 7 3,lm 9 1 3,Bk 10 3 8 9 3 3,lm 11 0 51,AH 12 11 0,AA 13 54 12 0 0,AF 14 9 13 9,Ai 15 #[AE 14] #[9] 3,Al 16 3 10 15 3 4,lm 17 16 4,lmg 18 0 51 17 true,Ao 19 18 0 17 true,AM 20 54 19 0 0 17 true,Aa 21 9 20 9 17 true,lmg 22 0 51 17 true,Ao 23 22 0 17 true,AM 24 54 23 1 0 17 true,Aa 25 3 24 3 17 true,lmg 26 1 3 17 true,lg 27 (.binOp .add 3 (AE 25) (AE 26) 3) 3 17 true,BQ 28 9 21 27 5 17 true,A7 29 77 #[AE 28] #[5] 4 17 true,AS 30 17 29 4,AB 4 30 4]
abbrev Lf:LC:=.seq (.reg false K8) (.seq (.reg true K9) .ret)
theorem Lg:Bf E 47 31 [.tmp 4] Lf:=Bp Go.Proofs.Tryz.f47
noncomputable def B1 (a0:Str) (a1:Int) (a2:Int) (a3:Int) (a4:Int):Option (Bool):=Option.bind (if (decide ((w64 (a1 + a4)) < (List.length a0:Int)))=true then Option.bind (idx a0 (w64 (a1 + a4))) (fun x4=>Option.bind (Pz x4) (fun x5=>some x5)) else some false:Option (Bool)) (fun x3=>some x3)
theorem Du (a0:Str) (a1:Int) (a2:Int) (a3:Int) (a4:Int):Ct E 47 [.fptr [bs a0,iv a1,iv a2,iv a3] 0,iv a4] (B1 a0 a1 a2 a3 a4) (fun r:Bool=>bv r):=CN Lg (by
 unfold B1
 refine jS ⟨[V 0 (.fptr [bs a0,iv a1,iv a2,iv a3] 0),V 1 (iv a4)],[],0⟩ ?_
 refine jR (jG 0 13 ⟨[V 0 (.fptr [bs a0,iv a1,iv a2,iv a3] 0),V 1 (iv a4),V 17 (bv (decide ((w64 (a1 + a4)) < (List.length a0:Int))))],[],0⟩ ?_)
 refine A2 13 13 (fun x3=>⟨[V 30 (bv x3)],[],0⟩) ?_ ?_
 ·refine jSp 17 ?_ ?_
  ·refine jG 0 10 ⟨[(17,.lit true),V 21 (bs a0),V 27 (iv (w64 (a1 + a4)))],[],0⟩ ?_
   refine A5 (i:=10) (mo:=idx a0 (w64 (a1 + a4))) rfl rfl rfl rfl (fun _ hc=>Bq (kk:=.i64) (by kernel_rfl) (by kernel_rfl) (by kernel_rfl) hc) (fun _=>rfl) ?_
   intro x4 h4
   refine jK 11 (kP x4) ?_
   intro x5 h5
   refine jG 12 1 ⟨[V 30 (bv x5)],[],0⟩ ?_
   exact Ad rfl (AU rfl BV)
  refine jG 0 13 ⟨[V 30 (bv false)],[],0⟩ ?_
  exact Ad rfl (AU rfl BV)
 intro x3
 refine jG 26 1 ⟨[V 4 (bv x3)],[],0⟩ ?_
 exact jN (Ae (BO (bv x3))))
abbrev SW:List LO:=[A8 4 #[] 9,Ag 5 4]
abbrev SX:List LO:=[Ap 6 0 3]
abbrev SY:List LO:=[lm 9 0 51,AN 10 47 #[AE 9,.const (.int .i64 0)] #[51,3] 4]
abbrev SZ:List LO:=[Ap 6 1 3]
abbrev Sa:List LO:=[lm 12 0 51,AH 13 12 0,AA 14 54 13 0 0,AF 15 9 14 9,lm 16 0 51,AH 17 16 0,AA 18 54 17 1 0,AF 19 3 18 3,lm 20 6 3,Bk 21 3 19 20 3 3,lm 22 1 32,AN 23 48 #[AE 15,AE 21,AE 22] #[9,3,32] 58,lm 11 23 58,Aq 24 11 0 9,Aq 25 11 1 4,AB 7 24 9,AB 8 25 4]
abbrev Sb:List LO:=[lm 26 8 4]
abbrev Sc:List LO:=[lm 27 0 51,lm 28 0 51,AH 29 28 0,AA 30 54 29 1 0,AF 31 3 30 3,lm 32 6 3,Bk 33 3 31 32 3 3,lm 34 7 9,Ai 35 #[AE 34] #[9] 3,Bk 36 3 33 35 3 3,AH 37 27 0,AA 38 54 37 1 0,AO 3 38 36 0]
abbrev Sd:List LO:=[lm 39 7 9,lm 40 8 4,AB 4 39 9,AB 5 40 4]
abbrev LM:LC:=.seq (.reg false SW) (.seq (.reg false SX) (.seq (.seq (.reg false SY) (.cond (AE 10) (.reg false SZ) .skip)) (.seq (.reg true Sa) (.seq (.seq (.reg false Sb) (.cond (AE 26) (.reg false Sc) .skip)) (.seq (.reg false Sd) .ret)))))
theorem Tw:Bf E 27 41 [.tmp 4,.tmp 5] LM:=Bp Go.Proofs.Tryz.f27
abbrev Tv (a0:Str) (a1:Int) (a2:Int) (a3:Int) (a4:List Str) (r:Str × Bool × Int):CS:=⟨[V 4 (bs r.1),V 5 (bv r.2.1)],[W 0 4 [bs a0,iv r.2.2,iv a2,iv a3],(1,.rows 1 (List.map cS a4))],2⟩
noncomputable def Cv (a0:Str) (a1:Int) (a2:Int) (a3:Int) (a4:List Str):Option (Str × Bool × Int):=Option.bind (Option.bind (B1 a0 a1 a2 a3 0) (fun x10=>(if x10=true then some 1 else some 0)):Option (Int)) (fun x9=>Option.bind (Jn a0 (w64 (a1 + x9)) a4) (fun x11=>Option.bind ((if x11.2=true then some (w64 ((w64 (a1 + x9)) + (List.length x11.1:Int))) else some a1):Option (Int)) (fun x12=>some (x11.1,x11.2,x12))))
theorem Ge (a0:Str) (a1:Int) (a2:Int) (a3:Int) (a4:List Str):CtM E 27 [pt 0 4,.osl 1 0 (List.length a4) 1] [W 0 4 [bs a0,iv a1,iv a2,iv a3],(1,.rows 1 (List.map cS a4))] 2 (Cv a0 a1 a2 a3 a4) (fun r:Str × Bool × Int=>.tup [bs r.1,bv r.2.1]) (fun r:Str × Bool × Int=>[W 0 4 [bs a0,iv r.2.2,iv a2,iv a3],(1,.rows 1 (List.map cS a4))]) 2:=B5 (N:=41) (L:=LM) Tw rfl (Nat.le_of_ble_eq_true rfl) (fun F hF=>by
 unfold Cv
 refine jS ⟨[V 0 (pt 0 4),V 1 (.osl 1 0 (List.length a4) 1)],[W 0 4 [bs a0,iv a1,iv a2,iv a3],(1,.rows 1 (List.map cS a4))],2⟩ ?_
 refine jS ⟨[V 0 (pt 0 4),V 1 (.osl 1 0 (List.length a4) 1),V 6 (iv 0)],[W 0 4 [bs a0,iv a1,iv a2,iv a3],(1,.rows 1 (List.map cS a4))],2⟩ ?_
 refine Aj ?_
 refine BA (fun x9=>⟨[V 0 (pt 0 4),V 1 (.osl 1 0 (List.length a4) 1),V 6 (iv x9)],[W 0 4 [bs a0,iv a1,iv a2,iv a3],(1,.rows 1 (List.map cS a4))],2⟩) (fun x9=>.normal) ?_ ?_
 ·refine jR (jG 0 1 ⟨[V 0 (pt 0 4),V 1 (.osl 1 0 (List.length a4) 1),V 6 (iv 0),V 9 (pt 0 4)],[W 0 4 [bs a0,iv a1,iv a2,iv a3],(1,.rows 1 (List.map cS a4))],2⟩ ?_)
  refine By (i:=1) rfl rfl rfl rfl (vs:=[pt 0 4,iv 0]) (vs0:=[.fptr [bs a0,iv a1,iv a2,iv a3] 0,iv 0]) (b:=true) (by kernel_rfl) (by kernel_rfl) (AL (AP _) (AL (AP _) Ax)) (Du a0 a1 a2 a3 0) (fun _=>rfl) (fun _=>rfl) ?_
  intro x10 h10
  refine jN ?_
  refine jIf ?_ ?_
  ·refine jT ⟨[V 0 (pt 0 4),V 1 (.osl 1 0 (List.length a4) 1),V 6 (iv 1)],[W 0 4 [bs a0,iv a1,iv a2,iv a3],(1,.rows 1 (List.map cS a4))],2⟩ ?_
   exact AU rfl (wkR [(0,some 0),(1,some 1)] (An hF (k:=2) rfl) (pc (hC 0) (pc (hL 1 (AY BU _)) AD)))
  exact Ah (AU rfl (wkR [(0,some 0),(1,some 1)] (An hF (k:=2) rfl) (pc (hC 0) (pc (hL 1 (AY BU _)) AD))))
 intro x9
 refine Ab (jR (jG 0 11 ⟨[V 0 (pt 0 4),V 6 (iv x9),V 15 (bs a0),V 21 (iv (w64 (a1 + x9))),V 22 (.osl 1 0 (List.length a4) 1)],[W 0 4 [bs a0,iv a1,iv a2,iv a3],(1,.rows 1 (List.map cS a4))],2⟩ ?_))
 refine By (i:=11) rfl rfl rfl rfl (vs:=[bs a0,iv (w64 (a1 + x9)),.osl 1 0 (List.length a4) 1]) (by kernel_rfl) (AR rfl (AR rfl (AR (EI oD (by kernel_rfl)) (BL _)))) (AL (AP _) (AL (AP _) (AL (AP _) Ax))) (kB a0 (w64 (a1 + x9)) a4) (fun _=>rfl) (fun _=>rfl) ?_
 intro x11 h11
 refine jG 12 5 ⟨[V 0 (pt 0 4),V 6 (iv x9),V 7 (bs x11.1),V 8 (bv x11.2)],[W 0 4 [bs a0,iv a1,iv a2,iv a3],(1,.rows 1 (List.map cS a4))],2⟩ ?_
 refine jN (Aj ?_)
 refine BA (fun x12=>⟨[V 7 (bs x11.1),V 8 (bv x11.2)],[W 0 4 [bs a0,iv x12,iv a2,iv a3],(1,.rows 1 (List.map cS a4))],2⟩) (fun x12=>.normal) ?_ ?_
 ·refine jS ⟨[V 0 (pt 0 4),V 6 (iv x9),V 7 (bs x11.1),V 8 (bv x11.2),V 26 (bv x11.2)],[W 0 4 [bs a0,iv a1,iv a2,iv a3],(1,.rows 1 (List.map cS a4))],2⟩ ?_
  refine jIf ?_ ?_
  ·refine jT ⟨[V 7 (bs x11.1),V 8 (bv x11.2)],[W 0 4 [bs a0,iv (w64 ((w64 (a1 + x9)) + (List.length x11.1:Int))),iv a2,iv a3],(1,.rows 1 (List.map cS a4))],2⟩ ?_
   exact AU rfl (wkR [(0,some 0),(1,some 1)] (An hF (k:=2) rfl) (pc (hC 0) (pc (hL 1 (AY BU _)) AD)))
  exact Ah (AU rfl (wkR [(0,some 0),(1,some 1)] (An hF (k:=2) rfl) (pc (hC 0) (pc (hL 1 (AY BU _)) AD))))
 intro x12
 refine Ab (jS ⟨[V 4 (bs x11.1),V 5 (bv x11.2)],[W 0 4 [bs a0,iv x12,iv a2,iv a3],(1,.rows 1 (List.map cS a4))],2⟩ ?_)
 exact Ae (BY (Tv a0 a1 a2 a3 a4 (x11.1,x11.2,x12)) (.inr rfl) (wkR [(0,some 0),(1,some 1)] (An hF (k:=2) rfl) (pc (hC 0) (pc (hL 1 (AY BU _)) AD)))))
abbrev Z4:List LO:=[Hl 2 0 5]
abbrev Z5:List LO:=[lm 3 0 9]
abbrev Z6:List LO:=[BK 5 9 3 #[97,108,112,104,97] 9 4,AB 4 5 4]
abbrev Z7:List LO:=[BK 6 9 3 #[97] 9 4,AB 4 6 4]
abbrev Z8:List LO:=[Hl 2 97 5]
abbrev Z9:List LO:=[BK 8 9 3 #[98,101,116,97] 9 4,AB 7 8 4]
abbrev aA:List LO:=[BK 9 9 3 #[98] 9 4,AB 7 9 4]
abbrev aB:List LO:=[Hl 2 98 5]
abbrev aC:List LO:=[Hl 2 114 5]
abbrev fF:LC:=.seq (.reg false Z4) (.seq (.seq (.reg false Z5) (.block 0 (.seq (.seq (.reg false Z6) (.cond (AE 4) .skip (.reg false Z7))) (.cond (AE 4) (.seq (.reg false Z8) .ret) (.seq (.seq (.reg false Z9) (.cond (AE 7) .skip (.reg false aA))) (.cond (AE 7) (.seq (.reg false aB) .ret) .skip)))))) (.seq (.reg false aC) .ret))
theorem fG:Bf E 28 10 [.tmp 2] fF:=Bp Go.Proofs.Tryz.f28
noncomputable def JB (a0:Str):Option (Int):=Option.bind ((if (a0 == [97,108,112,104,97])=true then some true else some (a0 == [97])):Option (Bool)) (fun x1=>(if x1=true then some 97 else Option.bind ((if (a0 == [98,101,116,97])=true then some true else some (a0 == [98])):Option (Bool)) (fun x2=>(if x2=true then some 98 else some 114))))
theorem Z3 (a0:Str):Ct E 28 [bs a0] (JB a0) (fun r:Int=>.s (.int .u8 r)):=CN fG (by
 unfold JB
 refine jS ⟨[V 0 (bs a0)],[],0⟩ ?_
 refine Aj (jS ⟨[V 3 (bs a0)],[],0⟩ ?_)
 refine A4 (Aj ?_)
 refine BA (fun x1=>⟨[V 3 (bs a0),V 4 (bv x1)],[],0⟩) (fun x1=>.normal) ?_ ?_
 ·refine jS ⟨[V 3 (bs a0),V 4 (bv (a0 == [97,108,112,104,97]))],[],0⟩ ?_
  refine jIf ?_ ?_
  ·exact Ah (AU rfl BV)
  refine jT ⟨[V 3 (bs a0),V 4 (bv (a0 == [97]))],[],0⟩ ?_
  exact AU rfl BV
 intro x1
 refine Ab ?_
 refine jIf ?_ ?_
 ·refine jS ⟨[V 2 (.s (.int .u8 97))],[],0⟩ ?_
  exact Ae (BG (Ar (BO (.s (.int .u8 97)))))
 refine Aj ?_
 refine BA (fun x2=>⟨[V 7 (bv x2)],[],0⟩) (fun x2=>.normal) ?_ ?_
 ·refine jS ⟨[V 3 (bs a0),V 7 (bv (a0 == [98,101,116,97]))],[],0⟩ ?_
  refine jIf ?_ ?_
  ·exact Ah (AU rfl BV)
  refine jT ⟨[V 7 (bv (a0 == [98]))],[],0⟩ ?_
  exact AU rfl BV
 intro x2
 refine Ab ?_
 refine jIf ?_ ?_
 ·refine jS ⟨[V 2 (.s (.int .u8 98))],[],0⟩ ?_
  exact Ae (BG (Ar (BO (.s (.int .u8 98)))))
 refine Ah (BX (Ab (jS ⟨[V 2 (.s (.int .u8 114))],[],0⟩ ?_)))
 exact Ae (BO (.s (.int .u8 114))))
abbrev QA:List LO:=[A8 2 #[] 9]
abbrev QB:List LO:=[lm 3 0 51,AN 4 47 #[AE 3,.const (.int .i64 0)] #[51,3] 4,lm 5 4 4,lmg 6 0 51 5 true,A7 7 25 #[AE 6,.const (.int .i64 1),.const (.int .i64 1)] #[51,3,3] 4 5 true,AS 8 5 7 4]
abbrev QC:List LO:=[lm 9 0 51,AH 10 9 0,AA 11 54 10 1 0,AF 12 3 11 3,Af 13 3 12 1 3 3,AH 14 9 0,AA 15 54 14 1 0,AO 3 15 13 0]
abbrev QD:List LO:=[lm 16 0 51,AN 17 25 #[AE 16,.const (.int .i64 0),.const (.int .i64 1)] #[51,3,3] 4,BR 18 4 17 4]
abbrev QE:List LO:=[A8 2 #[48] 9]
abbrev QF:List LO:=[lm 19 0 51,AN 20 24 #[AE 19] #[51] 9,AB 2 20 9]
abbrev JM:LC:=.seq (.reg false QA) (.seq (.seq (.reg false QB) (.cond (AE 8) (.reg false QC) .skip)) (.seq (.seq (.reg false QD) (.cond (AE 18) (.seq (.reg false QE) .ret) .skip)) (.seq (.reg false QF) .ret)))
theorem RK:Bf E 29 21 [.tmp 2] JM:=Bp Go.Proofs.Tryz.f29
abbrev JL (a0:Str) (a1:Int) (a2:Int) (a3:Int) (r:Str × Int):CS:=⟨[V 2 (bs r.1)],[W 0 4 [bs a0,iv r.2,iv a2,iv a3]],1⟩
noncomputable def B0 (a0:Str) (a1:Int) (a2:Int) (a3:Int):Option (Str × Int):=Option.bind (Option.bind (B1 a0 a1 a2 a3 0) (fun x14=>Option.bind (if x14=true then Option.bind (BB a0 a1 a2 a3 1 1) (fun x17=>some x17) else some false:Option (Bool)) (fun x16=>(if x16=true then some (w64 (a1 + 1)) else some a1))):Option (Int)) (fun x13=>Option.bind (BB a0 x13 a2 a3 0 1) (fun x18=>(if (!x18)=true then some ([48],x13) else Option.bind (Bl a0 x13 a2 a3) (fun (x19,x20)=>some (x19,x20)))))
theorem FD (a0:Str) (a1:Int) (a2:Int) (a3:Int):CtM E 29 [pt 0 4] [W 0 4 [bs a0,iv a1,iv a2,iv a3]] 1 (B0 a0 a1 a2 a3) (fun r:Str × Int=>bs r.1) (fun r:Str × Int=>[W 0 4 [bs a0,iv r.2,iv a2,iv a3]]) 1:=B5 (N:=21) (L:=JM) RK rfl (Nat.le_of_ble_eq_true rfl) (fun F hF=>by
 unfold B0
 refine jS ⟨[V 0 (pt 0 4)],[W 0 4 [bs a0,iv a1,iv a2,iv a3]],1⟩ ?_
 refine Aj ?_
 refine BA (fun x13=>⟨[V 0 (pt 0 4)],[W 0 4 [bs a0,iv x13,iv a2,iv a3]],1⟩) (fun x13=>.normal) ?_ ?_
 ·refine jR (jG 0 1 ⟨[V 0 (pt 0 4),V 3 (pt 0 4)],[W 0 4 [bs a0,iv a1,iv a2,iv a3]],1⟩ ?_)
  refine By (i:=1) rfl rfl rfl rfl (vs:=[pt 0 4,iv 0]) (vs0:=[.fptr [bs a0,iv a1,iv a2,iv a3] 0,iv 0]) (b:=true) (by kernel_rfl) (by kernel_rfl) (AL (AP _) (AL (AP _) Ax)) (Du a0 a1 a2 a3 0) (fun _=>rfl) (fun _=>rfl) ?_
  intro x14 h14
  refine jG 2 1 ⟨[V 0 (pt 0 4),V 5 (bv x14)],[W 0 4 [bs a0,iv a1,iv a2,iv a3]],1⟩ ?_
  refine A2 3 3 (fun x16=>⟨[V 0 (pt 0 4),V 8 (bv x16)],[W 0 4 [bs a0,iv a1,iv a2,iv a3]],1⟩) ?_ ?_
  ·refine jSp 5 ?_ ?_
   ·refine jG 0 1 ⟨[V 0 (pt 0 4),(5,.lit true),V 6 (pt 0 4)],[W 0 4 [bs a0,iv a1,iv a2,iv a3]],1⟩ ?_
    refine By (i:=1) rfl rfl rfl rfl (vs:=[pt 0 4,iv 1,iv 1]) (vs0:=[.fptr [bs a0,iv a1,iv a2,iv a3] 0,iv 1,iv 1]) (b:=true) (by kernel_rfl) (by kernel_rfl) (AL (AP _) (AL (AP _) (AL (AP _) Ax))) (B6 a0 a1 a2 a3 1 1) (fun _=>rfl) (fun _=>rfl) ?_
    intro x17 h17
    refine jG 2 1 ⟨[V 0 (pt 0 4),V 8 (bv x17)],[W 0 4 [bs a0,iv a1,iv a2,iv a3]],1⟩ ?_
    exact Ad rfl (AU rfl (wkR [(0,some 0)] (An hF (k:=1) rfl) (pc (hC 0) AD)))
   refine jG 0 3 ⟨[V 0 (pt 0 4),V 8 (bv false)],[W 0 4 [bs a0,iv a1,iv a2,iv a3]],1⟩ ?_
   exact Ad rfl (AU rfl (wkR [(0,some 0)] (An hF (k:=1) rfl) (pc (hC 0) AD)))
  intro x16
  refine jN ?_
  refine jIf ?_ ?_
  ·refine jT ⟨[V 0 (pt 0 4)],[W 0 4 [bs a0,iv (w64 (a1 + 1)),iv a2,iv a3]],1⟩ ?_
   exact AU rfl (wkR [(0,some 0)] (An hF (k:=1) rfl) (pc (hC 0) AD))
  exact Ah (AU rfl (wkR [(0,some 0)] (An hF (k:=1) rfl) (pc (hC 0) AD)))
 intro x13
 refine Ab (Aj (jR (jG 0 1 ⟨[V 0 (pt 0 4),V 16 (pt 0 4)],[W 0 4 [bs a0,iv x13,iv a2,iv a3]],1⟩ ?_)))
 refine By (i:=1) rfl rfl rfl rfl (vs:=[pt 0 4,iv 0,iv 1]) (vs0:=[.fptr [bs a0,iv x13,iv a2,iv a3] 0,iv 0,iv 1]) (b:=true) (by kernel_rfl) (by kernel_rfl) (AL (AP _) (AL (AP _) (AL (AP _) Ax))) (B6 a0 x13 a2 a3 0 1) (fun _=>rfl) (fun _=>rfl) ?_
 intro x18 h18
 refine jG 2 1 ⟨[V 0 (pt 0 4),V 18 (bv (!x18))],[W 0 4 [bs a0,iv x13,iv a2,iv a3]],1⟩ ?_
 refine jN ?_
 refine jIf ?_ ?_
 ·refine jS ⟨[V 2 (bs [48])],[W 0 4 [bs a0,iv x13,iv a2,iv a3]],1⟩ ?_
  exact Ae (Ar (BY (JL a0 a1 a2 a3 ([48],x13)) (.inr rfl) (wkR [(0,some 0)] (An hF (k:=1) rfl) (pc (hC 0) AD))))
 refine Ah (Ab (jR (jG 0 1 ⟨[V 19 (pt 0 4)],[W 0 4 [bs a0,iv x13,iv a2,iv a3]],1⟩ ?_)))
 refine BC 1 [(0,some 0)] [(0,some 0)] (fun r:Str × Int=>[W 0 4 [bs a0,iv r.2,iv a2,iv a3]]) (fun r:Str × Int=>bs r.1) 1 (DM a0 x13 a2 a3) (pc (hC 0) AD) (fun r=>(pc (.inr (hC 0)) AD)) ?_
 rintro⟨x19,x20⟩ hm2
 refine jG 2 1 ⟨[V 2 (bs x19)],[W 0 4 [bs a0,iv x20,iv a2,iv a3]],1⟩ ?_
 exact jN (Ae (BY (JL a0 a1 a2 a3 (x19,x20)) (.inr rfl) (wkR [(0,some 0)] (An hF (k:=1) rfl) (pc (hC 0) AD)))))
abbrev RA:List LO:=[Bd 2 (.const (.slice none 0 0)) 32]
abbrev RB:List LO:=[Bd 3 (.const (.slice none 0 0)) 32]
abbrev RC:List LO:=[lm 6 0 51,AH 7 6 0,AA 8 54 7 1 0,AF 9 3 8 3,Af 10 3 9 1 3 3,AH 11 6 0,AA 12 54 11 1 0,AO 3 12 10 0]
abbrev RD:List LO:=[lm 13 0 51,AH 14 13 0,AA 15 54 14 0 0,AF 16 9 15 9,lm 17 0 51,AH 18 17 0,AA 19 54 18 1 0,AF 20 3 19 3,AN 21 23 #[AE 16,AE 20,.const (.int .i64 5)] #[9,3,3] 3,AB 4 21 3]
abbrev RE:List LO:=[lm 22 4 3,lm 23 0 51,AH 24 23 0,AA 25 54 24 1 0,AF 26 3 25 3,CV 27 3 22 26 3 4]
abbrev RF:List LO:=[lm 28 0 51,AN 29 26 #[AE 28] #[51] 0]
abbrev RG:List LO:=[Bd 2 (.const (.slice none 0 0)) 32]
abbrev RH:List LO:=[lm 30 0 51,AH 31 30 0,AA 32 54 31 0 0,AF 33 9 32 9,lm 34 0 51,AH 35 34 0,AA 36 54 35 1 0,AF 37 3 36 3,lm 38 4 3,lo 39 (.slice 9 (AE 33) (some (AE 37)) (some (AE 38)) none) 9,AB 5 39 9]
abbrev RJ:List LO:=[lm 40 5 9,AN 41 23 #[AE 40,.const (.int .i64 0),.const (.int .i64 1)] #[9,3,3] 3,lm 42 5 9,Ai 43 #[AE 42] #[9] 3,CV 44 3 41 43 3 4]
abbrev P4:List LO:=[lm 45 5 9,AN 46 46 #[AE 45] #[9] 9,AB 5 46 9]
abbrev P5:List LO:=[lm 47 3 32,lm 48 5 9,lo 49 (.buildSlice 32 1 #[(0,AE 48)]) 32,DP 50 #[AE 47,AE 49] #[32,32] 32,AB 3 50 32]
abbrev P6:List LO:=[lm 51 0 51,lm 52 4 3,AH 53 51 0,AA 54 54 53 1 0,AO 3 54 52 0]
abbrev P7:List LO:=[lm 55 0 51,AN 56 47 #[AE 55,.const (.int .i64 0)] #[51,3] 4,BR 57 4 56 4,lm 58 57 4,lmg 59 0 51 58 false,A7 60 25 #[AE 59,.const (.int .i64 1),.const (.int .i64 5)] #[51,3,3] 4 58 false,Ay 61 4 60 4 58 false,Ak 62 58 61 4]
abbrev P8:List LO:=[lm 63 3 32,AB 2 63 32]
abbrev P9:List LO:=[lm 64 0 51,AH 65 64 0,AA 66 54 65 1 0,AF 67 3 66 3,Af 68 3 67 1 3 3,AH 69 64 0,AA 70 54 69 1 0,AO 3 70 68 0]
abbrev Kf:LC:=.seq (.reg false RA) (.seq (.reg false RB) (.seq (.reg false RC) (.block 0 (.loop (.block 1 (.seq (.reg true RD) (.seq (.seq (.reg false RE) (.cond (AE 27) (.seq (.reg false RF) (.seq (.reg false RG) .ret)) .skip)) (.seq (.reg true RH) (.seq (.seq (.reg false RJ) (.cond (AE 44) (.reg false P4) .skip)) (.seq (.reg false P5) (.seq (.reg false P6) (.seq (.seq (.reg false P7) (.cond (AE 62) (.seq (.reg false P8) .ret) .skip)) (.reg false P9)))))))))))))
theorem SV:Bf E 30 71 [.tmp 2] Kf:=Bp Go.Proofs.Tryz.f30
noncomputable def CZ (a0:Str) (a2:Int) (a3:Int):(Int × List Str)→Option (Step (Int × List Str) (List Str × Int × Int × Int)):=fun (x46,x47)=>Option.bind (Fw a0 x46 5) (fun x65=>(if (x65 == x46)=true then Option.bind (Cu a0 x46 a2 a3) (fun (x66,x67)=>some (Step.done ([],x46,x66,x67))) else Option.bind (E0 a0 x46 x65) (fun x68=>Option.bind (Option.bind (Fw x68 0 1) (fun x72=>(if (x72 == (List.length x68:Int))=true then Option.bind (HU x68) (fun x73=>some x73) else some x68)):Option (Str)) (fun x71=>Option.bind (app 16 x47 [x71]) (fun x74=>Option.bind (B1 a0 x65 a2 a3 0) (fun x75=>Option.bind (if (!x75)=true then some true else Option.bind (BB a0 x65 a2 a3 1 5) (fun x78=>some (!x78)):Option (Bool)) (fun x77=>(if x77=true then some (Step.done (x74,x65,a2,a3)) else some (Step.next ((w64 (x65 + 1)),x74))))))))))
abbrev SU (a0:Str) (a1:Int) (a2:Int) (a3:Int) (r:List Str × Int × Int × Int):CS:=⟨[V 2 (.osl 1 0 (List.length r.1) 1)],[W 0 4 [bs a0,iv r.2.1,iv r.2.2.1,iv r.2.2.2],(1,.rows 1 (List.map cS r.1))],2⟩
noncomputable def EC (a0:Str) (a1:Int) (a2:Int) (a3:Int):Option (List Str × Int × Int × Int):=Option.bind (CD (CZ a0 a2 a3) ((w64 (a1 + 1)),[])) (fun (x61,x62,x63,x64)=>some (x61,x62,x63,x64))
theorem Q9 (a0:Str) (a1:Int) (a2:Int) (a3:Int):CtM E 30 [pt 0 4] [W 0 4 [bs a0,iv a1,iv a2,iv a3]] 1 (EC a0 a1 a2 a3) (fun r:List Str × Int × Int × Int=>.osl 1 0 (List.length r.1) 1) (fun r:List Str × Int × Int × Int=>[W 0 4 [bs a0,iv r.2.1,iv r.2.2.1,iv r.2.2.2],(1,.rows 1 (List.map cS r.1))]) 2:=B5 (N:=71) (L:=Kf) SV rfl (Nat.le_of_ble_eq_true rfl) (fun F hF=>by
 unfold EC
 refine jS ⟨[V 0 (pt 0 4)],[W 0 4 [bs a0,iv a1,iv a2,iv a3]],1⟩ ?_
 refine jS ⟨[V 0 (pt 0 4),V 3 (AQ)],[W 0 4 [bs a0,iv a1,iv a2,iv a3]],1⟩ ?_
 refine jS ⟨[V 0 (pt 0 4),V 3 (AQ)],[W 0 4 [bs a0,iv (w64 (a1 + 1)),iv a2,iv a3]],1⟩ ?_
 refine A4 ?_
 refine BA (fun (x61,x62,x63,x64)=>⟨[V 2 (.osl 1 0 (List.length x61) 1)],[W 0 4 [bs a0,iv x62,iv x63,iv x64],(1,.rows 1 (List.map cS x61))],2⟩) (fun (x61,x62,x63,x64)=>.ret) (C5 (fun (x46,x47)=>⟨[V 0 (pt 0 4),V 3 (.osl 1 0 (List.length x47) 1)],[W 0 4 [bs a0,iv x46,iv a2,iv a3],(1,.rows 1 (List.map cS x47))],2⟩) (wkR [(0,some 0),(1,none)] (An hF (k:=1) rfl) (pc (hC 0) (pc hZ AD))) ?_) ?_
 ·rintro⟨x46,x47⟩
  unfold CZ
  refine A4 (jR (jG 0 8 ⟨[V 0 (pt 0 4),V 3 (.osl 1 0 (List.length x47) 1),V 16 (bs a0),V 20 (iv x46)],[W 0 4 [bs a0,iv x46,iv a2,iv a3],(1,.rows 1 (List.map cS x47))],2⟩ ?_))
  refine jK 8 (LZ a0 x46 5) ?_
  intro x65 h65
  refine jG 9 1 ⟨[V 0 (pt 0 4),V 3 (.osl 1 0 (List.length x47) 1),V 4 (iv x65)],[W 0 4 [bs a0,iv x46,iv a2,iv a3],(1,.rows 1 (List.map cS x47))],2⟩ ?_
  refine jN (Aj (jS ⟨[V 0 (pt 0 4),V 3 (.osl 1 0 (List.length x47) 1),V 4 (iv x65),V 27 (bv (x65 == x46))],[W 0 4 [bs a0,iv x46,iv a2,iv a3],(1,.rows 1 (List.map cS x47))],2⟩ ?_))
  refine jIf ?_ ?_
  ·refine jR (jG 0 1 ⟨[V 28 (pt 0 4)],[W 0 4 [bs a0,iv x46,iv a2,iv a3]],2⟩ ?_)
   refine BC 1 [(0,some 0)] [(0,some 0)] (fun r:Int × Int=>[W 0 4 [bs a0,iv x46,iv r.1,iv r.2]]) (fun r:Int × Int=>.tup []) 2 (Gd a0 x46 a2 a3) (pc (hC 0) AD) (fun r=>(pc (.inr (hC 0)) AD)) ?_
   rintro⟨x66,x67⟩ hm5
   refine jN (jS ⟨[V 2 (AQ)],[W 0 4 [bs a0,iv x46,iv x66,iv x67]],2⟩ ?_)
   exact Ae (Ar (BG (Bm rfl nofun (wkR [(0,some 0),(1,none)] (An hF (k:=1) rfl) (pc (hC 0) (pc hZ AD))))))
  refine Ah (Ab (jR (jG 0 9 ⟨[V 0 (pt 0 4),V 3 (.osl 1 0 (List.length x47) 1),V 4 (iv x65),V 33 (bs a0),V 37 (iv x46),V 38 (iv x65)],[W 0 4 [bs a0,iv x46,iv a2,iv a3],(1,.rows 1 (List.map cS x47))],2⟩ ?_)))
  refine A5 (i:=9) (mo:=E0 a0 x46 x65) rfl rfl rfl rfl (fun _ hc=>FP (by kernel_rfl) (by kernel_rfl) (by kernel_rfl) (by kernel_rfl) hc) (fun _=>rfl) ?_
  intro x68 h68
  refine jG 10 1 ⟨[V 0 (pt 0 4),V 3 (.osl 1 0 (List.length x47) 1),V 4 (iv x65),V 5 (bs x68)],[W 0 4 [bs a0,iv x46,iv a2,iv a3],(1,.rows 1 (List.map cS x47))],2⟩ ?_
  refine jN (Aj ?_)
  refine BA (fun x71=>⟨[V 0 (pt 0 4),V 3 (.osl 1 0 (List.length x47) 1),V 4 (iv x65),V 5 (bs x71)],[W 0 4 [bs a0,iv x46,iv a2,iv a3],(1,.rows 1 (List.map cS x47))],2⟩) (fun x71=>.normal) ?_ ?_
  ·refine jR (jG 0 1 ⟨[V 0 (pt 0 4),V 3 (.osl 1 0 (List.length x47) 1),V 4 (iv x65),V 5 (bs x68),V 40 (bs x68)],[W 0 4 [bs a0,iv x46,iv a2,iv a3],(1,.rows 1 (List.map cS x47))],2⟩ ?_)
   refine jK 1 (LZ x68 0 1) ?_
   intro x72 h72
   refine jG 2 3 ⟨[V 0 (pt 0 4),V 3 (.osl 1 0 (List.length x47) 1),V 4 (iv x65),V 5 (bs x68),V 44 (bv (x72 == (List.length x68:Int)))],[W 0 4 [bs a0,iv x46,iv a2,iv a3],(1,.rows 1 (List.map cS x47))],2⟩ ?_
   refine jN ?_
   refine jIf ?_ ?_
   ·refine CY (jG 0 1 ⟨[V 0 (pt 0 4),V 3 (.osl 1 0 (List.length x47) 1),V 4 (iv x65),V 45 (bs x68)],[W 0 4 [bs a0,iv x46,iv a2,iv a3],(1,.rows 1 (List.map cS x47))],2⟩ ?_)
    refine jK 1 (UE x68) ?_
    intro x73 h73
    refine jG 2 1 ⟨[V 0 (pt 0 4),V 3 (.osl 1 0 (List.length x47) 1),V 4 (iv x65),V 5 (bs x73)],[W 0 4 [bs a0,iv x46,iv a2,iv a3],(1,.rows 1 (List.map cS x47))],2⟩ ?_
    exact Ad rfl (AU rfl (wkR [(0,some 0),(1,some 1)] (An hF (k:=1) rfl) (pc (hC 0) (pc (hL 1 (AY BU _)) AD))))
   exact Ah (AU rfl (wkR [(0,some 0),(1,some 1)] (An hF (k:=1) rfl) (pc (hC 0) (pc (hL 1 (AY BU _)) AD))))
  intro x71
  refine Ab (jR (jG 0 3 ⟨[V 0 (pt 0 4),V 4 (iv x65),V 47 (.osl 1 0 (List.length x47) 1),V 49 (.osl 2 0 (List.length [x71]) 1)],[W 0 4 [bs a0,iv x46,iv a2,iv a3],(1,.rows 1 (List.map cS x47)),(2,.rows 1 (List.map cS [x71]))],3⟩ ?_))
  refine A5 (i:=3) (mo:=app 16 x47 [x71]) rfl rfl rfl rfl (fun _ hc=>LQ (u:=.osl 1 0 (List.length x47) 1) (w:=.osl 2 0 (List.length [x71]) 1) (e:=9) (td:=.slice 9) (by kernel_rfl) (by kernel_rfl) (by kernel_rfl) (by kernel_rfl) (.inl ⟨_,rfl⟩) (E5 (c:=cS) (sz:=1) (b:=16) (id:=1) (by kernel_rfl) (by kernel_rfl) (Oe (by kernel_rfl)) (List.cons_ne_nil _ _) hc)) (fun _=>rfl) ?_
  intro x74 h74
  refine jG 4 1 ⟨[V 0 (pt 0 4),V 3 (.osl 3 0 (List.length x74) 1),V 4 (iv x65)],[W 0 4 [bs a0,iv x46,iv a2,iv a3],(3,.rows 1 (List.map cS x74))],4⟩ ?_
  refine jN (jS ⟨[V 0 (pt 0 4),V 3 (.osl 3 0 (List.length x74) 1)],[W 0 4 [bs a0,iv x65,iv a2,iv a3],(3,.rows 1 (List.map cS x74))],4⟩ ?_)
  refine Aj (jR (jG 0 1 ⟨[V 0 (pt 0 4),V 3 (.osl 3 0 (List.length x74) 1),V 55 (pt 0 4)],[W 0 4 [bs a0,iv x65,iv a2,iv a3],(3,.rows 1 (List.map cS x74))],4⟩ ?_))
  refine By (i:=1) rfl rfl rfl rfl (vs:=[pt 0 4,iv 0]) (vs0:=[.fptr [bs a0,iv x65,iv a2,iv a3] 0,iv 0]) (b:=true) (by kernel_rfl) (by kernel_rfl) (AL (AP _) (AL (AP _) Ax)) (Du a0 x65 a2 a3 0) (fun _=>rfl) (fun _=>rfl) ?_
  intro x75 h75
  refine jG 2 2 ⟨[V 0 (pt 0 4),V 3 (.osl 3 0 (List.length x74) 1),V 58 (bv (!x75))],[W 0 4 [bs a0,iv x65,iv a2,iv a3],(3,.rows 1 (List.map cS x74))],4⟩ ?_
  refine A2 4 4 (fun x77=>⟨[V 0 (pt 0 4),V 3 (.osl 1 0 (List.length x74) 1),V 62 (bv x77)],[W 0 4 [bs a0,iv x65,iv a2,iv a3],(1,.rows 1 (List.map cS x74))],2⟩) ?_ ?_
  ·refine jSp 58 ?_ ?_
   ·refine jG 0 4 ⟨[V 0 (pt 0 4),V 3 (.osl 3 0 (List.length x74) 1),V 62 (bv true)],[W 0 4 [bs a0,iv x65,iv a2,iv a3],(3,.rows 1 (List.map cS x74))],4⟩ ?_
    exact Ad rfl (AU rfl (wkR [(0,some 0),(1,some 3)] (An hF (k:=1) rfl) (pc (hC 0) (pc (hL 3 (AY BU _)) AD))))
   refine jG 0 1 ⟨[V 0 (pt 0 4),V 3 (.osl 3 0 (List.length x74) 1),(58,.lit false),V 59 (pt 0 4)],[W 0 4 [bs a0,iv x65,iv a2,iv a3],(3,.rows 1 (List.map cS x74))],4⟩ ?_
   refine By (i:=1) rfl rfl rfl rfl (vs:=[pt 0 4,iv 1,iv 5]) (vs0:=[.fptr [bs a0,iv x65,iv a2,iv a3] 0,iv 1,iv 5]) (b:=true) (by kernel_rfl) (by kernel_rfl) (AL (AP _) (AL (AP _) (AL (AP _) Ax))) (B6 a0 x65 a2 a3 1 5) (fun _=>rfl) (fun _=>rfl) ?_
   intro x78 h78
   refine jG 2 2 ⟨[V 0 (pt 0 4),V 3 (.osl 3 0 (List.length x74) 1),V 62 (bv (!x78))],[W 0 4 [bs a0,iv x65,iv a2,iv a3],(3,.rows 1 (List.map cS x74))],4⟩ ?_
   exact Ad rfl (AU rfl (wkR [(0,some 0),(1,some 3)] (An hF (k:=1) rfl) (pc (hC 0) (pc (hL 3 (AY BU _)) AD))))
  intro x77
  refine jN ?_
  refine jIf ?_ ?_
  ·refine jS ⟨[V 2 (.osl 1 0 (List.length x74) 1)],[W 0 4 [bs a0,iv x65,iv a2,iv a3],(1,.rows 1 (List.map cS x74))],2⟩ ?_
   exact Ae (Ar (BG (Bm rfl nofun (wkR [(0,some 0),(1,some 1)] (An hF (k:=1) rfl) (pc (hC 0) (pc (hL 1 (AY BU _)) AD))))))
  refine Ah (Ab (jT ⟨[V 0 (pt 0 4),V 3 (.osl 1 0 (List.length x74) 1)],[W 0 4 [bs a0,iv (w64 (x65 + 1)),iv a2,iv a3],(1,.rows 1 (List.map cS x74))],2⟩ ?_))
  exact BX (C7 (wkR [(0,some 0),(1,some 1)] (An hF (k:=1) rfl) (pc (hC 0) (pc (hL 1 (AY BU _)) AD))))
 rintro⟨x61,x62,x63,x64⟩
 exact BG (BY (SU a0 a1 a2 a3 (x61,x62,x63,x64)) (.inr rfl) (wkR [(0,some 0),(1,some 1)] (An hF (k:=1) rfl) (pc (hC 0) (pc (hL 1 (AY BU _)) AD)))))
end Go.Vm

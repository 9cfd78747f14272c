/- The law PyspecBoth, a part of its proof: what the functions that it reaches compute. -/
import Derived.Test.YtdenfejaedgehaaGreatDoorG0PyspecBoth
set_option linter.unusedVariables false
set_option linter.unusedSimpArgs false
set_option maxRecDepth 100000
set_option maxHeartbeats 0
set_option linter.unusedVariables false
set_option linter.unusedSimpArgs false
namespace Go.Vm
open Go
abbrev GM:List LO:=[As 4 0 3]
abbrev GN:List LO:=[lm 6 0 32,Ak 7 #[AE 6] #[32] 3,B7 8 0 3]
abbrev GO:List LO:=[An 9 3 8 7 3 0]
abbrev GP:List LO:=[lm 10 8 3,AC 5 10 3]
abbrev GQ:List LO:=[lm 11 1 31,lm 12 0 32,lm 13 5 3,A7 14 32 12 13 0,AF 15 9 14 9,lo 16 (.call ⟨.value (AE 11),#[AE 15],#[9]⟩) 4]
abbrev GR:List LO:=[lm 17 5 3,AC 4 17 3]
abbrev GS:List LO:=[Ag 18 3 8 1 3 3,lm 8 18 3]
abbrev GT:List LO:=[Bd 4 (.const (.int .i64 (-1))) 3]
abbrev Gm:LC:=.seq (.reg false GM) (.seq (.seq (.reg false GN) (.block 0 (.loop (.seq (.reg false GO) (.seq (.cond (AE 9) .skip (.exit 0)) (.seq (.block 1 (.seq (.reg false GP) (.seq (.reg false GQ) (.cond (AE 16) (.seq (.reg false GR) .ret) .skip)))) (.reg false GS))))))) (.seq (.reg false GT) .ret))
theorem Gn:Bf E 130 19 [.tmp 4] Gm:=Bl Go.Proofs.Tryz.f130
noncomputable def Bj (a0:(List Str)):Int→Option (Step (Int) ((Int) ⊕ (Unit))):=fun x3=>(if (decide (x3 < (List.length a0:Int)))=true then Option.bind (ixl a0 x3) (fun x8=>Option.bind (TB x8) (fun x9=>(if x9=true then some (Step.done (Sum.inl x3)) else some (Step.next (w64 (x3 + 1)))))) else some (Step.done (Sum.inr ())))
noncomputable def CC (a0:(List Str)):Option (Int):=Option.bind (B9 (Bj a0) 0) (fun y=>match y with | Sum.inl x7=>some x7 | Sum.inr _=>some (-1))
theorem GL (a0:(List Str)):Ct E 130 [.fsl 1 (List.map cS a0),.fn 113 []] (CC a0) (fun r:Int=>iv r):=CJ Gn (by
 unfold CC
 refine jS ⟨[V 0 (.fsl 1 (List.map cS a0)),V 1 (.fn 113 [])],[],0⟩ ?_
 refine Aj (jR (jG 0 3 ⟨[V 0 (.fsl 1 (List.map cS a0)),V 1 (.fn 113 []),V 7 (iv (List.length (List.map cS a0):Int)),V 8 (iv 0)],[],0⟩ ?_))
 simp only[List.length_map]
 refine jN (A4 ?_)
 refine BB (fun y=>match y with | Sum.inl x7=>⟨[V 4 (iv x7)],[],0⟩ | Sum.inr _=>⟨[],[],0⟩) (fun y=>match y with | Sum.inl x7=>.ret | Sum.inr _=>(.exit 0)) (Cq (fun x3=>⟨[V 0 (.fsl 1 (List.map cS a0)),V 1 (.fn 113 []),V 7 (iv (List.length a0:Int)),V 8 (iv x3)],[],0⟩) BN ?_) ?_
 ·intro x3
  unfold Bj
  refine jS ⟨[V 0 (.fsl 1 (List.map cS a0)),V 1 (.fn 113 []),V 7 (iv (List.length a0:Int)),V 8 (iv x3),V 9 (bv (decide (x3 < (List.length a0:Int))))],[],0⟩ ?_
  refine Aj ?_
  refine jIf ?_ ?_
  ·refine Ai (Ab (Aj (A4 (jS ⟨[V 0 (.fsl 1 (List.map cS a0)),V 1 (.fn 113 []),V 5 (iv x3),V 7 (iv (List.length a0:Int)),V 8 (iv x3)],[],0⟩ ?_))))
   refine jR (jG 0 3 ⟨[V 0 (.fsl 1 (List.map cS a0)),V 1 (.fn 113 []),V 5 (iv x3),V 7 (iv (List.length a0:Int)),V 8 (iv x3),V 11 (.fn 113 []),V 12 (.fsl 1 (List.map cS a0)),V 13 (iv x3)],[],0⟩ ?_)
   refine A1 (i:=3) (mo:=ixl a0 x3) rfl rfl rfl rfl (fun _ hc=>ES (c:=cS) (sz:=1) (e:=9) (kk:=.i64) (by kernel_rfl) (by kernel_rfl) (by kernel_rfl) (by kernel_rfl) hc) (fun _=>rfl) ?_
   intro x8 h8
   refine jG 4 1 ⟨[V 0 (.fsl 1 (List.map cS a0)),V 1 (.fn 113 []),V 5 (iv x3),V 7 (iv (List.length a0:Int)),V 8 (iv x3),V 11 (.fn 113 []),V 15 (bs x8)],[],0⟩ ?_
   refine C9 (i:=5) rfl rfl rfl rfl (g:=113) (caps:=[]) (avs:=[bs x8]) (vs:=[bs x8]) (by kernel_rfl) (by kernel_rfl) rfl (AS rfl (BK _)) (AN (AY _) A2) (pE x8) (fun _=>rfl) (fun _=>rfl) ?_
   intro x9 h9
   refine jN ?_
   refine jIf ?_ ?_
   ·refine jS ⟨[V 4 (iv x3)],[],0⟩ ?_
    exact Af (BG (Au (Bc rfl nofun BN)))
   refine Ai (BU (Ab (jT ⟨[V 0 (.fsl 1 (List.map cS a0)),V 1 (.fn 113 []),V 7 (iv (List.length a0:Int)),V 8 (iv (w64 (x3 + 1)))],[],0⟩ ?_)))
   exact Cs BN
  exact Cd (Ce (Bc rfl nofun BN))
 rintro (x7 | _)
 ·exact BG (Au (BL (iv x7)))
 refine Cr (Ab (jS ⟨[V 4 (iv (-1))],[],0⟩ ?_))
 exact Af (BL (iv (-1))))
abbrev FO:List LO:=[Ae 4 4]
abbrev FP:List LO:=[lm 5 0 32,lm 6 1 31,AO 7 130 #[AE 5,AE 6] #[32,31] 3,DK 8 3 7 0 3 4,AC 4 8 4]
abbrev Fe:LC:=.seq (.reg false FO) (.seq (.reg false FP) .ret)
theorem Ff:Bf E 112 9 [.tmp 4] Fe:=Bl Go.Proofs.Tryz.f112
noncomputable def Bh (a0:(List Str)):Option (Bool):=Option.bind (CC a0) (fun x1=>some (decide (x1≥0)))
theorem FN (a0:(List Str)):Ct E 112 [.fsl 1 (List.map cS a0),.fn 113 []] (Bh a0) (fun r:Bool=>bv r):=CJ Ff (by
 unfold Bh
 refine jS ⟨[V 0 (.fsl 1 (List.map cS a0)),V 1 (.fn 113 [])],[],0⟩ ?_
 refine jR (jG 0 2 ⟨[V 5 (.fsl 1 (List.map cS a0)),V 6 (.fn 113 [])],[],0⟩ ?_)
 refine jK 2 (GL a0) ?_
 intro x1 h1
 refine jG 3 2 ⟨[V 4 (bv (decide (x1≥0)))],[],0⟩ ?_
 exact jN (Af (BL (bv (decide (x1≥0))))))
abbrev vP:List LO:=[Ae 2 4]
abbrev vQ:List LO:=[lm 3 0 9,BJ 4 9 3 #[] 9 4,lm 5 4 4,lmg 6 0 9 5 false,AI 7 69 #[AE 6,.const (.int .i64 0),.const (.int .i64 5)] #[9,3,3] 3 5 false,lmg 8 0 9 5 false,BE 9 #[AE 8] #[9] 3 5 false,lg 10 (.binOp .neq 3 (AE 7) (AE 9) 3) 4 5 false,Al 11 5 10 4,lm 12 11 4,lmg 13 0 9 12 false,AI 14 49 #[AE 13] #[9] 9 12 false,lmg 15 0 9 12 false,lg 16 (.binOp .neq 9 (AE 14) (AE 15) 9) 4 12 false,Al 17 12 16 4]
abbrev vR:List LO:=[Ae 2 4]
abbrev vS:List LO:=[lm 18 0 9,AO 19 69 #[AE 18,.const (.int .i64 0),.const (.int .i64 1)] #[9,3,3] 3,lm 20 0 9,Ak 21 #[AE 20] #[9] 3,Cl 22 3 19 21 3 4,lm 23 22 4,lmg 24 0 9 23 false,AI 25 86 #[AE 24] #[9] 9 23 false,lmg 26 0 9 23 false,BT 27 9 25 26 9 4 23 false,Al 28 23 27 4,AC 2 28 4]
abbrev AAD:LC:=.seq (.reg false vP) (.seq (.seq (.reg false vQ) (.cond (AE 17) (.seq (.reg false vR) .ret) .skip)) (.seq (.reg false vS) .ret))
theorem AAE:Bf E 115 29 [.tmp 2] AAD:=Bl Go.Proofs.Tryz.f115
noncomputable def Ro (a0:Str):Option (Bool):=Option.bind (if (a0 == [])=true then some true else Option.bind (Du a0 0 5) (fun x3=>some (x3 != (List.length a0:Int))):Option (Bool)) (fun x2=>Option.bind (if x2=true then some true else Option.bind (Gj a0) (fun x6=>some (!(x6 == a0))):Option (Bool)) (fun x5=>(if x5=true then some false else Option.bind (Du a0 0 1) (fun x7=>Option.bind (if (x7 != (List.length a0:Int))=true then some true else Option.bind (EQ a0) (fun x10=>some (x10 == a0)):Option (Bool)) (fun x9=>some x9)))))
theorem vO (a0:Str):Ct E 115 [bs a0] (Ro a0) (fun r:Bool=>bv r):=CJ AAE (by
 unfold Ro
 refine jS ⟨[V 0 (bs a0)],[],0⟩ ?_
 refine Aj (jR (jG 0 3 ⟨[V 0 (bs a0),V 5 (bv (a0 == []))],[],0⟩ ?_))
 refine A5 3 6 (fun x2=>⟨[V 0 (bs a0),V 11 (bv x2)],[],0⟩) ?_ ?_
 ·refine jSp 5 ?_ ?_
  ·refine jG 0 6 ⟨[V 0 (bs a0),V 11 (bv true)],[],0⟩ ?_
   exact Ad rfl (AT rfl BN)
  refine jG 0 1 ⟨[V 0 (bs a0),(5,.lit false),V 6 (bs a0)],[],0⟩ ?_
  refine jK 1 (E2 a0 0 5) ?_
  intro x3 h3
  refine jG 2 4 ⟨[V 0 (bs a0),V 11 (bv (x3 != (List.length a0:Int)))],[],0⟩ ?_
  exact Ad rfl (AT rfl BN)
 intro x2
 refine jG 9 1 ⟨[V 0 (bs a0),V 12 (bv x2)],[],0⟩ ?_
 refine A5 10 5 (fun x5=>⟨[V 0 (bs a0),V 17 (bv x5)],[],0⟩) ?_ ?_
 ·refine jSp 12 ?_ ?_
  ·refine jG 0 5 ⟨[V 0 (bs a0),V 17 (bv true)],[],0⟩ ?_
   exact Ad rfl (AT rfl BN)
  refine jG 0 1 ⟨[V 0 (bs a0),(12,.lit false),V 13 (bs a0)],[],0⟩ ?_
  refine jK 1 (J4 a0) ?_
  intro x6 h6
  refine jG 2 3 ⟨[V 0 (bs a0),V 17 (bv (!(x6 == a0)))],[],0⟩ ?_
  exact Ad rfl (AT rfl BN)
 intro x5
 refine jN ?_
 refine jIf ?_ ?_
 ·refine jS ⟨[V 2 (bv false)],[],0⟩ ?_
  exact Af (Au (BL (bv false)))
 refine Ai (Ab (jR (jG 0 1 ⟨[V 0 (bs a0),V 18 (bs a0)],[],0⟩ ?_)))
 refine jK 1 (E2 a0 0 1) ?_
 intro x7 h7
 refine jG 2 4 ⟨[V 0 (bs a0),V 23 (bv (x7 != (List.length a0:Int)))],[],0⟩ ?_
 refine A5 6 5 (fun x9=>⟨[V 28 (bv x9)],[],0⟩) ?_ ?_
 ·refine jSp 23 ?_ ?_
  ·refine jG 0 5 ⟨[V 28 (bv true)],[],0⟩ ?_
   exact Ad rfl (AT rfl BN)
  refine jG 0 1 ⟨[V 0 (bs a0),(23,.lit false),V 24 (bs a0)],[],0⟩ ?_
  refine jK 1 (Gv a0) ?_
  intro x10 h10
  refine jG 2 3 ⟨[V 28 (bv (x10 == a0))],[],0⟩ ?_
  exact Ad rfl (AT rfl BN)
 intro x9
 refine jG 11 1 ⟨[V 2 (bv x9)],[],0⟩ ?_
 exact jN (Af (BL (bv x9))))
abbrev pJ:List LO:=[Ae 2 4]
abbrev pK:List LO:=[lm 3 0 9,AO 4 115 #[AE 3] #[9] 4,BQ 5 4 4 4,AC 2 5 4]
abbrev vC:LC:=.seq (.reg false pJ) (.seq (.reg false pK) .ret)
theorem vD:Bf E 114 6 [.tmp 2] vC:=Bl Go.Proofs.Tryz.f114
noncomputable def TC (a0:Str):Option (Bool):=Option.bind (Ro a0) (fun x1=>some (!x1))
theorem pH (a0:Str):Ct E 114 [bs a0] (TC a0) (fun r:Bool=>bv r):=CJ vD (by
 unfold TC
 refine jS ⟨[V 0 (bs a0)],[],0⟩ ?_
 refine jR (jG 0 1 ⟨[V 3 (bs a0)],[],0⟩ ?_)
 refine jK 1 (vO a0) ?_
 intro x1 h1
 refine jG 2 2 ⟨[V 2 (bv (!x1))],[],0⟩ ?_
 exact jN (Af (BL (bv (!x1)))))
abbrev GC:List LO:=[As 4 0 3]
abbrev GD:List LO:=[lm 6 0 32,Ak 7 #[AE 6] #[32] 3,B7 8 0 3]
abbrev GE:List LO:=[An 9 3 8 7 3 0]
abbrev GF:List LO:=[lm 10 8 3,AC 5 10 3]
abbrev GG:List LO:=[lm 11 1 31,lm 12 0 32,lm 13 5 3,A7 14 32 12 13 0,AF 15 9 14 9,lo 16 (.call ⟨.value (AE 11),#[AE 15],#[9]⟩) 4]
abbrev GH:List LO:=[lm 17 5 3,AC 4 17 3]
abbrev GJ:List LO:=[Ag 18 3 8 1 3 3,lm 8 18 3]
abbrev GK:List LO:=[Bd 4 (.const (.int .i64 (-1))) 3]
abbrev Gk:LC:=.seq (.reg false GC) (.seq (.seq (.reg false GD) (.block 0 (.loop (.seq (.reg false GE) (.seq (.cond (AE 9) .skip (.exit 0)) (.seq (.block 1 (.seq (.reg false GF) (.seq (.reg false GG) (.cond (AE 16) (.seq (.reg false GH) .ret) .skip)))) (.reg false GJ))))))) (.seq (.reg false GK) .ret))
theorem Gl:Bf E 130 19 [.tmp 4] Gk:=Bl Go.Proofs.Tryz.f130
noncomputable def Bi (a0:(List Str)):Int→Option (Step (Int) ((Int) ⊕ (Unit))):=fun x3=>(if (decide (x3 < (List.length a0:Int)))=true then Option.bind (ixl a0 x3) (fun x8=>Option.bind (TC x8) (fun x9=>(if x9=true then some (Step.done (Sum.inl x3)) else some (Step.next (w64 (x3 + 1)))))) else some (Step.done (Sum.inr ())))
noncomputable def CB (a0:(List Str)):Option (Int):=Option.bind (B9 (Bi a0) 0) (fun y=>match y with | Sum.inl x7=>some x7 | Sum.inr _=>some (-1))
theorem GB (a0:(List Str)):Ct E 130 [.fsl 1 (List.map cS a0),.fn 114 []] (CB a0) (fun r:Int=>iv r):=CJ Gl (by
 unfold CB
 refine jS ⟨[V 0 (.fsl 1 (List.map cS a0)),V 1 (.fn 114 [])],[],0⟩ ?_
 refine Aj (jR (jG 0 3 ⟨[V 0 (.fsl 1 (List.map cS a0)),V 1 (.fn 114 []),V 7 (iv (List.length (List.map cS a0):Int)),V 8 (iv 0)],[],0⟩ ?_))
 simp only[List.length_map]
 refine jN (A4 ?_)
 refine BB (fun y=>match y with | Sum.inl x7=>⟨[V 4 (iv x7)],[],0⟩ | Sum.inr _=>⟨[],[],0⟩) (fun y=>match y with | Sum.inl x7=>.ret | Sum.inr _=>(.exit 0)) (Cq (fun x3=>⟨[V 0 (.fsl 1 (List.map cS a0)),V 1 (.fn 114 []),V 7 (iv (List.length a0:Int)),V 8 (iv x3)],[],0⟩) BN ?_) ?_
 ·intro x3
  unfold Bi
  refine jS ⟨[V 0 (.fsl 1 (List.map cS a0)),V 1 (.fn 114 []),V 7 (iv (List.length a0:Int)),V 8 (iv x3),V 9 (bv (decide (x3 < (List.length a0:Int))))],[],0⟩ ?_
  refine Aj ?_
  refine jIf ?_ ?_
  ·refine Ai (Ab (Aj (A4 (jS ⟨[V 0 (.fsl 1 (List.map cS a0)),V 1 (.fn 114 []),V 5 (iv x3),V 7 (iv (List.length a0:Int)),V 8 (iv x3)],[],0⟩ ?_))))
   refine jR (jG 0 3 ⟨[V 0 (.fsl 1 (List.map cS a0)),V 1 (.fn 114 []),V 5 (iv x3),V 7 (iv (List.length a0:Int)),V 8 (iv x3),V 11 (.fn 114 []),V 12 (.fsl 1 (List.map cS a0)),V 13 (iv x3)],[],0⟩ ?_)
   refine A1 (i:=3) (mo:=ixl a0 x3) rfl rfl rfl rfl (fun _ hc=>ES (c:=cS) (sz:=1) (e:=9) (kk:=.i64) (by kernel_rfl) (by kernel_rfl) (by kernel_rfl) (by kernel_rfl) hc) (fun _=>rfl) ?_
   intro x8 h8
   refine jG 4 1 ⟨[V 0 (.fsl 1 (List.map cS a0)),V 1 (.fn 114 []),V 5 (iv x3),V 7 (iv (List.length a0:Int)),V 8 (iv x3),V 11 (.fn 114 []),V 15 (bs x8)],[],0⟩ ?_
   refine C9 (i:=5) rfl rfl rfl rfl (g:=114) (caps:=[]) (avs:=[bs x8]) (vs:=[bs x8]) (by kernel_rfl) (by kernel_rfl) rfl (AS rfl (BK _)) (AN (AY _) A2) (pH x8) (fun _=>rfl) (fun _=>rfl) ?_
   intro x9 h9
   refine jN ?_
   refine jIf ?_ ?_
   ·refine jS ⟨[V 4 (iv x3)],[],0⟩ ?_
    exact Af (BG (Au (Bc rfl nofun BN)))
   refine Ai (BU (Ab (jT ⟨[V 0 (.fsl 1 (List.map cS a0)),V 1 (.fn 114 []),V 7 (iv (List.length a0:Int)),V 8 (iv (w64 (x3 + 1)))],[],0⟩ ?_)))
   exact Cs BN
  exact Cd (Ce (Bc rfl nofun BN))
 rintro (x7 | _)
 ·exact BG (Au (BL (iv x7)))
 refine Cr (Ab (jS ⟨[V 4 (iv (-1))],[],0⟩ ?_))
 exact Af (BL (iv (-1))))
abbrev FL:List LO:=[Ae 4 4]
abbrev FM:List LO:=[lm 5 0 32,lm 6 1 31,AO 7 130 #[AE 5,AE 6] #[32,31] 3,DK 8 3 7 0 3 4,AC 4 8 4]
abbrev Fc:LC:=.seq (.reg false FL) (.seq (.reg false FM) .ret)
theorem Fd:Bf E 112 9 [.tmp 4] Fc:=Bl Go.Proofs.Tryz.f112
noncomputable def Bg (a0:(List Str)):Option (Bool):=Option.bind (CB a0) (fun x1=>some (decide (x1≥0)))
theorem FK (a0:(List Str)):Ct E 112 [.fsl 1 (List.map cS a0),.fn 114 []] (Bg a0) (fun r:Bool=>bv r):=CJ Fd (by
 unfold Bg
 refine jS ⟨[V 0 (.fsl 1 (List.map cS a0)),V 1 (.fn 114 [])],[],0⟩ ?_
 refine jR (jG 0 2 ⟨[V 5 (.fsl 1 (List.map cS a0)),V 6 (.fn 114 [])],[],0⟩ ?_)
 refine jK 2 (GB a0) ?_
 intro x1 h1
 refine jG 3 2 ⟨[V 4 (bv (decide (x1≥0)))],[],0⟩ ?_
 exact jN (Af (BL (bv (decide (x1≥0))))))
abbrev zY:List LO:=[BW 1 34 0 0,Ae 2 4]
abbrev zZ:List LO:=[AA 4 34 1 2 0,AF 5 5 4 5,Br 6 5 5 97 5 4,lm 7 6 4,AL 8 34 1 2 0 7 false,Aa 9 5 8 5 7 false,A3 10 5 9 98 5 4 7 false,Al 11 7 10 4,lm 12 11 4,AL 13 34 1 2 0 12 false,Aa 14 5 13 5 12 false,A3 15 5 14 114 5 4 12 false,Al 16 12 15 4,AC 3 16 4]
abbrev zI:List LO:=[AA 17 34 1 0 0,AF 18 9 17 9,AO 19 111 #[AE 18,.const (.bool true)] #[9,4] 4,BQ 20 4 19 4,lm 21 20 4,AL 22 34 1 1 0 21 false,Aa 23 32 22 32 21 false,BE 24 #[AE 23] #[32] 3 21 false,DJ 25 3 24 0 3 4 21 false,Al 26 21 25 4,lm 27 26 4,AL 28 34 1 2 0 27 false,Aa 29 5 28 5 27 false,lg 30 (.binOp .neq 5 (AE 29) (.const (.int .u8 0)) 5) 4 27 false,lmg 31 30 4 27 false,lmg 32 3 4 31 true,Ax 33 4 32 4 31 true,FT 34 31 33 4 27 false,Al 35 27 34 4,lm 36 35 4,AL 37 34 1 3 0 36 false,Aa 38 9 37 9 36 false,lmg 39 3 4 36 false,AI 40 111 #[AE 38,AE 39] #[9,4] 4 36 false,Ax 41 4 40 4 36 false,Al 42 36 41 4,lm 43 42 4,AL 44 34 1 5 0 43 false,Aa 45 9 44 9 43 false,AL 46 34 1 4 0 43 false,Aa 47 4 46 4 43 false,AI 48 111 #[AE 45,AE 47] #[9,4] 4 43 false,Ax 49 4 48 4 43 false,Al 50 43 49 4,lm 51 50 4,AL 52 34 1 7 0 51 false,Aa 53 9 52 9 51 false,AL 54 34 1 6 0 51 false,Aa 55 4 54 4 51 false,AI 56 111 #[AE 53,AE 55] #[9,4] 4 51 false,Ax 57 4 56 4 51 false,Al 58 51 57 4]
abbrev z6:List LO:=[Ae 2 4]
abbrev z7:List LO:=[AA 59 34 1 1 0,AF 60 32 59 32,AO 61 112 #[AE 60,.func 113] #[32,31] 4,BQ 62 4 61 4,lm 63 62 4,AL 64 34 1 8 0 63 true,Aa 65 32 64 32 63 true,AI 66 112 #[AE 65,.func 114] #[32,31] 4 63 true,Ax 67 4 66 4 63 true,AQ 68 63 67 4,AC 2 68 4]
abbrev ABw:LC:=.seq (.reg false zY) (.seq (.reg false zZ) (.seq (.seq (.reg false zI) (.cond (AE 58) (.seq (.reg false z6) .ret) .skip)) (.seq (.reg false z7) .ret)))
theorem ABx:Bf E 88 69 [.tmp 2] ABw:=Bl Go.Proofs.Tryz.f88
noncomputable def TA (a0:Ac):Option (Bool):=Option.bind (E8 a0.Epoch true) (fun x1=>Option.bind (if (((!x1) || ((List.length a0.Release:Int) == 0)) || ((a0.Pre != 0) && (!(((a0.Pre == 97) || (a0.Pre == 98)) || (a0.Pre == 114)))))=true then some true else Option.bind (E8 a0.PreNum (((a0.Pre == 97) || (a0.Pre == 98)) || (a0.Pre == 114))) (fun x4=>some (!x4)):Option (Bool)) (fun x3=>Option.bind (if x3=true then some true else Option.bind (E8 a0.PostNum a0.Post) (fun x7=>some (!x7)):Option (Bool)) (fun x6=>Option.bind (if x6=true then some true else Option.bind (E8 a0.DevNum a0.Dev) (fun x10=>some (!x10)):Option (Bool)) (fun x9=>(if x9=true then some false else Option.bind (Bh a0.Release) (fun x11=>Option.bind (if (!x11)=true then Option.bind (Bg a0.Local) (fun x14=>some (!x14)) else some false:Option (Bool)) (fun x13=>some x13)))))))
theorem dO (a0:Ac):Ct E 88 [.agg (AK a0)] (TA a0) (fun r:Bool=>bv r):=CJ ABx (by
 unfold TA
 refine jS ⟨[V 1 (pt 0 9)],[W 0 9 (AK a0)],1⟩ ?_
 refine jS ⟨[V 1 (pt 0 9),V 3 (bv (((a0.Pre == 97) || (a0.Pre == 98)) || (a0.Pre == 114)))],[W 0 9 (AK a0)],1⟩ ?_
 refine Aj (jR (jG 0 2 ⟨[V 1 (pt 0 9),V 3 (bv (((a0.Pre == 97) || (a0.Pre == 98)) || (a0.Pre == 114))),V 18 (bs a0.Epoch)],[W 0 9 (AK a0)],1⟩ ?_))
 refine jK 2 (G8 a0.Epoch true) ?_
 intro x1 h1
 refine jG 3 17 ⟨[V 1 (pt 0 9),V 3 (bv (((a0.Pre == 97) || (a0.Pre == 98)) || (a0.Pre == 114))),V 36 (bv (((!x1) || ((List.length (List.map cS a0.Release):Int) == 0)) || ((a0.Pre != 0) && (!(((a0.Pre == 97) || (a0.Pre == 98)) || (a0.Pre == 114))))))],[W 0 9 (AK a0)],1⟩ ?_
 simp only[List.length_map]
 refine A5 20 6 (fun x3=>⟨[V 1 (pt 0 9),V 42 (bv x3)],[W 0 9 (AK a0)],1⟩) ?_ ?_
 ·refine jSp 36 ?_ ?_
  ·refine jG 0 6 ⟨[V 1 (pt 0 9),V 42 (bv true)],[W 0 9 (AK a0)],1⟩ ?_
   exact Ad rfl (AT rfl (wkR [(0,some 0)] (Ao _) (pc (hC 0) AD)))
  refine jG 0 3 ⟨[V 1 (pt 0 9),(36,.lit false),V 38 (bs a0.PreNum),V 39 (bv (((a0.Pre == 97) || (a0.Pre == 98)) || (a0.Pre == 114)))],[W 0 9 (AK a0)],1⟩ ?_
  refine jK 3 (G8 a0.PreNum (((a0.Pre == 97) || (a0.Pre == 98)) || (a0.Pre == 114))) ?_
  intro x4 h4
  refine jG 4 2 ⟨[V 1 (pt 0 9),V 42 (bv (!x4))],[W 0 9 (AK a0)],1⟩ ?_
  exact Ad rfl (AT rfl (wkR [(0,some 0)] (Ao _) (pc (hC 0) AD)))
 intro x3
 refine jG 26 1 ⟨[V 1 (pt 0 9),V 43 (bv x3)],[W 0 9 (AK a0)],1⟩ ?_
 refine A5 27 7 (fun x6=>⟨[V 1 (pt 0 9),V 50 (bv x6)],[W 0 9 (AK a0)],1⟩) ?_ ?_
 ·refine jSp 43 ?_ ?_
  ·refine jG 0 7 ⟨[V 1 (pt 0 9),V 50 (bv true)],[W 0 9 (AK a0)],1⟩ ?_
   exact Ad rfl (AT rfl (wkR [(0,some 0)] (Ao _) (pc (hC 0) AD)))
  refine jG 0 4 ⟨[V 1 (pt 0 9),(43,.lit false),V 45 (bs a0.PostNum),V 47 (bv a0.Post)],[W 0 9 (AK a0)],1⟩ ?_
  refine jK 4 (G8 a0.PostNum a0.Post) ?_
  intro x7 h7
  refine jG 5 2 ⟨[V 1 (pt 0 9),V 50 (bv (!x7))],[W 0 9 (AK a0)],1⟩ ?_
  exact Ad rfl (AT rfl (wkR [(0,some 0)] (Ao _) (pc (hC 0) AD)))
 intro x6
 refine jG 34 1 ⟨[V 1 (pt 0 9),V 51 (bv x6)],[W 0 9 (AK a0)],1⟩ ?_
 refine A5 35 7 (fun x9=>⟨[V 1 (pt 0 9),V 58 (bv x9)],[W 0 9 (AK a0)],1⟩) ?_ ?_
 ·refine jSp 51 ?_ ?_
  ·refine jG 0 7 ⟨[V 1 (pt 0 9),V 58 (bv true)],[W 0 9 (AK a0)],1⟩ ?_
   exact Ad rfl (AT rfl (wkR [(0,some 0)] (Ao _) (pc (hC 0) AD)))
  refine jG 0 4 ⟨[V 1 (pt 0 9),(51,.lit false),V 53 (bs a0.DevNum),V 55 (bv a0.Dev)],[W 0 9 (AK a0)],1⟩ ?_
  refine jK 4 (G8 a0.DevNum a0.Dev) ?_
  intro x10 h10
  refine jG 5 2 ⟨[V 1 (pt 0 9),V 58 (bv (!x10))],[W 0 9 (AK a0)],1⟩ ?_
  exact Ad rfl (AT rfl (wkR [(0,some 0)] (Ao _) (pc (hC 0) AD)))
 intro x9
 refine jN ?_
 refine jIf ?_ ?_
 ·refine jS ⟨[V 2 (bv false)],[],1⟩ ?_
  exact Af (Au (BL (bv false)))
 refine Ai (Ab (jR (jG 0 2 ⟨[V 1 (pt 0 9),V 60 (.fsl 1 (List.map cS a0.Release))],[W 0 9 (AK a0)],1⟩ ?_)))
 refine jK 2 (FN a0.Release) ?_
 intro x11 h11
 refine jG 3 2 ⟨[V 1 (pt 0 9),V 63 (bv (!x11))],[W 0 9 (AK a0)],1⟩ ?_
 refine A5 5 5 (fun x13=>⟨[V 68 (bv x13)],[],0⟩) ?_ ?_
 ·refine jSp 63 ?_ ?_
  ·refine jG 0 2 ⟨[(63,.lit true),V 65 (.fsl 1 (List.map cS a0.Local))],[],1⟩ ?_
   refine jK 2 (FK a0.Local) ?_
   intro x14 h14
   refine jG 3 2 ⟨[V 68 (bv (!x14))],[],1⟩ ?_
   exact Ad rfl (AT rfl BN)
  refine jG 0 5 ⟨[V 68 (bv false)],[],1⟩ ?_
  exact Ad rfl (AT rfl BN)
 intro x13
 refine jG 10 1 ⟨[V 2 (bv x13)],[],0⟩ ?_
 exact jN (Af (BL (bv x13))))
abbrev dP:List LO:=[BA 2 #[] 9]
abbrev dQ:List LO:=[BA 2 #[48] 9]
abbrev iG:LC:=.seq (.reg false dP) (.seq (.reg false dQ) .ret)
theorem iH:Bf E 89 3 [.tmp 2] iG:=Bl Go.Proofs.Tryz.f89
noncomputable def KD (a0:Int):Option (Str):=some [48]
theorem Rk (a0:Int):Ct E 89 [iv a0] (KD a0) (fun r:Str=>bs r):=CJ iH (by
 unfold KD
 refine jS ⟨[],[],0⟩ ?_
 refine jS ⟨[V 2 (bs [48])],[],0⟩ ?_
 exact Af (BL (bs [48])))
abbrev ON:List LO:=[As 8 0 3]
abbrev OO:List LO:=[lm 13 0 32,Ak 14 #[AE 13] #[32] 3,lm 15 1 32,Ak 16 #[AE 15] #[32] 3,lo 17 (.call ⟨.builtin .max,#[AE 14,AE 16],#[3,3]⟩) 3,B7 18 0 3]
abbrev OP:List LO:=[An 19 3 18 17 3 4]
abbrev OQ:List LO:=[lm 20 18 3,AC 9 20 3]
abbrev OR:List LO:=[lm 21 2 100,lm 22 9 3,lo 23 (.call ⟨.value (AE 21),#[AE 22],#[3]⟩) 9,lm 24 2 100,lm 25 9 3,lo 26 (.call ⟨.value (AE 24),#[AE 25],#[3]⟩) 9,AC 10 23 9,AC 11 26 9]
abbrev OS:List LO:=[lm 27 9 3,lm 28 0 32,Ak 29 #[AE 28] #[32] 3,An 30 3 27 29 3 4]
abbrev OT:List LO:=[lm 31 0 32,lm 32 9 3,A7 33 32 31 32 0,AF 34 9 33 9,AC 10 34 9]
abbrev OU:List LO:=[lm 35 9 3,lm 36 1 32,Ak 37 #[AE 36] #[32] 3,An 38 3 35 37 3 4]
abbrev OV:List LO:=[lm 39 1 32,lm 40 9 3,A7 41 32 39 40 0,AF 42 9 41 9,AC 11 42 9]
abbrev NO:List LO:=[lm 43 3 99,lm 44 10 9,lm 45 11 9,lo 46 (.call ⟨.value (AE 43),#[AE 44,AE 45],#[9,9]⟩) 3,AC 12 46 3]
abbrev NP:List LO:=[lm 47 12 3,BM 48 3 47 0 3 4]
abbrev NQ:List LO:=[lm 49 12 3,AC 8 49 3]
abbrev NR:List LO:=[Ag 50 3 18 1 3 3,lm 18 50 3]
abbrev NS:List LO:=[As 8 0 3]
abbrev PJ:LC:=.seq (.reg false ON) (.seq (.seq (.reg false OO) (.block 0 (.loop (.seq (.reg false OP) (.seq (.cond (AE 19) .skip (.exit 0)) (.seq (.block 1 (.seq (.reg false OQ) (.seq (.reg false OR) (.seq (.seq (.reg false OS) (.cond (AE 30) (.reg false OT) .skip)) (.seq (.seq (.reg false OU) (.cond (AE 38) (.reg false OV) .skip)) (.seq (.reg false NO) (.seq (.reg false NP) (.cond (AE 48) (.seq (.reg false NQ) .ret) .skip)))))))) (.reg false NR))))))) (.seq (.reg false NS) .ret))
theorem PK:Bf E 93 51 [.tmp 8] PJ:=Bl Go.Proofs.Tryz.f93
noncomputable def Dm (a0:(List Str)) (a1:(List Str)):Int→Option (Step (Int) ((Int) ⊕ (Unit))):=fun x8=>(if (decide (x8 < (if (List.length a1:Int) > (List.length a0:Int) then (List.length a1:Int) else (List.length a0:Int))))=true then Option.bind (KD x8) (fun x18=>Option.bind (KD x8) (fun x19=>Option.bind ((if (decide (x8 < (List.length a0:Int)))=true then Option.bind (ixl a0 x8) (fun x22=>some x22) else some x18):Option (Str)) (fun x21=>Option.bind ((if (decide (x8 < (List.length a1:Int)))=true then Option.bind (ixl a1 x8) (fun x25=>some x25) else some x19):Option (Str)) (fun x24=>Option.bind (HE x21 x24) (fun x26=>(if (x26 != 0)=true then some (Step.done (Sum.inl x26)) else some (Step.next (w64 (x8 + 1))))))))) else some (Step.done (Sum.inr ())))
noncomputable def Dj (a0:(List Str)) (a1:(List Str)):Option (Int):=Option.bind (B9 (Dm a0 a1) 0) (fun y=>match y with | Sum.inl x17=>some x17 | Sum.inr _=>some 0)
theorem OM (a0:(List Str)) (a1:(List Str)):Ct E 93 [.fsl 1 (List.map cS a0),.fsl 1 (List.map cS a1),.fn 89 [],.fn 92 []] (Dj a0 a1) (fun r:Int=>iv r):=CJ PK (by
 unfold Dj
 refine jS ⟨[V 0 (.fsl 1 (List.map cS a0)),V 1 (.fsl 1 (List.map cS a1)),V 2 (.fn 89 []),V 3 (.fn 92 [])],[],0⟩ ?_
 refine Aj (jR (jG 0 6 ⟨[V 0 (.fsl 1 (List.map cS a0)),V 1 (.fsl 1 (List.map cS a1)),V 2 (.fn 89 []),V 3 (.fn 92 []),V 17 (iv (if (List.length (List.map cS a1):Int) > (List.length (List.map cS a0):Int) then (List.length (List.map cS a1):Int) else (List.length (List.map cS a0):Int))),V 18 (iv 0)],[],0⟩ ?_))
 simp only[List.length_map]
 refine jN (A4 ?_)
 refine BB (fun y=>match y with | Sum.inl x17=>⟨[V 8 (iv x17)],[],0⟩ | Sum.inr _=>⟨[],[],0⟩) (fun y=>match y with | Sum.inl x17=>.ret | Sum.inr _=>(.exit 0)) (Cq (fun x8=>⟨[V 0 (.fsl 1 (List.map cS a0)),V 1 (.fsl 1 (List.map cS a1)),V 2 (.fn 89 []),V 3 (.fn 92 []),V 17 (iv (if (List.length a1:Int) > (List.length a0:Int) then (List.length a1:Int) else (List.length a0:Int))),V 18 (iv x8)],[],0⟩) BN ?_) ?_
 ·intro x8
  unfold Dm
  refine jS ⟨[V 0 (.fsl 1 (List.map cS a0)),V 1 (.fsl 1 (List.map cS a1)),V 2 (.fn 89 []),V 3 (.fn 92 []),V 17 (iv (if (List.length a1:Int) > (List.length a0:Int) then (List.length a1:Int) else (List.length a0:Int))),V 18 (iv x8),V 19 (bv (decide (x8 < (if (List.length a1:Int) > (List.length a0:Int) then (List.length a1:Int) else (List.length a0:Int)))))],[],0⟩ ?_
  refine Aj ?_
  refine jIf ?_ ?_
  ·refine Ai (Ab (Aj (A4 (jS ⟨[V 0 (.fsl 1 (List.map cS a0)),V 1 (.fsl 1 (List.map cS a1)),V 2 (.fn 89 []),V 3 (.fn 92 []),V 9 (iv x8),V 17 (iv (if (List.length a1:Int) > (List.length a0:Int) then (List.length a1:Int) else (List.length a0:Int))),V 18 (iv x8)],[],0⟩ ?_))))
   refine jR (jG 0 2 ⟨[V 0 (.fsl 1 (List.map cS a0)),V 1 (.fsl 1 (List.map cS a1)),V 2 (.fn 89 []),V 3 (.fn 92 []),V 9 (iv x8),V 17 (iv (if (List.length a1:Int) > (List.length a0:Int) then (List.length a1:Int) else (List.length a0:Int))),V 18 (iv x8),V 21 (.fn 89 []),V 22 (iv x8)],[],0⟩ ?_)
   refine C9 (i:=2) rfl rfl rfl rfl (g:=89) (caps:=[]) (avs:=[iv x8]) (vs:=[iv x8]) (by kernel_rfl) (by kernel_rfl) rfl (AS rfl (BK _)) (AN (AY _) A2) (Rk x8) (fun _=>rfl) (fun _=>rfl) ?_
   intro x18 h18
   refine jG 3 2 ⟨[V 0 (.fsl 1 (List.map cS a0)),V 1 (.fsl 1 (List.map cS a1)),V 2 (.fn 89 []),V 3 (.fn 92 []),V 9 (iv x8),V 17 (iv (if (List.length a1:Int) > (List.length a0:Int) then (List.length a1:Int) else (List.length a0:Int))),V 18 (iv x8),V 23 (bs x18),V 24 (.fn 89 []),V 25 (iv x8)],[],0⟩ ?_
   refine C9 (i:=5) rfl rfl rfl rfl (g:=89) (caps:=[]) (avs:=[iv x8]) (vs:=[iv x8]) (by kernel_rfl) (by kernel_rfl) rfl (AS rfl (BK _)) (AN (AY _) A2) (Rk x8) (fun _=>rfl) (fun _=>rfl) ?_
   intro x19 h19
   refine jG 6 2 ⟨[V 0 (.fsl 1 (List.map cS a0)),V 1 (.fsl 1 (List.map cS a1)),V 2 (.fn 89 []),V 3 (.fn 92 []),V 9 (iv x8),V 10 (bs x18),V 11 (bs x19),V 17 (iv (if (List.length a1:Int) > (List.length a0:Int) then (List.length a1:Int) else (List.length a0:Int))),V 18 (iv x8)],[],0⟩ ?_
   refine jN (Aj ?_)
   refine BB (fun x21=>⟨[V 0 (.fsl 1 (List.map cS a0)),V 1 (.fsl 1 (List.map cS a1)),V 2 (.fn 89 []),V 3 (.fn 92 []),V 9 (iv x8),V 10 (bs x21),V 11 (bs x19),V 17 (iv (if (List.length a1:Int) > (List.length a0:Int) then (List.length a1:Int) else (List.length a0:Int))),V 18 (iv x8)],[],0⟩) (fun x21=>.normal) ?_ ?_
   ·refine jR (jG 0 4 ⟨[V 0 (.fsl 1 (List.map cS a0)),V 1 (.fsl 1 (List.map cS a1)),V 2 (.fn 89 []),V 3 (.fn 92 []),V 9 (iv x8),V 10 (bs x18),V 11 (bs x19),V 17 (iv (if (List.length a1:Int) > (List.length a0:Int) then (List.length a1:Int) else (List.length a0:Int))),V 18 (iv x8),V 30 (bv (decide (x8 < (List.length (List.map cS a0):Int))))],[],0⟩ ?_)
    simp only[List.length_map]
    refine jN ?_
    refine jIf ?_ ?_
    ·refine CX (jG 0 2 ⟨[V 0 (.fsl 1 (List.map cS a0)),V 1 (.fsl 1 (List.map cS a1)),V 2 (.fn 89 []),V 3 (.fn 92 []),V 9 (iv x8),V 11 (bs x19),V 17 (iv (if (List.length a1:Int) > (List.length a0:Int) then (List.length a1:Int) else (List.length a0:Int))),V 18 (iv x8),V 31 (.fsl 1 (List.map cS a0)),V 32 (iv x8)],[],0⟩ ?_)
     refine A1 (i:=2) (mo:=ixl a0 x8) rfl rfl rfl rfl (fun _ hc=>ES (c:=cS) (sz:=1) (e:=9) (kk:=.i64) (by kernel_rfl) (by kernel_rfl) (by kernel_rfl) (by kernel_rfl) hc) (fun _=>rfl) ?_
     intro x22 h22
     refine jG 3 2 ⟨[V 0 (.fsl 1 (List.map cS a0)),V 1 (.fsl 1 (List.map cS a1)),V 2 (.fn 89 []),V 3 (.fn 92 []),V 9 (iv x8),V 10 (bs x22),V 11 (bs x19),V 17 (iv (if (List.length a1:Int) > (List.length a0:Int) then (List.length a1:Int) else (List.length a0:Int))),V 18 (iv x8)],[],0⟩ ?_
     exact Ad rfl (AT rfl BN)
    exact Ai (AT rfl BN)
   intro x21
   refine Ab (Aj ?_)
   refine BB (fun x24=>⟨[V 0 (.fsl 1 (List.map cS a0)),V 1 (.fsl 1 (List.map cS a1)),V 2 (.fn 89 []),V 3 (.fn 92 []),V 10 (bs x21),V 11 (bs x24),V 17 (iv (if (List.length a1:Int) > (List.length a0:Int) then (List.length a1:Int) else (List.length a0:Int))),V 18 (iv x8)],[],0⟩) (fun x24=>.normal) ?_ ?_
   ·refine jR (jG 0 4 ⟨[V 0 (.fsl 1 (List.map cS a0)),V 1 (.fsl 1 (List.map cS a1)),V 2 (.fn 89 []),V 3 (.fn 92 []),V 9 (iv x8),V 10 (bs x21),V 11 (bs x19),V 17 (iv (if (List.length a1:Int) > (List.length a0:Int) then (List.length a1:Int) else (List.length a0:Int))),V 18 (iv x8),V 38 (bv (decide (x8 < (List.length (List.map cS a1):Int))))],[],0⟩ ?_)
    simp only[List.length_map]
    refine jN ?_
    refine jIf ?_ ?_
    ·refine CX (jG 0 2 ⟨[V 0 (.fsl 1 (List.map cS a0)),V 1 (.fsl 1 (List.map cS a1)),V 2 (.fn 89 []),V 3 (.fn 92 []),V 10 (bs x21),V 17 (iv (if (List.length a1:Int) > (List.length a0:Int) then (List.length a1:Int) else (List.length a0:Int))),V 18 (iv x8),V 39 (.fsl 1 (List.map cS a1)),V 40 (iv x8)],[],0⟩ ?_)
     refine A1 (i:=2) (mo:=ixl a1 x8) rfl rfl rfl rfl (fun _ hc=>ES (c:=cS) (sz:=1) (e:=9) (kk:=.i64) (by kernel_rfl) (by kernel_rfl) (by kernel_rfl) (by kernel_rfl) hc) (fun _=>rfl) ?_
     intro x25 h25
     refine jG 3 2 ⟨[V 0 (.fsl 1 (List.map cS a0)),V 1 (.fsl 1 (List.map cS a1)),V 2 (.fn 89 []),V 3 (.fn 92 []),V 10 (bs x21),V 11 (bs x25),V 17 (iv (if (List.length a1:Int) > (List.length a0:Int) then (List.length a1:Int) else (List.length a0:Int))),V 18 (iv x8)],[],0⟩ ?_
     exact Ad rfl (AT rfl BN)
    exact Ai (AT rfl BN)
   intro x24
   refine Ab (jR (jG 0 3 ⟨[V 0 (.fsl 1 (List.map cS a0)),V 1 (.fsl 1 (List.map cS a1)),V 2 (.fn 89 []),V 3 (.fn 92 []),V 17 (iv (if (List.length a1:Int) > (List.length a0:Int) then (List.length a1:Int) else (List.length a0:Int))),V 18 (iv x8),V 43 (.fn 92 []),V 44 (bs x21),V 45 (bs x24)],[],0⟩ ?_))
   refine C9 (i:=3) rfl rfl rfl rfl (g:=92) (caps:=[]) (avs:=[bs x21,bs x24]) (vs:=[bs x21,bs x24]) (by kernel_rfl) (by kernel_rfl) rfl (AS rfl (AS rfl (BK _))) (AN (AY _) (AN (AY _) A2)) (HX x21 x24) (fun _=>rfl) (fun _=>rfl) ?_
   intro x26 h26
   refine jG 4 1 ⟨[V 0 (.fsl 1 (List.map cS a0)),V 1 (.fsl 1 (List.map cS a1)),V 2 (.fn 89 []),V 3 (.fn 92 []),V 12 (iv x26),V 17 (iv (if (List.length a1:Int) > (List.length a0:Int) then (List.length a1:Int) else (List.length a0:Int))),V 18 (iv x8)],[],0⟩ ?_
   refine jN (jS ⟨[V 0 (.fsl 1 (List.map cS a0)),V 1 (.fsl 1 (List.map cS a1)),V 2 (.fn 89 []),V 3 (.fn 92 []),V 12 (iv x26),V 17 (iv (if (List.length a1:Int) > (List.length a0:Int) then (List.length a1:Int) else (List.length a0:Int))),V 18 (iv x8),V 48 (bv (x26 != 0))],[],0⟩ ?_)
   refine jIf ?_ ?_
   ·refine jS ⟨[V 8 (iv x26)],[],0⟩ ?_
    exact Af (BG (Au (Bc rfl nofun BN)))
   refine Ai (BU (Ab (jT ⟨[V 0 (.fsl 1 (List.map cS a0)),V 1 (.fsl 1 (List.map cS a1)),V 2 (.fn 89 []),V 3 (.fn 92 []),V 17 (iv (if (List.length a1:Int) > (List.length a0:Int) then (List.length a1:Int) else (List.length a0:Int))),V 18 (iv (w64 (x8 + 1)))],[],0⟩ ?_)))
   exact Cs BN
  exact Cd (Ce (Bc rfl nofun BN))
 rintro (x17 | _)
 ·exact BG (Au (BL (iv x17)))
 refine Cr (Ab (jS ⟨[V 8 (iv 0)],[],0⟩ ?_))
 exact Af (BL (iv 0)))
abbrev dR:List LO:=[BA 2 #[] 9]
abbrev dS:List LO:=[BA 2 #[] 9]
abbrev iJ:LC:=.seq (.reg false dR) (.seq (.reg false dS) .ret)
theorem iK:Bf E 90 3 [.tmp 2] iJ:=Bl Go.Proofs.Tryz.f90
noncomputable def KE (a0:Int):Option (Str):=some []
theorem Rl (a0:Int):Ct E 90 [iv a0] (KE a0) (fun r:Str=>bs r):=CJ iK (by
 unfold KE
 refine jS ⟨[],[],0⟩ ?_
 refine jS ⟨[V 2 (bs [])],[],0⟩ ?_
 exact Af (BL (bs [])))
abbrev Uw:List LO:=[Ae 2 4]
abbrev Ux:List LO:=[lm 3 0 9,El 4 9 3 #[] 9 4,lm 5 4 4,lmg 6 0 9 5 true,AI 7 69 #[AE 6,.const (.int .i64 0),.const (.int .i64 1)] #[9,3,3] 3 5 true,lmg 8 0 9 5 true,BE 9 #[AE 8] #[9] 3 5 true,BT 10 3 7 9 3 4 5 true,AQ 11 5 10 4,AC 2 11 4]
abbrev V5:LC:=.seq (.reg false Uw) (.seq (.reg false Ux) .ret)
theorem V6:Bf E 118 12 [.tmp 2] V5:=Bl Go.Proofs.Tryz.f118
noncomputable def EN (a0:Str):Option (Bool):=Option.bind (if (!(a0 == []))=true then Option.bind (Du a0 0 1) (fun x3=>some (x3 == (List.length a0:Int))) else some false:Option (Bool)) (fun x2=>some x2)
theorem Lx (a0:Str):Ct E 118 [bs a0] (EN a0) (fun r:Bool=>bv r):=CJ V6 (by
 unfold EN
 refine jS ⟨[V 0 (bs a0)],[],0⟩ ?_
 refine jR (jG 0 3 ⟨[V 0 (bs a0),V 5 (bv (!(a0 == [])))],[],0⟩ ?_)
 refine A5 3 6 (fun x2=>⟨[V 11 (bv x2)],[],0⟩) ?_ ?_
 ·refine jSp 5 ?_ ?_
  ·refine jG 0 1 ⟨[V 0 (bs a0),(5,.lit true),V 6 (bs a0)],[],0⟩ ?_
   refine jK 1 (E2 a0 0 1) ?_
   intro x3 h3
   refine jG 2 4 ⟨[V 11 (bv (x3 == (List.length a0:Int)))],[],0⟩ ?_
   exact Ad rfl (AT rfl BN)
  refine jG 0 6 ⟨[V 11 (bv false)],[],0⟩ ?_
  exact Ad rfl (AT rfl BN)
 intro x2
 refine jG 9 1 ⟨[V 2 (bv x2)],[],0⟩ ?_
 exact jN (Af (BL (bv x2))))
abbrev M9:List LO:=[As 3 0 3]
abbrev NA:List LO:=[lm 5 0 9,BJ 6 9 5 #[] 9 4,AC 4 6 4]
abbrev NB:List LO:=[As 3 0 3]
abbrev NC:List LO:=[AF 8 31 1 31,lm 9 0 9,lo 10 (.call ⟨.value (AE 8),#[AE 9],#[9]⟩) 4,AC 7 10 4]
abbrev ND:List LO:=[As 3 2 3]
abbrev NE:List LO:=[As 3 1 3]
abbrev N6:LC:=.seq (.reg false M9) (.seq (.block 0 (.seq (.reg false NA) (.cond (AE 4) (.seq (.reg false NB) .ret) (.seq (.reg false NC) (.cond (AE 7) (.seq (.reg false ND) .ret) .skip))))) (.seq (.reg false NE) .ret))
theorem N7:Bf E 119 11 [.tmp 3] N6:=Bl Go.Proofs.Tryz.f119
noncomputable def C0 (a0:Str):Option (Int):=(if (a0 == [])=true then some 0 else Option.bind (EN a0) (fun x1=>(if x1=true then some 2 else some 1)))
theorem G6 (a0:Str):Ct E 119 [bs a0,.fptr [.fn 118 []] 0] (C0 a0) (fun r:Int=>iv r):=CJ N7 (by
 unfold C0
 refine jS ⟨[V 0 (bs a0),V 1 (.fptr [.fn 118 []] 0)],[],0⟩ ?_
 refine Aj (A4 (jS ⟨[V 0 (bs a0),V 1 (.fptr [.fn 118 []] 0),V 4 (bv (a0 == []))],[],0⟩ ?_))
 refine jIf ?_ ?_
 ·refine jS ⟨[V 3 (iv 0)],[],0⟩ ?_
  exact Af (BG (Au (BL (iv 0))))
 refine jR (jG 0 2 ⟨[V 8 (.fn 118 []),V 9 (bs a0)],[],0⟩ ?_)
 refine C9 (i:=2) rfl rfl rfl rfl (g:=118) (caps:=[]) (avs:=[bs a0]) (vs:=[bs a0]) (by kernel_rfl) (by kernel_rfl) rfl (AS rfl (BK _)) (AN (AY _) A2) (Lx a0) (fun _=>rfl) (fun _=>rfl) ?_
 intro x1 h1
 refine jG 3 1 ⟨[V 7 (bv x1)],[],0⟩ ?_
 refine jN ?_
 refine jIf ?_ ?_
 ·refine jS ⟨[V 3 (iv 2)],[],0⟩ ?_
  exact Af (BG (Au (BL (iv 2))))
 refine Ai (BU (Ab (jS ⟨[V 3 (iv 1)],[],0⟩ ?_)))
 exact Af (BL (iv 1)))
abbrev XM:List LO:=[As 4 0 3]
abbrev XN:List LO:=[A9 5 31 0,ln (.store 31 (AE 5) (.func 118)) 0]
abbrev XO:List LO:=[lo 8 (.makeFunc (Fn.func 119) #[] #[AE 5]) 118,AC 6 8 118]
abbrev XP:List LO:=[lm 9 6 118,lm 10 0 9,lo 11 (.call ⟨.value (AE 9),#[AE 10],#[9]⟩) 3,lm 12 6 118,lm 13 1 9,lo 14 (.call ⟨.value (AE 12),#[AE 13],#[9]⟩) 3,AO 15 94 #[AE 11,AE 14] #[3,3] 3,AC 7 15 3]
abbrev XQ:List LO:=[lm 16 7 3,BM 17 3 16 0 3 4]
abbrev XR:List LO:=[lm 18 7 3,AC 4 18 3]
abbrev XS:List LO:=[AF 19 31 5 31,lm 20 0 9,lo 21 (.call ⟨.value (AE 19),#[AE 20],#[9]⟩) 4]
abbrev XT:List LO:=[lm 22 0 9,lm 23 1 9,AO 24 92 #[AE 22,AE 23] #[9,9] 3,AC 4 24 3]
abbrev XU:List LO:=[lm 25 0 9,lm 26 1 9,AO 27 116 #[AE 25,AE 26] #[9,9] 3,AC 4 27 3]
abbrev YI:LC:=.seq (.reg false XM) (.seq (.reg false XN) (.seq (.reg false XO) (.seq (.seq (.reg false XP) (.seq (.reg false XQ) (.cond (AE 17) (.seq (.reg false XR) .ret) .skip))) (.seq (.seq (.reg false XS) (.cond (AE 21) (.seq (.reg false XT) .ret) .skip)) (.seq (.reg false XU) .ret)))))
theorem Y0:Bf E 97 28 [.tmp 4] YI:=Bl Go.Proofs.Tryz.f97
noncomputable def G5 (a0:Str) (a1:Str):Option (Int):=Option.bind (C0 a0) (fun x1=>Option.bind (C0 a1) (fun x2=>Option.bind (Dp x1 x2) (fun x3=>(if (x3 != 0)=true then some x3 else Option.bind (EN a0) (fun x4=>(if x4=true then Option.bind (HE a0 a1) (fun x5=>some x5) else Option.bind (Ft a0 a1) (fun x6=>some x6)))))))
theorem XK (a0:Str) (a1:Str):Ct E 97 [bs a0,bs a1] (G5 a0 a1) (fun r:Int=>iv r):=CJ Y0 (by
 unfold G5
 refine jS ⟨[V 0 (bs a0),V 1 (bs a1)],[],0⟩ ?_
 refine jS ⟨[V 0 (bs a0),V 1 (bs a1),V 5 (pt 0 1)],[W 0 1 [.fn 118 []]],1⟩ ?_
 refine jS ⟨[V 0 (bs a0),V 1 (bs a1),V 5 (pt 0 1),V 6 (.fn 119 [pt 0 1])],[W 0 1 [.fn 118 []]],1⟩ ?_
 refine Aj (jR (jG 0 2 ⟨[V 0 (bs a0),V 1 (bs a1),V 5 (pt 0 1),V 6 (.fn 119 [pt 0 1]),V 9 (.fn 119 [pt 0 1]),V 10 (bs a0)],[W 0 1 [.fn 118 []]],1⟩ ?_))
 refine C9 (i:=2) rfl rfl rfl rfl (g:=119) (caps:=[pt 0 1]) (avs:=[bs a0]) (vs:=[bs a0,pt 0 1]) (vs0:=[bs a0,.fptr [.fn 118 []] 0]) (b:=true) (by kernel_rfl) (by kernel_rfl) rfl (by kernel_rfl) (AN (AY _) (AN (AY _) A2)) (G6 a0) (fun _=>rfl) (fun _=>rfl) ?_
 intro x1 h1
 refine jG 3 2 ⟨[V 0 (bs a0),V 1 (bs a1),V 5 (pt 0 1),V 11 (iv x1),V 12 (.fn 119 [pt 0 1]),V 13 (bs a1)],[W 0 1 [.fn 118 []]],1⟩ ?_
 refine C9 (i:=5) rfl rfl rfl rfl (g:=119) (caps:=[pt 0 1]) (avs:=[bs a1]) (vs:=[bs a1,pt 0 1]) (vs0:=[bs a1,.fptr [.fn 118 []] 0]) (b:=true) (by kernel_rfl) (by kernel_rfl) rfl (by kernel_rfl) (AN (AY _) (AN (AY _) A2)) (G6 a1) (fun _=>rfl) (fun _=>rfl) ?_
 intro x2 h2
 refine jK 6 (HN x1 x2) ?_
 intro x3 h3
 refine jG 7 1 ⟨[V 0 (bs a0),V 1 (bs a1),V 5 (pt 0 1),V 7 (iv x3)],[W 0 1 [.fn 118 []]],1⟩ ?_
 refine jN (jS ⟨[V 0 (bs a0),V 1 (bs a1),V 5 (pt 0 1),V 7 (iv x3),V 17 (bv (x3 != 0))],[W 0 1 [.fn 118 []]],1⟩ ?_)
 refine jIf ?_ ?_
 ·refine jS ⟨[V 4 (iv x3)],[],1⟩ ?_
  exact Af (Au (BL (iv x3)))
 refine Ai (Ab (Aj (jR (jG 0 2 ⟨[V 0 (bs a0),V 1 (bs a1),V 19 (.fn 118 []),V 20 (bs a0)],[],1⟩ ?_))))
 refine C9 (i:=2) rfl rfl rfl rfl (g:=118) (caps:=[]) (avs:=[bs a0]) (vs:=[bs a0]) (by kernel_rfl) (by kernel_rfl) rfl (AS rfl (BK _)) (AN (AY _) A2) (Lx a0) (fun _=>rfl) (fun _=>rfl) ?_
 intro x4 h4
 refine jN ?_
 refine jIf ?_ ?_
 ·refine jR (jG 0 2 ⟨[V 22 (bs a0),V 23 (bs a1)],[],1⟩ ?_)
  refine jK 2 (HX a0 a1) ?_
  intro x5 h5
  refine jG 3 1 ⟨[V 4 (iv x5)],[],1⟩ ?_
  exact jN (Af (Au (BL (iv x5))))
 refine Ai (Ab (jR (jG 0 2 ⟨[V 25 (bs a0),V 26 (bs a1)],[],1⟩ ?_)))
 refine jK 2 (MF a0 a1) ?_
 intro x6 h6
 refine jG 3 1 ⟨[V 4 (iv x6)],[],1⟩ ?_
 exact jN (Af (BL (iv x6))))
abbrev OC:List LO:=[As 8 0 3]
abbrev OD:List LO:=[lm 13 0 32,Ak 14 #[AE 13] #[32] 3,lm 15 1 32,Ak 16 #[AE 15] #[32] 3,lo 17 (.call ⟨.builtin .max,#[AE 14,AE 16],#[3,3]⟩) 3,B7 18 0 3]
abbrev OE:List LO:=[An 19 3 18 17 3 4]
abbrev OF:List LO:=[lm 20 18 3,AC 9 20 3]
abbrev OG:List LO:=[lm 21 2 100,lm 22 9 3,lo 23 (.call ⟨.value (AE 21),#[AE 22],#[3]⟩) 9,lm 24 2 100,lm 25 9 3,lo 26 (.call ⟨.value (AE 24),#[AE 25],#[3]⟩) 9,AC 10 23 9,AC 11 26 9]
abbrev OH:List LO:=[lm 27 9 3,lm 28 0 32,Ak 29 #[AE 28] #[32] 3,An 30 3 27 29 3 4]
abbrev OJ:List LO:=[lm 31 0 32,lm 32 9 3,A7 33 32 31 32 0,AF 34 9 33 9,AC 10 34 9]
abbrev OK:List LO:=[lm 35 9 3,lm 36 1 32,Ak 37 #[AE 36] #[32] 3,An 38 3 35 37 3 4]
abbrev OL:List LO:=[lm 39 1 32,lm 40 9 3,A7 41 32 39 40 0,AF 42 9 41 9,AC 11 42 9]
abbrev NJ:List LO:=[lm 43 3 99,lm 44 10 9,lm 45 11 9,lo 46 (.call ⟨.value (AE 43),#[AE 44,AE 45],#[9,9]⟩) 3,AC 12 46 3]
abbrev NK:List LO:=[lm 47 12 3,BM 48 3 47 0 3 4]
abbrev NL:List LO:=[lm 49 12 3,AC 8 49 3]
abbrev NM:List LO:=[Ag 50 3 18 1 3 3,lm 18 50 3]
abbrev NN:List LO:=[As 8 0 3]
abbrev PG:LC:=.seq (.reg false OC) (.seq (.seq (.reg false OD) (.block 0 (.loop (.seq (.reg false OE) (.seq (.cond (AE 19) .skip (.exit 0)) (.seq (.block 1 (.seq (.reg false OF) (.seq (.reg false OG) (.seq (.seq (.reg false OH) (.cond (AE 30) (.reg false OJ) .skip)) (.seq (.seq (.reg false OK) (.cond (AE 38) (.reg false OL) .skip)) (.seq (.reg false NJ) (.seq (.reg false NK) (.cond (AE 48) (.seq (.reg false NL) .ret) .skip)))))))) (.reg false NM))))))) (.seq (.reg false NN) .ret))
theorem PH:Bf E 93 51 [.tmp 8] PG:=Bl Go.Proofs.Tryz.f93
noncomputable def Dl (a0:(List Str)) (a1:(List Str)):Int→Option (Step (Int) ((Int) ⊕ (Unit))):=fun x8=>(if (decide (x8 < (if (List.length a1:Int) > (List.length a0:Int) then (List.length a1:Int) else (List.length a0:Int))))=true then Option.bind (KE x8) (fun x18=>Option.bind (KE x8) (fun x19=>Option.bind ((if (decide (x8 < (List.length a0:Int)))=true then Option.bind (ixl a0 x8) (fun x22=>some x22) else some x18):Option (Str)) (fun x21=>Option.bind ((if (decide (x8 < (List.length a1:Int)))=true then Option.bind (ixl a1 x8) (fun x25=>some x25) else some x19):Option (Str)) (fun x24=>Option.bind (G5 x21 x24) (fun x26=>(if (x26 != 0)=true then some (Step.done (Sum.inl x26)) else some (Step.next (w64 (x8 + 1))))))))) else some (Step.done (Sum.inr ())))
noncomputable def Di (a0:(List Str)) (a1:(List Str)):Option (Int):=Option.bind (B9 (Dl a0 a1) 0) (fun y=>match y with | Sum.inl x17=>some x17 | Sum.inr _=>some 0)
theorem OB (a0:(List Str)) (a1:(List Str)):Ct E 93 [.fsl 1 (List.map cS a0),.fsl 1 (List.map cS a1),.fn 90 [],.fn 97 []] (Di a0 a1) (fun r:Int=>iv r):=CJ PH (by
 unfold Di
 refine jS ⟨[V 0 (.fsl 1 (List.map cS a0)),V 1 (.fsl 1 (List.map cS a1)),V 2 (.fn 90 []),V 3 (.fn 97 [])],[],0⟩ ?_
 refine Aj (jR (jG 0 6 ⟨[V 0 (.fsl 1 (List.map cS a0)),V 1 (.fsl 1 (List.map cS a1)),V 2 (.fn 90 []),V 3 (.fn 97 []),V 17 (iv (if (List.length (List.map cS a1):Int) > (List.length (List.map cS a0):Int) then (List.length (List.map cS a1):Int) else (List.length (List.map cS a0):Int))),V 18 (iv 0)],[],0⟩ ?_))
 simp only[List.length_map]
 refine jN (A4 ?_)
 refine BB (fun y=>match y with | Sum.inl x17=>⟨[V 8 (iv x17)],[],0⟩ | Sum.inr _=>⟨[],[],0⟩) (fun y=>match y with | Sum.inl x17=>.ret | Sum.inr _=>(.exit 0)) (Cq (fun x8=>⟨[V 0 (.fsl 1 (List.map cS a0)),V 1 (.fsl 1 (List.map cS a1)),V 2 (.fn 90 []),V 3 (.fn 97 []),V 17 (iv (if (List.length a1:Int) > (List.length a0:Int) then (List.length a1:Int) else (List.length a0:Int))),V 18 (iv x8)],[],0⟩) BN ?_) ?_
 ·intro x8
  unfold Dl
  refine jS ⟨[V 0 (.fsl 1 (List.map cS a0)),V 1 (.fsl 1 (List.map cS a1)),V 2 (.fn 90 []),V 3 (.fn 97 []),V 17 (iv (if (List.length a1:Int) > (List.length a0:Int) then (List.length a1:Int) else (List.length a0:Int))),V 18 (iv x8),V 19 (bv (decide (x8 < (if (List.length a1:Int) > (List.length a0:Int) then (List.length a1:Int) else (List.length a0:Int)))))],[],0⟩ ?_
  refine Aj ?_
  refine jIf ?_ ?_
  ·refine Ai (Ab (Aj (A4 (jS ⟨[V 0 (.fsl 1 (List.map cS a0)),V 1 (.fsl 1 (List.map cS a1)),V 2 (.fn 90 []),V 3 (.fn 97 []),V 9 (iv x8),V 17 (iv (if (List.length a1:Int) > (List.length a0:Int) then (List.length a1:Int) else (List.length a0:Int))),V 18 (iv x8)],[],0⟩ ?_))))
   refine jR (jG 0 2 ⟨[V 0 (.fsl 1 (List.map cS a0)),V 1 (.fsl 1 (List.map cS a1)),V 2 (.fn 90 []),V 3 (.fn 97 []),V 9 (iv x8),V 17 (iv (if (List.length a1:Int) > (List.length a0:Int) then (List.length a1:Int) else (List.length a0:Int))),V 18 (iv x8),V 21 (.fn 90 []),V 22 (iv x8)],[],0⟩ ?_)
   refine C9 (i:=2) rfl rfl rfl rfl (g:=90) (caps:=[]) (avs:=[iv x8]) (vs:=[iv x8]) (by kernel_rfl) (by kernel_rfl) rfl (AS rfl (BK _)) (AN (AY _) A2) (Rl x8) (fun _=>rfl) (fun _=>rfl) ?_
   intro x18 h18
   refine jG 3 2 ⟨[V 0 (.fsl 1 (List.map cS a0)),V 1 (.fsl 1 (List.map cS a1)),V 2 (.fn 90 []),V 3 (.fn 97 []),V 9 (iv x8),V 17 (iv (if (List.length a1:Int) > (List.length a0:Int) then (List.length a1:Int) else (List.length a0:Int))),V 18 (iv x8),V 23 (bs x18),V 24 (.fn 90 []),V 25 (iv x8)],[],0⟩ ?_
   refine C9 (i:=5) rfl rfl rfl rfl (g:=90) (caps:=[]) (avs:=[iv x8]) (vs:=[iv x8]) (by kernel_rfl) (by kernel_rfl) rfl (AS rfl (BK _)) (AN (AY _) A2) (Rl x8) (fun _=>rfl) (fun _=>rfl) ?_
   intro x19 h19
   refine jG 6 2 ⟨[V 0 (.fsl 1 (List.map cS a0)),V 1 (.fsl 1 (List.map cS a1)),V 2 (.fn 90 []),V 3 (.fn 97 []),V 9 (iv x8),V 10 (bs x18),V 11 (bs x19),V 17 (iv (if (List.length a1:Int) > (List.length a0:Int) then (List.length a1:Int) else (List.length a0:Int))),V 18 (iv x8)],[],0⟩ ?_
   refine jN (Aj ?_)
   refine BB (fun x21=>⟨[V 0 (.fsl 1 (List.map cS a0)),V 1 (.fsl 1 (List.map cS a1)),V 2 (.fn 90 []),V 3 (.fn 97 []),V 9 (iv x8),V 10 (bs x21),V 11 (bs x19),V 17 (iv (if (List.length a1:Int) > (List.length a0:Int) then (List.length a1:Int) else (List.length a0:Int))),V 18 (iv x8)],[],0⟩) (fun x21=>.normal) ?_ ?_
   ·refine jR (jG 0 4 ⟨[V 0 (.fsl 1 (List.map cS a0)),V 1 (.fsl 1 (List.map cS a1)),V 2 (.fn 90 []),V 3 (.fn 97 []),V 9 (iv x8),V 10 (bs x18),V 11 (bs x19),V 17 (iv (if (List.length a1:Int) > (List.length a0:Int) then (List.length a1:Int) else (List.length a0:Int))),V 18 (iv x8),V 30 (bv (decide (x8 < (List.length (List.map cS a0):Int))))],[],0⟩ ?_)
    simp only[List.length_map]
    refine jN ?_
    refine jIf ?_ ?_
    ·refine CX (jG 0 2 ⟨[V 0 (.fsl 1 (List.map cS a0)),V 1 (.fsl 1 (List.map cS a1)),V 2 (.fn 90 []),V 3 (.fn 97 []),V 9 (iv x8),V 11 (bs x19),V 17 (iv (if (List.length a1:Int) > (List.length a0:Int) then (List.length a1:Int) else (List.length a0:Int))),V 18 (iv x8),V 31 (.fsl 1 (List.map cS a0)),V 32 (iv x8)],[],0⟩ ?_)
     refine A1 (i:=2) (mo:=ixl a0 x8) rfl rfl rfl rfl (fun _ hc=>ES (c:=cS) (sz:=1) (e:=9) (kk:=.i64) (by kernel_rfl) (by kernel_rfl) (by kernel_rfl) (by kernel_rfl) hc) (fun _=>rfl) ?_
     intro x22 h22
     refine jG 3 2 ⟨[V 0 (.fsl 1 (List.map cS a0)),V 1 (.fsl 1 (List.map cS a1)),V 2 (.fn 90 []),V 3 (.fn 97 []),V 9 (iv x8),V 10 (bs x22),V 11 (bs x19),V 17 (iv (if (List.length a1:Int) > (List.length a0:Int) then (List.length a1:Int) else (List.length a0:Int))),V 18 (iv x8)],[],0⟩ ?_
     exact Ad rfl (AT rfl BN)
    exact Ai (AT rfl BN)
   intro x21
   refine Ab (Aj ?_)
   refine BB (fun x24=>⟨[V 0 (.fsl 1 (List.map cS a0)),V 1 (.fsl 1 (List.map cS a1)),V 2 (.fn 90 []),V 3 (.fn 97 []),V 10 (bs x21),V 11 (bs x24),V 17 (iv (if (List.length a1:Int) > (List.length a0:Int) then (List.length a1:Int) else (List.length a0:Int))),V 18 (iv x8)],[],0⟩) (fun x24=>.normal) ?_ ?_
   ·refine jR (jG 0 4 ⟨[V 0 (.fsl 1 (List.map cS a0)),V 1 (.fsl 1 (List.map cS a1)),V 2 (.fn 90 []),V 3 (.fn 97 []),V 9 (iv x8),V 10 (bs x21),V 11 (bs x19),V 17 (iv (if (List.length a1:Int) > (List.length a0:Int) then (List.length a1:Int) else (List.length a0:Int))),V 18 (iv x8),V 38 (bv (decide (x8 < (List.length (List.map cS a1):Int))))],[],0⟩ ?_)
    simp only[List.length_map]
    refine jN ?_
    refine jIf ?_ ?_
    ·refine CX (jG 0 2 ⟨[V 0 (.fsl 1 (List.map cS a0)),V 1 (.fsl 1 (List.map cS a1)),V 2 (.fn 90 []),V 3 (.fn 97 []),V 10 (bs x21),V 17 (iv (if (List.length a1:Int) > (List.length a0:Int) then (List.length a1:Int) else (List.length a0:Int))),V 18 (iv x8),V 39 (.fsl 1 (List.map cS a1)),V 40 (iv x8)],[],0⟩ ?_)
     refine A1 (i:=2) (mo:=ixl a1 x8) rfl rfl rfl rfl (fun _ hc=>ES (c:=cS) (sz:=1) (e:=9) (kk:=.i64) (by kernel_rfl) (by kernel_rfl) (by kernel_rfl) (by kernel_rfl) hc) (fun _=>rfl) ?_
     intro x25 h25
     refine jG 3 2 ⟨[V 0 (.fsl 1 (List.map cS a0)),V 1 (.fsl 1 (List.map cS a1)),V 2 (.fn 90 []),V 3 (.fn 97 []),V 10 (bs x21),V 11 (bs x25),V 17 (iv (if (List.length a1:Int) > (List.length a0:Int) then (List.length a1:Int) else (List.length a0:Int))),V 18 (iv x8)],[],0⟩ ?_
     exact Ad rfl (AT rfl BN)
    exact Ai (AT rfl BN)
   intro x24
   refine Ab (jR (jG 0 3 ⟨[V 0 (.fsl 1 (List.map cS a0)),V 1 (.fsl 1 (List.map cS a1)),V 2 (.fn 90 []),V 3 (.fn 97 []),V 17 (iv (if (List.length a1:Int) > (List.length a0:Int) then (List.length a1:Int) else (List.length a0:Int))),V 18 (iv x8),V 43 (.fn 97 []),V 44 (bs x21),V 45 (bs x24)],[],0⟩ ?_))
   refine C9 (i:=3) rfl rfl rfl rfl (g:=97) (caps:=[]) (avs:=[bs x21,bs x24]) (vs:=[bs x21,bs x24]) (by kernel_rfl) (by kernel_rfl) rfl (AS rfl (AS rfl (BK _))) (AN (AY _) (AN (AY _) A2)) (XK x21 x24) (fun _=>rfl) (fun _=>rfl) ?_
   intro x26 h26
   refine jG 4 1 ⟨[V 0 (.fsl 1 (List.map cS a0)),V 1 (.fsl 1 (List.map cS a1)),V 2 (.fn 90 []),V 3 (.fn 97 []),V 12 (iv x26),V 17 (iv (if (List.length a1:Int) > (List.length a0:Int) then (List.length a1:Int) else (List.length a0:Int))),V 18 (iv x8)],[],0⟩ ?_
   refine jN (jS ⟨[V 0 (.fsl 1 (List.map cS a0)),V 1 (.fsl 1 (List.map cS a1)),V 2 (.fn 90 []),V 3 (.fn 97 []),V 12 (iv x26),V 17 (iv (if (List.length a1:Int) > (List.length a0:Int) then (List.length a1:Int) else (List.length a0:Int))),V 18 (iv x8),V 48 (bv (x26 != 0))],[],0⟩ ?_)
   refine jIf ?_ ?_
   ·refine jS ⟨[V 8 (iv x26)],[],0⟩ ?_
    exact Af (BG (Au (Bc rfl nofun BN)))
   refine Ai (BU (Ab (jT ⟨[V 0 (.fsl 1 (List.map cS a0)),V 1 (.fsl 1 (List.map cS a1)),V 2 (.fn 90 []),V 3 (.fn 97 []),V 17 (iv (if (List.length a1:Int) > (List.length a0:Int) then (List.length a1:Int) else (List.length a0:Int))),V 18 (iv (w64 (x8 + 1)))],[],0⟩ ?_)))
   exact Cs BN
  exact Cd (Ce (Bc rfl nofun BN))
 rintro (x17 | _)
 ·exact BG (Au (BL (iv x17)))
 refine Cr (Ab (jS ⟨[V 8 (iv 0)],[],0⟩ ?_))
 exact Af (BL (iv 0)))
abbrev qD:List LO:=[BW 1 34 0 0,As 2 0 3]
abbrev qE:List LO:=[AA 4 34 1 2 0,AF 5 5 4 5,Br 6 5 5 0 5 4,lm 7 6 4,AL 8 34 1 4 0 7 true,Aa 9 4 8 4 7 true,Ax 10 4 9 4 7 true,AQ 11 7 10 4,lm 12 11 4,AL 13 34 1 6 0 12 true,Aa 14 4 13 4 12 true,AQ 15 12 14 4,AC 3 15 4]
abbrev qF:List LO:=[As 2 0 3]
abbrev qG:List LO:=[AA 17 34 1 2 0,AF 18 5 17 5,Br 19 5 18 0 5 4,AC 16 19 4]
abbrev qH:List LO:=[As 2 4 3]
abbrev qJ:List LO:=[AA 21 34 1 2 0,AF 22 5 21 5,Br 23 5 22 97 5 4,AC 20 23 4]
abbrev qK:List LO:=[As 2 1 3]
abbrev qL:List LO:=[AA 25 34 1 2 0,AF 26 5 25 5,Br 27 5 26 98 5 4,AC 24 27 4]
abbrev qM:List LO:=[As 2 2 3]
abbrev jP:List LO:=[As 2 3 3]
abbrev vU:LC:=.seq (.reg false qD) (.seq (.block 0 (.seq (.reg false qE) (.cond (AE 3) (.seq (.reg false qF) .ret) (.seq (.reg false qG) (.cond (AE 16) (.seq (.reg false qH) .ret) (.seq (.reg false qJ) (.cond (AE 20) (.seq (.reg false qK) .ret) (.seq (.reg false qL) (.cond (AE 24) (.seq (.reg false qM) .ret) .skip))))))))) (.seq (.reg false jP) .ret))
theorem vV:Bf E 95 28 [.tmp 2] vU:=Bl Go.Proofs.Tryz.f95
noncomputable def Lk (a0:Ac):Option (Int):=(if (((a0.Pre == 0) && (!a0.Post)) && a0.Dev)=true then some 0 else (if (a0.Pre == 0)=true then some 4 else (if (a0.Pre == 97)=true then some 1 else (if (a0.Pre == 98)=true then some 2 else some 3))))
theorem WG (a0:Ac):Ct E 95 [.agg (AK a0)] (Lk a0) (fun r:Int=>iv r):=CJ vV (by
 unfold Lk
 refine jS ⟨[V 1 (pt 0 9)],[W 0 9 (AK a0)],1⟩ ?_
 refine Aj (A4 (jS ⟨[V 1 (pt 0 9),V 3 (bv (((a0.Pre == 0) && (!a0.Post)) && a0.Dev))],[W 0 9 (AK a0)],1⟩ ?_))
 refine jIf ?_ ?_
 ·refine jS ⟨[V 2 (iv 0)],[],1⟩ ?_
  exact Af (BG (Au (BL (iv 0))))
 refine jS ⟨[V 1 (pt 0 9),V 16 (bv (a0.Pre == 0))],[W 0 9 (AK a0)],1⟩ ?_
 refine jIf ?_ ?_
 ·refine jS ⟨[V 2 (iv 4)],[],1⟩ ?_
  exact Af (BG (Au (BL (iv 4))))
 refine jS ⟨[V 1 (pt 0 9),V 20 (bv (a0.Pre == 97))],[W 0 9 (AK a0)],1⟩ ?_
 refine jIf ?_ ?_
 ·refine jS ⟨[V 2 (iv 1)],[],1⟩ ?_
  exact Af (BG (Au (BL (iv 1))))
 refine jS ⟨[V 24 (bv (a0.Pre == 98))],[],1⟩ ?_
 refine jIf ?_ ?_
 ·refine jS ⟨[V 2 (iv 2)],[],1⟩ ?_
  exact Af (BG (Au (BL (iv 2))))
 refine Ai (BU (Ab (jS ⟨[V 2 (iv 3)],[],1⟩ ?_)))
 exact Af (BL (iv 3)))
abbrev qO:List LO:=[As 2 0 3]
abbrev qP:List LO:=[lm 3 0 4]
abbrev qQ:List LO:=[As 2 1 3]
abbrev qR:List LO:=[As 2 0 3]
abbrev vW:LC:=.seq (.reg false qO) (.seq (.seq (.reg false qP) (.cond (AE 3) (.seq (.reg false qQ) .ret) .skip)) (.seq (.reg false qR) .ret))
theorem vX:Bf E 96 4 [.tmp 2] vW:=Bl Go.Proofs.Tryz.f96
noncomputable def JZ (a0:Bool):Option (Int):=(if a0=true then some 1 else some 0)
theorem LN (a0:Bool):Ct E 96 [bv a0] (JZ a0) (fun r:Int=>iv r):=CJ vX (by
 unfold JZ
 refine jS ⟨[V 0 (bv a0)],[],0⟩ ?_
 refine Aj (jS ⟨[V 3 (bv a0)],[],0⟩ ?_)
 refine jIf ?_ ?_
 ·refine jS ⟨[V 2 (iv 1)],[],0⟩ ?_
  exact Af (Au (BL (iv 1)))
 refine Ai (Ab (jS ⟨[V 2 (iv 0)],[],0⟩ ?_))
 exact Af (BL (iv 0)))
abbrev pM:List LO:=[BW 2 34 0 0,BW 3 34 1 0,As 4 0 3]
abbrev pN:List LO:=[AF 7 34 2 34,AO 8 88 #[AE 7] #[34] 4,BQ 9 4 8 4,lm 10 9 4,Aa 11 34 3 34 10 false,AI 12 88 #[AE 11] #[34] 4 10 false,Ax 13 4 12 4 10 false,Al 14 10 13 4]
abbrev pO:List LO:=[As 4 0 3]
abbrev pP:List LO:=[Bd 5 (.func 89) 100]
abbrev pQ:List LO:=[Bd 6 (.func 90) 100]
abbrev pR:List LO:=[AA 15 34 2 0 0,AF 16 9 15 9,AA 17 34 3 0 0,AF 18 9 17 9,AO 19 92 #[AE 16,AE 18] #[9,9] 3,AA 20 34 2 1 0,AF 21 32 20 32,AA 22 34 3 1 0,AF 23 32 22 32,lm 24 5 100,AO 25 93 #[AE 21,AE 23,AE 24,.func 92] #[32,32,100,99] 3,AF 26 34 2 34,AO 27 95 #[AE 26] #[34] 3,AF 28 34 3 34,AO 29 95 #[AE 28] #[34] 3,AO 30 94 #[AE 27,AE 29] #[3,3] 3,AA 31 34 2 3 0,AF 32 9 31 9,AA 33 34 3 3 0,AF 34 9 33 9,AO 35 92 #[AE 32,AE 34] #[9,9] 3,AA 36 34 2 4 0,AF 37 4 36 4,AO 38 96 #[AE 37] #[4] 3,AA 39 34 3 4 0,AF 40 4 39 4,AO 41 96 #[AE 40] #[4] 3,lo 42 (.binOp .sub 3 (AE 38) (AE 41) 3) 3,AA 43 34 2 5 0,AF 44 9 43 9,AA 45 34 3 5 0,AF 46 9 45 9,AO 47 92 #[AE 44,AE 46] #[9,9] 3,AA 48 34 3 6 0,AF 49 4 48 4,AO 50 96 #[AE 49] #[4] 3,AA 51 34 2 6 0,AF 52 4 51 4,AO 53 96 #[AE 52] #[4] 3,lo 54 (.binOp .sub 3 (AE 50) (AE 53) 3) 3,AA 55 34 2 7 0,AF 56 9 55 9,AA 57 34 3 7 0,AF 58 9 57 9,AO 59 92 #[AE 56,AE 58] #[9,9] 3,AA 60 34 2 8 0,AF 61 32 60 32,AA 62 34 3 8 0,AF 63 32 62 32,lm 64 6 100,AO 65 93 #[AE 61,AE 63,AE 64,.func 97] #[32,32,100,99] 3,lo 66 (.buildSlice 117 9 #[(0,AE 19),(1,AE 25),(2,AE 30),(3,AE 35),(4,AE 42),(5,AE 47),(6,AE 54),(7,AE 59),(8,AE 65)]) 117,AO 67 91 #[AE 66] #[117] 3,AC 4 67 3]
abbrev vE:LC:=.seq (.reg false pM) (.seq (.seq (.reg false pN) (.cond (AE 14) (.seq (.reg false pO) .ret) .skip)) (.seq (.reg false pP) (.seq (.reg false pQ) (.seq (.reg true pR) .ret))))
theorem vF:Bf E 65 68 [.tmp 4] vE:=Bl Go.Proofs.Tryz.f65
noncomputable def Fw (a0:Ac) (a1:Ac):Option (Int):=Option.bind (TA a0) (fun x1=>Option.bind (if (!x1)=true then some true else Option.bind (TA a1) (fun x4=>some (!x4)):Option (Bool)) (fun x3=>(if x3=true then some 0 else Option.bind (HE a0.Epoch a1.Epoch) (fun x5=>Option.bind (Dj a0.Release a1.Release) (fun x6=>Option.bind (Lk a0) (fun x7=>Option.bind (Lk a1) (fun x8=>Option.bind (Dp x7 x8) (fun x9=>Option.bind (HE a0.PreNum a1.PreNum) (fun x10=>Option.bind (JZ a0.Post) (fun x11=>Option.bind (JZ a1.Post) (fun x12=>Option.bind (HE a0.PostNum a1.PostNum) (fun x13=>Option.bind (JZ a1.Dev) (fun x14=>Option.bind (JZ a0.Dev) (fun x15=>Option.bind (HE a0.DevNum a1.DevNum) (fun x16=>Option.bind (Di a0.Local a1.Local) (fun x17=>Option.bind (JM [x5,x6,x9,x10,(w64 (x11 - x12)),x13,(w64 (x14 - x15)),x16,x17]) (fun x18=>some x18)))))))))))))))))
theorem Hn (a0:Ac) (a1:Ac):Ct E 65 [.agg (AK a0),.agg (AK a1)] (Fw a0 a1) (fun r:Int=>iv r):=CJ vF (by
 unfold Fw
 refine jS ⟨[V 2 (pt 0 9),V 3 (pt 1 9)],[W 0 9 (AK a0),W 1 9 (AK a1)],2⟩ ?_
 refine Aj (jR (jG 0 1 ⟨[V 2 (pt 0 9),V 3 (pt 1 9),V 7 (.agg (AK a0))],[W 0 9 (AK a0),W 1 9 (AK a1)],2⟩ ?_))
 refine jK 1 (dO a0) ?_
 intro x1 h1
 refine jG 2 2 ⟨[V 2 (pt 0 9),V 3 (pt 1 9),V 10 (bv (!x1))],[W 0 9 (AK a0),W 1 9 (AK a1)],2⟩ ?_
 refine A5 4 4 (fun x3=>⟨[V 2 (pt 0 9),V 3 (pt 1 9),V 14 (bv x3)],[W 0 9 (AK a0),W 1 9 (AK a1)],2⟩) ?_ ?_
 ·refine jSp 10 ?_ ?_
  ·refine jG 0 4 ⟨[V 2 (pt 0 9),V 3 (pt 1 9),V 14 (bv true)],[W 0 9 (AK a0),W 1 9 (AK a1)],2⟩ ?_
   exact Ad rfl (AT rfl (wkR [(0,some 0),(1,some 1)] (Ao _) (pc (hC 0) (pc (hC 1) AD))))
  refine jG 0 1 ⟨[V 2 (pt 0 9),V 3 (pt 1 9),(10,.lit false),V 11 (.agg (AK a1))],[W 0 9 (AK a0),W 1 9 (AK a1)],2⟩ ?_
  refine jK 1 (dO a1) ?_
  intro x4 h4
  refine jG 2 2 ⟨[V 2 (pt 0 9),V 3 (pt 1 9),V 14 (bv (!x4))],[W 0 9 (AK a0),W 1 9 (AK a1)],2⟩ ?_
  exact Ad rfl (AT rfl (wkR [(0,some 0),(1,some 1)] (Ao _) (pc (hC 0) (pc (hC 1) AD))))
 intro x3
 refine jN ?_
 refine jIf ?_ ?_
 ·refine jS ⟨[V 4 (iv 0)],[],2⟩ ?_
  exact Af (Au (BL (iv 0)))
 refine Ai (Ab (jS ⟨[V 2 (pt 0 9),V 3 (pt 1 9),V 5 (.fn 89 [])],[W 0 9 (AK a0),W 1 9 (AK a1)],2⟩ ?_))
 refine jS ⟨[V 2 (pt 0 9),V 3 (pt 1 9),V 5 (.fn 89 []),V 6 (.fn 90 [])],[W 0 9 (AK a0),W 1 9 (AK a1)],2⟩ ?_
 refine jR (jG 0 4 ⟨[V 2 (pt 0 9),V 3 (pt 1 9),V 5 (.fn 89 []),V 6 (.fn 90 []),V 16 (bs a0.Epoch),V 18 (bs a1.Epoch)],[W 0 9 (AK a0),W 1 9 (AK a1)],2⟩ ?_)
 refine jK 4 (HX a0.Epoch a1.Epoch) ?_
 intro x5 h5
 refine jG 5 5 ⟨[V 2 (pt 0 9),V 3 (pt 1 9),V 6 (.fn 90 []),V 19 (iv x5),V 21 (.fsl 1 (List.map cS a0.Release)),V 23 (.fsl 1 (List.map cS a1.Release)),V 24 (.fn 89 [])],[W 0 9 (AK a0),W 1 9 (AK a1)],2⟩ ?_
 refine jK 10 (OM a0.Release a1.Release) ?_
 intro x6 h6
 refine jG 11 1 ⟨[V 2 (pt 0 9),V 3 (pt 1 9),V 6 (.fn 90 []),V 19 (iv x5),V 25 (iv x6),V 26 (.agg (AK a0))],[W 0 9 (AK a0),W 1 9 (AK a1)],2⟩ ?_
 refine jK 12 (WG a0) ?_
 intro x7 h7
 refine jG 13 1 ⟨[V 2 (pt 0 9),V 3 (pt 1 9),V 6 (.fn 90 []),V 19 (iv x5),V 25 (iv x6),V 27 (iv x7),V 28 (.agg (AK a1))],[W 0 9 (AK a0),W 1 9 (AK a1)],2⟩ ?_
 refine jK 14 (WG a1) ?_
 intro x8 h8
 refine jK 15 (HN x7 x8) ?_
 intro x9 h9
 refine jG 16 4 ⟨[V 2 (pt 0 9),V 3 (pt 1 9),V 6 (.fn 90 []),V 19 (iv x5),V 25 (iv x6),V 30 (iv x9),V 32 (bs a0.PreNum),V 34 (bs a1.PreNum)],[W 0 9 (AK a0),W 1 9 (AK a1)],2⟩ ?_
 refine jK 20 (HX a0.PreNum a1.PreNum) ?_
 intro x10 h10
 refine jG 21 2 ⟨[V 2 (pt 0 9),V 3 (pt 1 9),V 6 (.fn 90 []),V 19 (iv x5),V 25 (iv x6),V 30 (iv x9),V 35 (iv x10),V 37 (bv a0.Post)],[W 0 9 (AK a0),W 1 9 (AK a1)],2⟩ ?_
 refine jK 23 (LN a0.Post) ?_
 intro x11 h11
 refine jG 24 2 ⟨[V 2 (pt 0 9),V 3 (pt 1 9),V 6 (.fn 90 []),V 19 (iv x5),V 25 (iv x6),V 30 (iv x9),V 35 (iv x10),V 38 (iv x11),V 40 (bv a1.Post)],[W 0 9 (AK a0),W 1 9 (AK a1)],2⟩ ?_
 refine jK 26 (LN a1.Post) ?_
 intro x12 h12
 refine jG 27 5 ⟨[V 2 (pt 0 9),V 3 (pt 1 9),V 6 (.fn 90 []),V 19 (iv x5),V 25 (iv x6),V 30 (iv x9),V 35 (iv x10),V 42 (iv (w64 (x11 - x12))),V 44 (bs a0.PostNum),V 46 (bs a1.PostNum)],[W 0 9 (AK a0),W 1 9 (AK a1)],2⟩ ?_
 refine jK 32 (HX a0.PostNum a1.PostNum) ?_
 intro x13 h13
 refine jG 33 2 ⟨[V 2 (pt 0 9),V 3 (pt 1 9),V 6 (.fn 90 []),V 19 (iv x5),V 25 (iv x6),V 30 (iv x9),V 35 (iv x10),V 42 (iv (w64 (x11 - x12))),V 47 (iv x13),V 49 (bv a1.Dev)],[W 0 9 (AK a0),W 1 9 (AK a1)],2⟩ ?_
 refine jK 35 (LN a1.Dev) ?_
 intro x14 h14
 refine jG 36 2 ⟨[V 2 (pt 0 9),V 3 (pt 1 9),V 6 (.fn 90 []),V 19 (iv x5),V 25 (iv x6),V 30 (iv x9),V 35 (iv x10),V 42 (iv (w64 (x11 - x12))),V 47 (iv x13),V 50 (iv x14),V 52 (bv a0.Dev)],[W 0 9 (AK a0),W 1 9 (AK a1)],2⟩ ?_
 refine jK 38 (LN a0.Dev) ?_
 intro x15 h15
 refine jG 39 5 ⟨[V 2 (pt 0 9),V 3 (pt 1 9),V 6 (.fn 90 []),V 19 (iv x5),V 25 (iv x6),V 30 (iv x9),V 35 (iv x10),V 42 (iv (w64 (x11 - x12))),V 47 (iv x13),V 54 (iv (w64 (x14 - x15))),V 56 (bs a0.DevNum),V 58 (bs a1.DevNum)],[W 0 9 (AK a0),W 1 9 (AK a1)],2⟩ ?_
 refine jK 44 (HX a0.DevNum a1.DevNum) ?_
 intro x16 h16
 refine jG 45 5 ⟨[V 19 (iv x5),V 25 (iv x6),V 30 (iv x9),V 35 (iv x10),V 42 (iv (w64 (x11 - x12))),V 47 (iv x13),V 54 (iv (w64 (x14 - x15))),V 59 (iv x16),V 61 (.fsl 1 (List.map cS a0.Local)),V 63 (.fsl 1 (List.map cS a1.Local)),V 64 (.fn 90 [])],[],2⟩ ?_
 refine jK 50 (OB a0.Local a1.Local) ?_
 intro x17 h17
 refine jG 51 1 ⟨[V 66 (.fsl 1 (List.map cI [x5,x6,x9,x10,(w64 (x11 - x12)),x13,(w64 (x14 - x15)),x16,x17]))],[],2⟩ ?_
 refine jK 52 (UE [x5,x6,x9,x10,(w64 (x11 - x12)),x13,(w64 (x14 - x15)),x16,x17]) ?_
 intro x18 h18
 refine jG 53 1 ⟨[V 4 (iv x18)],[],2⟩ ?_
 exact jN (Af (BL (iv x18))))
abbrev KJ:List LO:=[AF 5 44 1 44,AO 6 38 #[AE 5] #[44] 0]
abbrev KK:List LO:=[AF 7 44 1 44,AH 8 7 0,AA 9 46 8 1 0,AF 10 3 9 3,AF 11 44 1 44,AH 12 11 0,AA 13 46 12 0 0,AF 14 9 13 9,Ak 15 #[AE 14] #[9] 3,CV 16 3 10 15 3 4]
abbrev KL:List LO:=[As 3 0 3]
abbrev KM:List LO:=[AF 17 44 1 44,AO 18 19 #[AE 17] #[44] 4]
abbrev KN:List LO:=[AF 21 44 1 44,AO 22 38 #[AE 21] #[44] 0]
abbrev KO:List LO:=[lm 23 3 3,Ar 24 3 23 32 3 4,lm 25 24 4,Aa 26 44 1 44 25 true,Aq 27 26 0 25 true,AL 28 46 27 1 0 25 true,Aa 29 3 28 3 25 true,Aa 30 44 1 44 25 true,Aq 31 30 0 25 true,AL 32 46 31 0 0 25 true,Aa 33 9 32 9 25 true,BE 34 #[AE 33] #[9] 3 25 true,lg 35 (.binOp .lss 3 (AE 29) (AE 34) 3) 4 25 true,AQ 36 25 35 4]
abbrev KP:List LO:=[AF 37 44 1 44,AF 38 44 1 44,AH 39 38 0,AA 40 46 39 1 0,AF 41 3 40 3,AO 42 39 #[AE 37,.const (.int .i64 12),AE 41] #[44,23,3] 0]
abbrev KQ:List LO:=[AF 43 44 1 44,AO 44 40 #[AE 43] #[44] 9,lo 45 (.build 39 #[(0,AE 44)]) 39,A9 4 39 0,AM 39 4 45 0]
abbrev KR:List LO:=[AF 46 44 1 44,AO 47 19 #[AE 46] #[44] 4,BQ 48 4 47 4]
abbrev Jb:List LO:=[AF 50 44 1 44,AA 51 39 4 0 0,AF 52 9 51 9,AO 53 41 #[AE 50,AE 52] #[44,9] 58,lm 49 53 58,Am 54 49 0 9,Am 55 49 1 4,AA 56 39 4 1 0,AM 9 56 54 0,AA 57 39 4 2 0,AM 4 57 55 0]
abbrev Jc:List LO:=[AF 58 44 1 44,AO 59 19 #[AE 58] #[44] 4,BQ 60 4 59 4,lm 61 60 4,lmg 62 0 62 61 false,Aa 63 39 4 39 61 false,lg 64 (.call ⟨.value (AE 62),#[AE 63],#[39]⟩) 4 61 false,Ax 65 4 64 4 61 false,Al 66 61 65 4]
abbrev Jd:List LO:=[AF 67 44 1 44,AO 68 38 #[AE 67] #[44] 0]
abbrev Je:List LO:=[AF 69 44 1 44,AH 70 69 0,AA 71 46 70 1 0,AF 72 3 71 3,AF 73 44 1 44,AH 74 73 0,AA 75 46 74 0 0,AF 76 9 75 9,Ak 77 #[AE 76] #[9] 3,CV 78 3 72 77 3 4]
abbrev Jf:List LO:=[AF 79 44 1 44,AO 80 42 #[AE 79,.const (.int .u8 44)] #[44,5] 4,BQ 81 4 80 4]
abbrev Jg:List LO:=[AF 82 44 1 44,AO 83 43 #[AE 82] #[44] 0]
abbrev Jh:List LO:=[AF 84 44 1 44,AH 85 84 0,AA 86 46 85 1 0,AF 87 3 86 3,Ag 88 3 87 1 3 3,AH 89 84 0,AA 90 46 89 1 0,AM 3 90 88 0]
abbrev Ji:List LO:=[lm 19 3 3,Ag 20 3 19 1 3 3,AC 3 20 3]
abbrev Ku:LC:=.seq (.reg false KJ) (.seq (.seq (.reg true KK) (.cond (AE 16) .ret .skip)) (.seq (.reg false KL) (.block 0 (.loop (.seq (.seq (.reg false KM) (.cond (AE 18) .skip (.exit 0))) (.seq (.block 1 (.seq (.reg false KN) (.seq (.seq (.reg true KO) (.cond (AE 36) (.seq (.reg true KP) .ret) .skip)) (.seq (.reg false KQ) (.seq (.seq (.reg false KR) (.cond (AE 48) .ret .skip)) (.seq (.reg false Jb) (.seq (.seq (.reg false Jc) (.cond (AE 66) .ret .skip)) (.seq (.reg false Jd) (.seq (.seq (.reg true Je) (.cond (AE 78) .ret .skip)) (.seq (.seq (.reg false Jf) (.cond (AE 81) (.seq (.reg false Jg) .ret) .skip)) (.reg false Jh))))))))))) (.reg false Ji)))))))
theorem Kv:Bf E 37 91 [] Ku:=Bl Go.Proofs.Tryz.f37
abbrev MP:List LO:=[Ae 2 4]
abbrev MQ:List LO:=[lm 3 0 44,AH 4 3 0,AA 5 46 4 2 0,AA 6 25 5 0 0,AF 7 23 6 23,Ar 8 23 7 0 23 4,AC 2 8 4]
abbrev NZ:LC:=.seq (.reg false MP) (.seq (.reg false MQ) .ret)
theorem Na:Bf E 19 9 [.tmp 2] NZ:=Bl Go.Proofs.Tryz.f19
noncomputable def BZ (a0:Str) (a1:Int) (a2:Int) (a3:Int):Option (Bool):=some (a2 == 0)
theorem Cj (a0:Str) (a1:Int) (a2:Int) (a3:Int):Ct E 19 [.fptr [bs a0,iv a1,iv a2,iv a3] 0] (BZ a0 a1 a2 a3) (fun r:Bool=>bv r):=CJ Na (by
 unfold BZ
 refine jS ⟨[V 0 (.fptr [bs a0,iv a1,iv a2,iv a3] 0)],[],0⟩ ?_
 refine jS ⟨[V 2 (bv (a2 == 0))],[],0⟩ ?_
 exact Af (BL (bv (a2 == 0))))
abbrev Oa:List LO:=[lm 2 0 44,lm 3 0 44,AH 4 3 0,AA 5 46 4 0 0,AF 6 9 5 9,lm 7 0 44,AH 8 7 0,AA 9 46 8 1 0,AF 10 3 9 3,AO 11 69 #[AE 6,AE 10,.const (.int .i64 6)] #[9,3,3] 3,AH 12 2 0,AA 13 46 12 1 0,AM 3 13 11 0]
abbrev Hu:LC:=.reg true Oa
theorem PS:Bf E 38 14 [] Hu:=Bl Go.Proofs.Tryz.f38
abbrev PR (a0:Str) (a1:Int) (a2:Int) (a3:Int) (r:Int):CS:=⟨[],[W 0 4 [bs a0,iv r,iv a2,iv a3]],1⟩
noncomputable def CK (a0:Str) (a1:Int) (a2:Int) (a3:Int):Option (Int):=Option.bind (Du a0 a1 6) (fun x3=>some x3)
theorem Dn (a0:Str) (a1:Int) (a2:Int) (a3:Int):CtM E 38 [pt 0 4] [W 0 4 [bs a0,iv a1,iv a2,iv a3]] 1 (CK a0 a1 a2 a3) (fun r:Int=>.tup []) (fun r:Int=>[W 0 4 [bs a0,iv r,iv a2,iv a3]]) 1:=B5 (N:=14) (L:=Hu) PS rfl (Nat.le_of_ble_eq_true rfl) (fun F hF=>by
 unfold CK
 refine CX (jG 0 9 ⟨[V 2 (pt 0 4),V 6 (bs a0),V 10 (iv a1)],[W 0 4 [bs a0,iv a1,iv a2,iv a3]],1⟩ ?_)
 refine jK 9 (E2 a0 a1 6) ?_
 intro x3 h3
 refine jG 10 3 ⟨[],[W 0 4 [bs a0,iv x3,iv a2,iv a3]],1⟩ ?_
 exact Ad rfl (BX (PR a0 a1 a2 a3 x3) (.inl rfl) (wkR [(0,some 0)] (Ap hF (k:=1) rfl) (pc (hC 0) AD))))
abbrev Qg:List LO:=[lm 6 0 44,AO 7 19 #[AE 6] #[44] 4]
abbrev Qh:List LO:=[lm 8 0 44,lm 9 1 23,lm 10 2 3,lo 11 (.build 25 #[(0,AE 9),(1,AE 10)]) 25,AH 12 8 0,AA 13 46 12 2 0,AM 25 13 11 0]
abbrev KT:LC:=.seq (.reg false Qg) (.cond (AE 7) (.reg false Qh) .skip)
theorem SJ:Bf E 39 14 [] KT:=Bl Go.Proofs.Tryz.f39
abbrev KS (a0:Str) (a1:Int) (a2:Int) (a3:Int) (a4:Int) (a5:Int) (r:Int × Int):CS:=⟨[],[W 0 4 [bs a0,iv a1,iv r.1,iv r.2]],1⟩
noncomputable def Bs (a0:Str) (a1:Int) (a2:Int) (a3:Int) (a4:Int) (a5:Int):Option (Int × Int):=Option.bind (BZ a0 a1 a2 a3) (fun x4=>(if x4=true then some (a4,a5) else some (a2,a3)))
theorem C1 (a0:Str) (a1:Int) (a2:Int) (a3:Int) (a4:Int) (a5:Int):CtM E 39 [pt 0 4,iv a4,iv a5] [W 0 4 [bs a0,iv a1,iv a2,iv a3]] 1 (Bs a0 a1 a2 a3 a4 a5) (fun r:Int × Int=>.tup []) (fun r:Int × Int=>[W 0 4 [bs a0,iv a1,iv r.1,iv r.2]]) 1:=B5 (N:=14) (L:=KT) SJ rfl (Nat.le_of_ble_eq_true rfl) (fun F hF=>by
 unfold Bs
 refine jR (jG 0 1 ⟨[V 0 (pt 0 4),V 1 (iv a4),V 2 (iv a5),V 6 (pt 0 4)],[W 0 4 [bs a0,iv a1,iv a2,iv a3]],1⟩ ?_)
 refine By (i:=1) rfl rfl rfl rfl (vs:=[pt 0 4]) (vs0:=[.fptr [bs a0,iv a1,iv a2,iv a3] 0]) (b:=true) (by kernel_rfl) (by kernel_rfl) (AN (AY _) A2) (Cj a0 a1 a2 a3) (fun _=>rfl) (fun _=>rfl) ?_
 intro x4 h4
 refine jN ?_
 refine jIf ?_ ?_
 ·refine jT ⟨[],[W 0 4 [bs a0,iv a1,iv a4,iv a5]],1⟩ ?_
  exact BX (KS a0 a1 a2 a3 a4 a5 (a4,a5)) (.inl rfl) (wkR [(0,some 0)] (Ap hF (k:=1) rfl) (pc (hC 0) AD))
 exact Ai (BX (KS a0 a1 a2 a3 a4 a5 (a2,a3)) (.inl rfl) (wkR [(0,some 0)] (Ap hF (k:=1) rfl) (pc (hC 0) AD))))
abbrev MN:List LO:=[Ae 4 4]
abbrev MO:List LO:=[lm 5 0 44,AH 6 5 0,AA 7 46 6 1 0,AF 8 3 7 3,lm 9 0 44,AH 10 9 0,AA 11 46 10 0 0,AF 12 9 11 9,Ak 13 #[AE 12] #[9] 3,An 14 3 8 13 3 4,lm 15 14 4,lmg 16 0 44 15 true,Aq 17 16 0 15 true,AL 18 46 17 0 0 15 true,Aa 19 9 18 9 15 true,lmg 20 0 44 15 true,Aq 21 20 0 15 true,AL 22 46 21 1 0 15 true,Aa 23 3 22 3 15 true,BP 24 9 19 23 5 15 true,lmg 25 1 5 15 true,BT 26 5 24 25 5 4 15 true,AQ 27 15 26 4,AC 4 27 4]
abbrev NX:LC:=.seq (.reg false MN) (.seq (.reg true MO) .ret)
theorem NY:Bf E 42 28 [.tmp 4] NX:=Bl Go.Proofs.Tryz.f42
noncomputable def Bt (a0:Str) (a1:Int) (a2:Int) (a3:Int) (a4:Int):Option (Bool):=Option.bind (if (decide (a1 < (List.length a0:Int)))=true then Option.bind (idx a0 a1) (fun x3=>some (x3 == a4)) else some false:Option (Bool)) (fun x2=>some x2)
theorem Ci (a0:Str) (a1:Int) (a2:Int) (a3:Int) (a4:Int):Ct E 42 [.fptr [bs a0,iv a1,iv a2,iv a3] 0,.s (.int .u8 a4)] (Bt a0 a1 a2 a3 a4) (fun r:Bool=>bv r):=CJ NY (by
 unfold Bt
 refine jS ⟨[V 0 (.fptr [bs a0,iv a1,iv a2,iv a3] 0),V 1 (.s (.int .u8 a4))],[],0⟩ ?_
 refine jR (jG 0 11 ⟨[V 0 (.fptr [bs a0,iv a1,iv a2,iv a3] 0),V 1 (.s (.int .u8 a4)),V 15 (bv (decide (a1 < (List.length a0:Int))))],[],0⟩ ?_)
 refine A5 11 12 (fun x2=>⟨[V 27 (bv x2)],[],0⟩) ?_ ?_
 ·refine jSp 15 ?_ ?_
  ·refine jG 0 8 ⟨[V 1 (.s (.int .u8 a4)),(15,.lit true),V 19 (bs a0),V 23 (iv a1)],[],0⟩ ?_
   refine A1 (i:=8) (mo:=idx a0 a1) rfl rfl rfl rfl (fun _ hc=>Bo (kk:=.i64) (by kernel_rfl) (by kernel_rfl) (by kernel_rfl) hc) (fun _=>rfl) ?_
   intro x3 h3
   refine jG 9 3 ⟨[V 27 (bv (x3 == a4))],[],0⟩ ?_
   exact Ad rfl (AT rfl BN)
  refine jG 0 12 ⟨[V 27 (bv false)],[],0⟩ ?_
  exact Ad rfl (AT rfl BN)
 intro x2
 refine jG 23 1 ⟨[V 4 (bv x2)],[],0⟩ ?_
 exact jN (Af (BL (bv x2))))
abbrev PT:List LO:=[lm 2 0 44,AH 3 2 0,AA 4 46 3 1 0,AF 5 3 4 3,lm 6 0 44,AH 7 6 0,AA 8 46 7 0 0,AF 9 9 8 9,Ak 10 #[AE 9] #[9] 3,CV 11 3 5 10 3 4]
abbrev PU:List LO:=[lm 12 0 44,lm 13 0 44,AH 14 13 0,AA 15 46 14 0 0,AF 16 9 15 9,Ak 17 #[AE 16] #[9] 3,AO 18 39 #[AE 12,.const (.int .i64 11),AE 17] #[44,23,3] 0]
abbrev PV:List LO:=[lm 19 0 44,lm 20 0 44,AH 21 20 0,AA 22 46 21 1 0,AF 23 3 22 3,AO 24 39 #[AE 19,.const (.int .i64 10),AE 23] #[44,23,3] 0]
abbrev JG:LC:=.seq (.reg true PT) (.cond (AE 11) (.reg false PU) (.reg false PV))
theorem Qi:Bf E 43 25 [] JG:=Bl Go.Proofs.Tryz.f43
abbrev JF (a0:Str) (a1:Int) (a2:Int) (a3:Int) (r:Int × Int):CS:=⟨[],[W 0 4 [bs a0,iv a1,iv r.1,iv r.2]],1⟩
noncomputable def Co (a0:Str) (a1:Int) (a2:Int) (a3:Int):Option (Int × Int):=(if (decide (a1≥(List.length a0:Int)))=true then Option.bind (Bs a0 a1 a2 a3 11 (List.length a0:Int)) (fun (x7,x8)=>some (x7,x8)) else Option.bind (Bs a0 a1 a2 a3 10 a1) (fun (x9,x10)=>some (x9,x10)))
theorem FD (a0:Str) (a1:Int) (a2:Int) (a3:Int):CtM E 43 [pt 0 4] [W 0 4 [bs a0,iv a1,iv a2,iv a3]] 1 (Co a0 a1 a2 a3) (fun r:Int × Int=>.tup []) (fun r:Int × Int=>[W 0 4 [bs a0,iv a1,iv r.1,iv r.2]]) 1:=B5 (N:=25) (L:=JG) Qi rfl (Nat.le_of_ble_eq_true rfl) (fun F hF=>by
 unfold Co
 refine jS ⟨[V 0 (pt 0 4),V 11 (bv (decide (a1≥(List.length a0:Int))))],[W 0 4 [bs a0,iv a1,iv a2,iv a3]],1⟩ ?_
 refine jIf ?_ ?_
 ·refine CX (jG 0 6 ⟨[V 12 (pt 0 4),V 17 (iv (List.length a0:Int))],[W 0 4 [bs a0,iv a1,iv a2,iv a3]],1⟩ ?_)
  refine A8 6 [(0,some 0)] [(0,some 0)] (fun r:Int × Int=>[W 0 4 [bs a0,iv a1,iv r.1,iv r.2]]) (fun r:Int × Int=>.tup []) 1 (C1 a0 a1 a2 a3 11 (List.length a0:Int)) (pc (hC 0) AD) (fun r=>(pc (.inr (hC 0)) AD)) ?_
  rintro⟨x7,x8⟩ hm3
  exact Ad rfl (BX (JF a0 a1 a2 a3 (x7,x8)) (.inl rfl) (wkR [(0,some 0)] (Ap hF (k:=1) rfl) (pc (hC 0) AD)))
 refine CX (jG 0 5 ⟨[V 19 (pt 0 4),V 23 (iv a1)],[W 0 4 [bs a0,iv a1,iv a2,iv a3]],1⟩ ?_)
 refine A8 5 [(0,some 0)] [(0,some 0)] (fun r:Int × Int=>[W 0 4 [bs a0,iv a1,iv r.1,iv r.2]]) (fun r:Int × Int=>.tup []) 1 (C1 a0 a1 a2 a3 10 a1) (pc (hC 0) AD) (fun r=>(pc (.inr (hC 0)) AD)) ?_
 rintro⟨x9,x10⟩ hm4
 exact Ad rfl (BX (JF a0 a1 a2 a3 (x9,x10)) (.inl rfl) (wkR [(0,some 0)] (Ap hF (k:=1) rfl) (pc (hC 0) AD))))
abbrev MS:List LO:=[BA 2 #[] 9]
abbrev MT:List LO:=[lm 6 0 44,AH 7 6 0,AA 8 46 7 0 0,AF 9 9 8 9,lm 10 0 44,AH 11 10 0,AA 12 46 11 1 0,AF 13 3 12 3,lo 14 (.buildSlice 32 8 #[(0,.const (.string ⟨#[126,61]⟩)),(1,.const (.string ⟨#[61,61]⟩)),(2,.const (.string ⟨#[33,61]⟩)),(3,.const (.string ⟨#[60,61]⟩)),(4,.const (.string ⟨#[62,61]⟩)),(5,.const (.string ⟨#[60]⟩)),(6,.const (.string ⟨#[62]⟩)),(7,.const (.string ⟨#[61,61,61]⟩))]) 32,AO 15 70 #[AE 9,AE 13,AE 14] #[9,3,32] 58,lm 5 15 58,Am 16 5 0 9,Am 17 5 1 4,AC 3 16 9,AC 4 17 4]
abbrev MU:List LO:=[lm 18 4 4,BQ 19 4 18 4]
abbrev MV:List LO:=[lm 20 0 44,AO 21 42 #[AE 20,.const (.int .u8 126)] #[44,5] 4,lm 22 21 4,lmg 23 0 44 22 false,AI 24 42 #[AE 23,.const (.int .u8 33)] #[44,5] 4 22 false,Al 25 22 24 4,lm 26 25 4,lmg 27 0 44 26 false,AI 28 42 #[AE 27,.const (.int .u8 61)] #[44,5] 4 26 false,Al 29 26 28 4]
abbrev MW:List LO:=[lm 30 0 44,AH 31 30 0,AA 32 46 31 1 0,AF 33 3 32 3,Ag 34 3 33 1 3 3,AH 35 30 0,AA 36 46 35 1 0,AM 3 36 34 0]
abbrev MX:List LO:=[lm 37 0 44,AO 38 43 #[AE 37] #[44] 0]
abbrev MY:List LO:=[lm 39 0 44,AH 40 39 0,AA 41 46 40 1 0,AF 42 3 41 3,lm 43 3 9,Ak 44 #[AE 43] #[9] 3,Ba 45 3 42 44 3 3,AH 46 39 0,AA 47 46 46 1 0,AM 3 47 45 0]
abbrev MZ:List LO:=[lm 48 3 9,AC 2 48 9]
abbrev HC:LC:=.seq (.reg false MS) (.seq (.reg true MT) (.seq (.seq (.reg false MU) (.cond (AE 19) (.seq (.seq (.reg false MV) (.cond (AE 29) (.reg false MW) .skip)) (.reg false MX)) .skip)) (.seq (.reg false MY) (.seq (.reg false MZ) .ret))))
theorem Nd:Bf E 40 49 [.tmp 2] HC:=Bl Go.Proofs.Tryz.f40
abbrev Nb (a0:Str) (a1:Int) (a2:Int) (a3:Int) (r:Str × Int × Int × Int):CS:=⟨[V 2 (bs r.1)],[W 0 4 [bs a0,iv r.2.1,iv r.2.2.1,iv r.2.2.2]],1⟩
noncomputable def DO (a0:Str) (a1:Int) (a2:Int) (a3:Int):Option (Str × Int × Int × Int):=Option.bind (Gw a0 a1 ([[126,61],[61,61],[33,61],[60,61],[62,61],[60],[62],[61,61,61]])) (fun x17=>Option.bind ((if (!x17.2)=true then Option.bind (Option.bind (Bt a0 a1 a2 a3 126) (fun x35=>Option.bind (if x35=true then some true else Option.bind (Bt a0 a1 a2 a3 33) (fun x38=>some x38):Option (Bool)) (fun x37=>Option.bind (if x37=true then some true else Option.bind (Bt a0 a1 a2 a3 61) (fun x41=>some x41):Option (Bool)) (fun x40=>(if x40=true then some (w64 (a1 + 1)) else some a1)))):Option (Int)) (fun x34=>Option.bind (Co a0 x34 a2 a3) (fun (x42,x43)=>some (x34,x42,x43))) else some (a1,a2,a3)):Option (Int × Int × Int)) (fun (x26,x27,x28)=>some (x17.1,(w64 (x26 + (List.length x17.1:Int))),x27,x28)))
theorem MR (a0:Str) (a1:Int) (a2:Int) (a3:Int):CtM E 40 [pt 0 4] [W 0 4 [bs a0,iv a1,iv a2,iv a3]] 1 (DO a0 a1 a2 a3) (fun r:Str × Int × Int × Int=>bs r.1) (fun r:Str × Int × Int × Int=>[W 0 4 [bs a0,iv r.2.1,iv r.2.2.1,iv r.2.2.2]]) 1:=B5 (N:=49) (L:=HC) Nd rfl (Nat.le_of_ble_eq_true rfl) (fun F hF=>by
 unfold DO
 refine jS ⟨[V 0 (pt 0 4)],[W 0 4 [bs a0,iv a1,iv a2,iv a3]],1⟩ ?_
 refine jR (jG 0 9 ⟨[V 0 (pt 0 4),V 9 (bs a0),V 13 (iv a1),V 14 (.fsl 1 (List.map cS ([[126,61],[61,61],[33,61],[60,61],[62,61],[60],[62],[61,61,61]])))],[W 0 4 [bs a0,iv a1,iv a2,iv a3]],1⟩ ?_)
 refine jK 9 (P8 a0 a1 ([[126,61],[61,61],[33,61],[60,61],[62,61],[60],[62],[61,61,61]])) ?_
 intro x17 h17
 refine jG 10 5 ⟨[V 0 (pt 0 4),V 3 (bs x17.1),V 4 (bv x17.2)],[W 0 4 [bs a0,iv a1,iv a2,iv a3]],1⟩ ?_
 refine jN (Aj ?_)
 refine BB (fun (x26,x27,x28)=>⟨[V 0 (pt 0 4),V 3 (bs x17.1)],[W 0 4 [bs a0,iv x26,iv x27,iv x28]],1⟩) (fun (x26,x27,x28)=>.normal) ?_ ?_
 ·refine jS ⟨[V 0 (pt 0 4),V 3 (bs x17.1),V 19 (bv (!x17.2))],[W 0 4 [bs a0,iv a1,iv a2,iv a3]],1⟩ ?_
  refine jIf ?_ ?_
  ·refine Aj ?_
   refine BB (fun x34=>⟨[V 0 (pt 0 4),V 3 (bs x17.1)],[W 0 4 [bs a0,iv x34,iv a2,iv a3]],1⟩) (fun x34=>.normal) ?_ ?_
   ·refine jR (jG 0 1 ⟨[V 0 (pt 0 4),V 3 (bs x17.1),V 20 (pt 0 4)],[W 0 4 [bs a0,iv a1,iv a2,iv a3]],1⟩ ?_)
    refine By (i:=1) rfl rfl rfl rfl (vs:=[pt 0 4,.s (.int .u8 126)]) (vs0:=[.fptr [bs a0,iv a1,iv a2,iv a3] 0,.s (.int .u8 126)]) (b:=true) (by kernel_rfl) (by kernel_rfl) (AN (AY _) (AN (AY _) A2)) (Ci a0 a1 a2 a3 126) (fun _=>rfl) (fun _=>rfl) ?_
    intro x35 h35
    refine jG 2 1 ⟨[V 0 (pt 0 4),V 3 (bs x17.1),V 22 (bv x35)],[W 0 4 [bs a0,iv a1,iv a2,iv a3]],1⟩ ?_
    refine A5 3 3 (fun x37=>⟨[V 0 (pt 0 4),V 3 (bs x17.1),V 25 (bv x37)],[W 0 4 [bs a0,iv a1,iv a2,iv a3]],1⟩) ?_ ?_
    ·refine jSp 22 ?_ ?_
     ·refine jG 0 3 ⟨[V 0 (pt 0 4),V 3 (bs x17.1),V 25 (bv true)],[W 0 4 [bs a0,iv a1,iv a2,iv a3]],1⟩ ?_
      exact Ad rfl (AT rfl (wkR [(0,some 0)] (Ap hF (k:=1) rfl) (pc (hC 0) AD)))
     refine jG 0 1 ⟨[V 0 (pt 0 4),V 3 (bs x17.1),(22,.lit false),V 23 (pt 0 4)],[W 0 4 [bs a0,iv a1,iv a2,iv a3]],1⟩ ?_
     refine By (i:=1) rfl rfl rfl rfl (vs:=[pt 0 4,.s (.int .u8 33)]) (vs0:=[.fptr [bs a0,iv a1,iv a2,iv a3] 0,.s (.int .u8 33)]) (b:=true) (by kernel_rfl) (by kernel_rfl) (AN (AY _) (AN (AY _) A2)) (Ci a0 a1 a2 a3 33) (fun _=>rfl) (fun _=>rfl) ?_
     intro x38 h38
     refine jG 2 1 ⟨[V 0 (pt 0 4),V 3 (bs x17.1),V 25 (bv x38)],[W 0 4 [bs a0,iv a1,iv a2,iv a3]],1⟩ ?_
     exact Ad rfl (AT rfl (wkR [(0,some 0)] (Ap hF (k:=1) rfl) (pc (hC 0) AD)))
    intro x37
    refine jG 6 1 ⟨[V 0 (pt 0 4),V 3 (bs x17.1),V 26 (bv x37)],[W 0 4 [bs a0,iv a1,iv a2,iv a3]],1⟩ ?_
    refine A5 7 3 (fun x40=>⟨[V 0 (pt 0 4),V 3 (bs x17.1),V 29 (bv x40)],[W 0 4 [bs a0,iv a1,iv a2,iv a3]],1⟩) ?_ ?_
    ·refine jSp 26 ?_ ?_
     ·refine jG 0 3 ⟨[V 0 (pt 0 4),V 3 (bs x17.1),V 29 (bv true)],[W 0 4 [bs a0,iv a1,iv a2,iv a3]],1⟩ ?_
      exact Ad rfl (AT rfl (wkR [(0,some 0)] (Ap hF (k:=1) rfl) (pc (hC 0) AD)))
     refine jG 0 1 ⟨[V 0 (pt 0 4),V 3 (bs x17.1),(26,.lit false),V 27 (pt 0 4)],[W 0 4 [bs a0,iv a1,iv a2,iv a3]],1⟩ ?_
     refine By (i:=1) rfl rfl rfl rfl (vs:=[pt 0 4,.s (.int .u8 61)]) (vs0:=[.fptr [bs a0,iv a1,iv a2,iv a3] 0,.s (.int .u8 61)]) (b:=true) (by kernel_rfl) (by kernel_rfl) (AN (AY _) (AN (AY _) A2)) (Ci a0 a1 a2 a3 61) (fun _=>rfl) (fun _=>rfl) ?_
     intro x41 h41
     refine jG 2 1 ⟨[V 0 (pt 0 4),V 3 (bs x17.1),V 29 (bv x41)],[W 0 4 [bs a0,iv a1,iv a2,iv a3]],1⟩ ?_
     exact Ad rfl (AT rfl (wkR [(0,some 0)] (Ap hF (k:=1) rfl) (pc (hC 0) AD)))
    intro x40
    refine jN ?_
    refine jIf ?_ ?_
    ·refine jT ⟨[V 0 (pt 0 4),V 3 (bs x17.1)],[W 0 4 [bs a0,iv (w64 (a1 + 1)),iv a2,iv a3]],1⟩ ?_
     exact AT rfl (wkR [(0,some 0)] (Ap hF (k:=1) rfl) (pc (hC 0) AD))
    exact Ai (AT rfl (wkR [(0,some 0)] (Ap hF (k:=1) rfl) (pc (hC 0) AD)))
   intro x34
   refine Ab (CX (jG 0 1 ⟨[V 0 (pt 0 4),V 3 (bs x17.1),V 37 (pt 0 4)],[W 0 4 [bs a0,iv x34,iv a2,iv a3]],1⟩ ?_))
   refine A8 1 [(0,some 0)] [(0,some 0)] (fun r:Int × Int=>[W 0 4 [bs a0,iv x34,iv r.1,iv r.2]]) (fun r:Int × Int=>.tup []) 1 (FD a0 x34 a2 a3) (pc (hC 0) AD) (fun r=>(pc (.inr (hC 0)) AD)) ?_
   rintro⟨x42,x43⟩ hm3
   exact Ad rfl (AT rfl (wkR [(0,some 0)] (Ap hF (k:=1) rfl) (pc (hC 0) AD)))
  exact Ai (AT rfl (wkR [(0,some 0)] (Ap hF (k:=1) rfl) (pc (hC 0) AD)))
 rintro⟨x26,x27,x28⟩
 refine Ab (jS ⟨[V 3 (bs x17.1)],[W 0 4 [bs a0,iv (w64 (x26 + (List.length x17.1:Int))),iv x27,iv x28]],1⟩ ?_)
 refine jS ⟨[V 2 (bs x17.1)],[W 0 4 [bs a0,iv (w64 (x26 + (List.length x17.1:Int))),iv x27,iv x28]],1⟩ ?_
 exact Af (BX (Nb a0 a1 a2 a3 (x17.1,(w64 (x26 + (List.length x17.1:Int))),x27,x28)) (.inr rfl) (wkR [(0,some 0)] (Ap hF (k:=1) rfl) (pc (hC 0) AD))))
abbrev Nn:List LO:=[Ae 4 4]
abbrev No:List LO:=[lm 5 0 9,Ak 6 #[AE 5] #[9] 3,lm 7 1 9,Ak 8 #[AE 7] #[9] 3,CV 9 3 6 8 3 4,lm 10 9 4,lmg 11 0 9 10 true,lmg 12 0 9 10 true,BE 13 #[AE 12] #[9] 3 10 true,lmg 14 1 9 10 true,BE 15 #[AE 14] #[9] 3 10 true,lg 16 (.binOp .sub 3 (AE 13) (AE 15) 3) 3 10 true,lg 17 (.slice 9 (AE 11) (some (AE 16)) none none) 9 10 true,lmg 18 1 9 10 true,BT 19 9 17 18 9 4 10 true,AQ 20 10 19 4,AC 4 20 4]
abbrev Oo:LC:=.seq (.reg false Nn) (.seq (.reg false No) .ret)
theorem Oq:Bf E 100 21 [.tmp 4] Oo:=Bl Go.Proofs.Tryz.f100
noncomputable def EG (a0:Str) (a1:Str):Option (Bool):=Option.bind (if (decide ((List.length a0:Int)≥(List.length a1:Int)))=true then Option.bind (EI a0 (w64 ((List.length a0:Int) - (List.length a1:Int))) (List.length a0:Int)) (fun x3=>some (x3 == a1)) else some false:Option (Bool)) (fun x2=>some x2)
theorem Nm (a0:Str) (a1:Str):Ct E 100 [bs a0,bs a1] (EG a0 a1) (fun r:Bool=>bv r):=CJ Oq (by
 unfold EG
 refine jS ⟨[V 0 (bs a0),V 1 (bs a1)],[],0⟩ ?_
 refine jR (jG 0 6 ⟨[V 0 (bs a0),V 1 (bs a1),V 10 (bv (decide ((List.length a0:Int)≥(List.length a1:Int))))],[],0⟩ ?_)
 refine A5 6 10 (fun x2=>⟨[V 20 (bv x2)],[],0⟩) ?_ ?_
 ·refine jSp 10 ?_ ?_
  ·refine jG 0 6 ⟨[V 1 (bs a1),(10,.lit true),V 11 (bs a0),V 16 (iv (w64 ((List.length a0:Int) - (List.length a1:Int))))],[],0⟩ ?_
   refine A1 (i:=6) (mo:=EI a0 (w64 ((List.length a0:Int) - (List.length a1:Int))) (List.length a0:Int)) rfl rfl rfl rfl (fun _ hc=>FR (by kernel_rfl) (by kernel_rfl) (by kernel_rfl) (by kernel_rfl) hc) (fun _=>rfl) ?_
   intro x3 h3
   refine jG 7 3 ⟨[V 20 (bv (x3 == a1))],[],0⟩ ?_
   exact Ad rfl (AT rfl BN)
  refine jG 0 10 ⟨[V 20 (bv false)],[],0⟩ ?_
  exact Ad rfl (AT rfl BN)
 intro x2
 refine jG 16 1 ⟨[V 4 (bv x2)],[],0⟩ ?_
 exact jN (Af (BL (bv x2))))
abbrev So:List LO:=[Ae 4 4]
abbrev Sp:List LO:=[lm 5 0 9,lm 6 1 9,AO 7 100 #[AE 5,AE 6] #[9,9] 4,AC 4 7 4]
abbrev T8:LC:=.seq (.reg false So) (.seq (.reg false Sp) .ret)
theorem T9:Bf E 72 8 [.tmp 4] T8:=Bl Go.Proofs.Tryz.f72
noncomputable def Ea (a0:Str) (a1:Str):Option (Bool):=Option.bind (EG a0 a1) (fun x1=>some x1)
theorem Sn (a0:Str) (a1:Str):Ct E 72 [bs a0,bs a1] (Ea a0 a1) (fun r:Bool=>bv r):=CJ T9 (by
 unfold Ea
 refine jS ⟨[V 0 (bs a0),V 1 (bs a1)],[],0⟩ ?_
 refine jR (jG 0 2 ⟨[V 5 (bs a0),V 6 (bs a1)],[],0⟩ ?_)
 refine jK 2 (Nm a0 a1) ?_
 intro x1 h1
 refine jG 3 1 ⟨[V 4 (bv x1)],[],0⟩ ?_
 exact jN (Af (BL (bv x1))))
abbrev Xt:List LO:=[BW 1 34 0 0,Ae 2 4]
abbrev Xu:List LO:=[AA 3 34 1 2 0,AF 4 5 3 5,Br 5 5 4 0 5 4,lm 6 5 4,AL 7 34 1 4 0 6 true,Aa 8 4 7 4 6 true,Ax 9 4 8 4 6 true,AQ 10 6 9 4,lm 11 10 4,AL 12 34 1 6 0 11 true,Aa 13 4 12 4 11 true,Ax 14 4 13 4 11 true,AQ 15 11 14 4,lm 16 15 4,AL 17 34 1 8 0 16 true,Aa 18 32 17 32 16 true,BE 19 #[AE 18] #[32] 3 16 true,DJ 20 3 19 0 3 4 16 true,AQ 21 16 20 4,AC 2 21 4]
abbrev ZY:LC:=.seq (.reg false Xt) (.seq (.reg false Xu) .ret)
theorem ZZ:Bf E 73 22 [.tmp 2] ZY:=Bl Go.Proofs.Tryz.f73
noncomputable def HB (a0:Ac):Option (Bool):=some ((((a0.Pre == 0) && (!a0.Post)) && (!a0.Dev)) && ((List.length a0.Local:Int) == 0))
theorem Xs (a0:Ac):Ct E 73 [.agg (AK a0)] (HB a0) (fun r:Bool=>bv r):=CJ ZZ (by
 unfold HB
 refine jS ⟨[V 1 (pt 0 9)],[W 0 9 (AK a0)],1⟩ ?_
 refine jR (jG 0 20 ⟨[V 2 (bv ((((a0.Pre == 0) && (!a0.Post)) && (!a0.Dev)) && ((List.length (List.map cS a0.Local):Int) == 0)))],[],1⟩ ?_)
 simp only[List.length_map]
 exact jN (Af (BL (bv ((((a0.Pre == 0) && (!a0.Post)) && (!a0.Dev)) && ((List.length a0.Local:Int) == 0))))))
abbrev Qk:List LO:=[BA 4 #[] 9,Ae 5 4]
abbrev Ql:List LO:=[lm 12 0 44,AO 13 38 #[AE 12] #[44] 0]
abbrev Qm:List LO:=[lm 14 0 44,AH 15 14 0,AA 16 46 15 1 0,AF 17 3 16 3,AC 6 17 3]
abbrev Qn:List LO:=[lm 18 0 44,AH 19 18 0,AA 20 46 19 1 0,AF 21 3 20 3,lm 22 0 44,AH 23 22 0,AA 24 46 23 0 0,AF 25 9 24 9,Ak 26 #[AE 25] #[9] 3,An 27 3 21 26 3 4,lm 28 27 4,lmg 29 0 44 28 true,Aq 30 29 0 28 true,AL 31 46 30 0 0 28 true,Aa 32 9 31 9 28 true,lmg 33 0 44 28 true,Aq 34 33 0 28 true,AL 35 46 34 1 0 28 true,Aa 36 3 35 3 28 true,BP 37 9 32 36 5 28 true,AI 38 71 #[AE 37,.const (.int .i64 6)] #[5,3] 4 28 true,Ax 39 4 38 4 28 true,AQ 40 28 39 4,lm 41 40 4,lmg 42 0 44 41 true,AI 43 42 #[AE 42,.const (.int .u8 44)] #[44,5] 4 41 true,Ax 44 4 43 4 41 true,AQ 45 41 44 4]
abbrev Qo:List LO:=[lm 46 0 44,AH 47 46 0,AA 48 46 47 1 0,AF 49 3 48 3,Ag 50 3 49 1 3 3,AH 51 46 0,AA 52 46 51 1 0,AM 3 52 50 0]
abbrev Qp:List LO:=[lm 53 0 44,AH 54 53 0,AA 55 46 54 0 0,AF 56 9 55 9,lm 57 6 3,lm 58 0 44,AH 59 58 0,AA 60 46 59 1 0,AF 61 3 60 3,lo 62 (.slice 9 (AE 56) (some (AE 57)) (some (AE 61)) none) 9,AC 7 62 9]
abbrev Qq:List LO:=[lm 63 7 9,BJ 64 9 63 #[] 9 4]
abbrev Qr:List LO:=[lm 65 0 44,AO 66 43 #[AE 65] #[44] 0]
abbrev Qs:List LO:=[BA 4 #[] 9,Ae 5 4]
abbrev PW:List LO:=[lm 67 1 9,BJ 68 9 67 #[61,61,61] 9 4]
abbrev PX:List LO:=[lm 69 7 9,Ak 70 #[AE 69] #[9] 3,B7 71 0 3]
abbrev PY:List LO:=[An 72 3 71 70 3 4]
abbrev PZ:List LO:=[lm 73 71 3,AC 8 73 3]
abbrev Pa:List LO:=[lm 74 7 9,lm 75 8 3,lo 76 (.index 9 (AE 74) (AE 75)) 5,lo 77 (.binOp .lss 5 (AE 76) (.const (.int .u8 33)) 5) 4,lm 78 77 4,lmg 79 7 9 78 false,lmg 80 8 3 78 false,BP 81 9 79 80 5 78 false,lg 82 (.binOp .gtr 5 (AE 81) (.const (.int .u8 126)) 5) 4 78 false,Al 83 78 82 4]
abbrev Pb:List LO:=[lm 84 0 44,lm 85 6 3,lm 86 8 3,Ba 87 3 85 86 3 3,AO 88 39 #[AE 84,.const (.int .i64 10),AE 87] #[44,23,3] 0]
abbrev Pc:List LO:=[Ag 89 3 71 1 3 3,lm 71 89 3]
abbrev Pd:List LO:=[lm 90 7 9,AC 4 90 9,Ae 5 4]
abbrev Pe:List LO:=[lm 91 7 9,AO 92 72 #[AE 91,.const (.string ⟨#[46,42]⟩)] #[9,9] 4,lm 93 92 4,lmg 94 1 9 93 true,lg 95 (.binOp .eql 9 (AE 94) (.const (.string ⟨#[61,61]⟩)) 9) 4 93 true,lmg 96 95 4 93 true,lmg 97 1 9 96 false,lg 98 (.binOp .eql 9 (AE 97) (.const (.string ⟨#[33,61]⟩)) 9) 4 96 false,FS 99 96 98 4 93 true,AQ 100 93 99 4,AC 9 100 4]
abbrev Pf:List LO:=[lm 101 9 4]
abbrev Pg:List LO:=[lm 102 7 9,lm 103 7 9,Ak 104 #[AE 103] #[9] 3,lo 105 (.binOp .sub 3 (AE 104) (.const (.int .i64 2)) 3) 3,lo 106 (.slice 9 (AE 102) none (some (AE 105)) none) 9,AC 7 106 9]
abbrev Ph:List LO:=[lm 108 7 9,AO 109 31 #[AE 108] #[9] 35,lm 107 109 35,Am 110 107 0 34,Am 111 107 1 25,A9 10 34 0,A9 11 25 0,AM 34 10 110 0,AM 25 11 111 0]
abbrev Pi:List LO:=[AA 113 25 11 0 0,AF 114 23 113 23,BM 115 23 114 0 23 4,AC 112 115 4]
abbrev Pj:List LO:=[lm 116 0 44,AA 117 25 11 0 0,AF 118 23 117 23,lm 119 6 3,AA 120 25 11 1 0,AF 121 3 120 3,Ba 122 3 119 121 3 3,AO 123 39 #[AE 116,AE 118,AE 122] #[44,23,3] 0]
abbrev Pk:List LO:=[lm 125 9 4,lm 126 125 4,Aa 127 34 10 34 126 true,AI 128 73 #[AE 127] #[34] 4 126 true,Ax 129 4 128 4 126 true,AQ 130 126 129 4,AC 124 130 4]
abbrev Pm:List LO:=[lm 131 1 9,BJ 132 9 131 #[126,61] 9 4,lm 133 132 4,AL 134 34 10 1 0 133 true,Aa 135 32 134 32 133 true,BE 136 #[AE 135] #[32] 3 133 true,lg 137 (.binOp .lss 3 (AE 136) (.const (.int .i64 2)) 3) 4 133 true,AQ 138 133 137 4,AC 124 138 4]
abbrev Pn:List LO:=[lm 139 1 9,El 140 9 139 #[61,61] 9 4,lm 141 140 4,lmg 142 1 9 141 true,lg 143 (.binOp .neq 9 (AE 142) (.const (.string ⟨#[33,61]⟩)) 9) 4 141 true,AQ 144 141 143 4,lm 145 144 4,AL 146 34 10 8 0 145 true,Aa 147 32 146 32 145 true,BE 148 #[AE 147] #[32] 3 145 true,lg 149 (.binOp .gtr 3 (AE 148) (.const (.int .i64 0)) 3) 4 145 true,AQ 150 145 149 4,AC 124 150 4]
abbrev Po:List LO:=[lm 151 0 44,lm 152 6 3,AO 153 39 #[AE 151,.const (.int .i64 19),AE 152] #[44,23,3] 0]
abbrev Pp:List LO:=[lm 154 7 9,lm 155 9 4,AC 4 154 9,AC 5 155 4]
abbrev KU:LC:=.seq (.reg false Qk) (.seq (.reg false Ql) (.seq (.reg false Qm) (.seq (.block 0 (.loop (.seq (.seq (.reg true Qn) (.cond (AE 45) .skip (.exit 0))) (.block 1 (.reg false Qo))))) (.seq (.reg true Qp) (.seq (.seq (.reg false Qq) (.cond (AE 64) (.seq (.reg false Qr) (.seq (.reg false Qs) .ret)) .skip)) (.seq (.seq (.reg false PW) (.cond (AE 68) (.seq (.seq (.reg false PX) (.block 2 (.loop (.seq (.reg false PY) (.seq (.cond (AE 72) .skip (.exit 2)) (.seq (.block 3 (.seq (.reg false PZ) (.seq (.reg false Pa) (.cond (AE 83) (.reg false Pb) .skip)))) (.reg false Pc))))))) (.seq (.reg false Pd) .ret)) .skip)) (.seq (.reg false Pe) (.seq (.seq (.reg false Pf) (.cond (AE 101) (.reg false Pg) .skip)) (.seq (.reg false Ph) (.seq (.block 4 (.seq (.reg false Pi) (.cond (AE 112) (.reg false Pj) (.seq (.seq (.reg false Pk) (.cond (AE 124) .skip (.seq (.reg false Pm) (.cond (AE 124) .skip (.reg false Pn))))) (.cond (AE 124) (.reg false Po) .skip))))) (.seq (.reg false Pp) .ret)))))))))))
theorem SK:Bf E 41 156 [.tmp 4,.tmp 5] KU:=Bl Go.Proofs.Tryz.f41
noncomputable def DW (a0:Str) (a2:Int) (a3:Int):Int→Option (Step (Int) (Int)):=fun x64=>Option.bind (if (decide (x64 < (List.length a0:Int)))=true then Option.bind (idx a0 x64) (fun x75=>Option.bind (Eo x75 6) (fun x76=>some (!x76))) else some false:Option (Bool)) (fun x74=>Option.bind (if x74=true then Option.bind (Bt a0 x64 a2 a3 44) (fun x79=>some (!x79)) else some false:Option (Bool)) (fun x78=>(if x78=true then some (Step.next (w64 (x64 + 1))) else some (Step.done x64))))
noncomputable def DX (a0:Str) (x58:Int) (x71:Int) (x80:Str):(Int × Int × Int)→Option (Step (Int × Int × Int) (Int × Int)):=fun (x90,x91,x92)=>(if (decide (x92 < (List.length x80:Int)))=true then Option.bind (Option.bind (idx x80 x92) (fun x112=>Option.bind (if (decide (x112 < 33))=true then some true else Option.bind (idx x80 x92) (fun x115=>some (decide (x115 > 126))):Option (Bool)) (fun x114=>(if x114=true then Option.bind (Bs a0 x71 x90 x91 10 (w64 (x58 + x92))) (fun (x116,x117)=>some (x116,x117)) else some (x90,x91)))):Option (Int × Int)) (fun (x110,x111)=>some (Step.next (x110,x111,(w64 (x92 + 1))))) else some (Step.done (x90,x91)))
abbrev Gd (a0:Str) (a1:Int) (a2:Int) (a3:Int) (a4:Str) (r:Str × Bool × Int × Int × Int):CS:=⟨[V 4 (bs r.1),V 5 (bv r.2.1)],[W 0 4 [bs a0,iv r.2.2.1,iv r.2.2.2.1,iv r.2.2.2.2]],1⟩
noncomputable def D8 (a0:Str) (a1:Int) (a2:Int) (a3:Int) (a4:Str):Option (Str × Bool × Int × Int × Int):=Option.bind (CK a0 a1 a2 a3) (fun x58=>Option.bind (B9 (DW a0 a2 a3) x58) (fun x71=>Option.bind (EI a0 x58 x71) (fun x80=>(if (x80 == [])=true then Option.bind (Co a0 x71 a2 a3) (fun (x81,x82)=>some ([],false,x71,x81,x82)) else (if (a4 == [61,61,61])=true then Option.bind (B9 (DX a0 x58 x71 x80) (a2,a3,0)) (fun (x103,x104)=>some (x80,false,x71,x103,x104)) else Option.bind (Ea x80 [46,42]) (fun x118=>Option.bind ((if (x118 && ((a4 == [61,61]) || (a4 == [33,61])))=true then Option.bind (EI x80 0 (w64 ((List.length x80:Int) - 2))) (fun x121=>some x121) else some x80):Option (Str)) (fun x120=>Option.bind (Gr x120) (fun x122=>Option.bind ((if (x122.2.Err != 0)=true then Option.bind (Bs a0 x71 a2 a3 x122.2.Err (w64 (x58 + x122.2.At))) (fun (x132,x133)=>some (x132,x133)) else Option.bind (Option.bind (if (x118 && ((a4 == [61,61]) || (a4 == [33,61])))=true then Option.bind (HB (Ac.mk x122.1.Epoch x122.1.Release x122.1.Pre x122.1.PreNum x122.1.Post x122.1.PostNum x122.1.Dev x122.1.DevNum x122.1.Local)) (fun x139=>some (!x139)) else some false:Option (Bool)) (fun x138=>(if x138=true then some true else (if ((a4 == [126,61]) && (decide ((List.length x122.1.Release:Int) < 2)))=true then some true else some (((!(a4 == [61,61])) && (!(a4 == [33,61]))) && (decide ((List.length x122.1.Local:Int) > 0)))))):Option (Bool)) (fun x136=>(if x136=true then Option.bind (Bs a0 x71 a2 a3 19 x58) (fun (x140,x141)=>some (x140,x141)) else some (a2,a3)))):Option (Int × Int)) (fun (x130,x131)=>some (x120,(x118 && ((a4 == [61,61]) || (a4 == [33,61]))),x71,x130,x131))))))))))
theorem Qj (a0:Str) (a1:Int) (a2:Int) (a3:Int) (a4:Str):CtM E 41 [pt 0 4,bs a4] [W 0 4 [bs a0,iv a1,iv a2,iv a3]] 1 (D8 a0 a1 a2 a3 a4) (fun r:Str × Bool × Int × Int × Int=>.tup [bs r.1,bv r.2.1]) (fun r:Str × Bool × Int × Int × Int=>[W 0 4 [bs a0,iv r.2.2.1,iv r.2.2.2.1,iv r.2.2.2.2]]) 1:=B5 (N:=156) (L:=KU) SK rfl (Nat.le_of_ble_eq_true rfl) (fun F hF=>by
 unfold D8
 refine jS ⟨[V 0 (pt 0 4),V 1 (bs a4)],[W 0 4 [bs a0,iv a1,iv a2,iv a3]],1⟩ ?_
 refine jR (jG 0 1 ⟨[V 0 (pt 0 4),V 1 (bs a4),V 12 (pt 0 4)],[W 0 4 [bs a0,iv a1,iv a2,iv a3]],1⟩ ?_)
 refine A8 1 [(0,some 0)] [(0,some 0)] (fun r:Int=>[W 0 4 [bs a0,iv r,iv a2,iv a3]]) (fun r:Int=>.tup []) 1 (Dn a0 a1 a2 a3) (pc (hC 0) AD) (fun r=>(pc (.inr (hC 0)) AD)) ?_
 rintro x58 hm16
 refine jN (jS ⟨[V 0 (pt 0 4),V 1 (bs a4),V 6 (iv x58)],[W 0 4 [bs a0,iv x58,iv a2,iv a3]],1⟩ ?_)
 refine Aj (A4 ?_)
 refine BB (fun x71=>⟨[V 0 (pt 0 4),V 1 (bs a4),V 6 (iv x58)],[W 0 4 [bs a0,iv x71,iv a2,iv a3]],1⟩) (fun x71=>(.exit 0)) (Cq (fun x64=>⟨[V 0 (pt 0 4),V 1 (bs a4),V 6 (iv x58)],[W 0 4 [bs a0,iv x64,iv a2,iv a3]],1⟩) (wkR [(0,some 0)] (Ap hF (k:=1) rfl) (pc (hC 0) AD)) ?_) ?_
 ·intro x64
  unfold DW
  refine Aj (jR (jG 0 11 ⟨[V 0 (pt 0 4),V 1 (bs a4),V 6 (iv x58),V 28 (bv (decide (x64 < (List.length a0:Int))))],[W 0 4 [bs a0,iv x64,iv a2,iv a3]],1⟩ ?_))
  refine A5 11 12 (fun x74=>⟨[V 0 (pt 0 4),V 1 (bs a4),V 6 (iv x58),V 40 (bv x74)],[W 0 4 [bs a0,iv x64,iv a2,iv a3]],1⟩) ?_ ?_
  ·refine jSp 28 ?_ ?_
   ·refine jG 0 8 ⟨[V 0 (pt 0 4),V 1 (bs a4),V 6 (iv x58),(28,.lit true),V 32 (bs a0),V 36 (iv x64)],[W 0 4 [bs a0,iv x64,iv a2,iv a3]],1⟩ ?_
    refine A1 (i:=8) (mo:=idx a0 x64) rfl rfl rfl rfl (fun _ hc=>Bo (kk:=.i64) (by kernel_rfl) (by kernel_rfl) (by kernel_rfl) hc) (fun _=>rfl) ?_
    intro x75 h75
    refine jK 9 (Gi x75 6) ?_
    intro x76 h76
    refine jG 10 2 ⟨[V 0 (pt 0 4),V 1 (bs a4),V 6 (iv x58),V 40 (bv (!x76))],[W 0 4 [bs a0,iv x64,iv a2,iv a3]],1⟩ ?_
    exact Ad rfl (AT rfl (wkR [(0,some 0)] (Ap hF (k:=1) rfl) (pc (hC 0) AD)))
   refine jG 0 12 ⟨[V 0 (pt 0 4),V 1 (bs a4),V 6 (iv x58),V 40 (bv false)],[W 0 4 [bs a0,iv x64,iv a2,iv a3]],1⟩ ?_
   exact Ad rfl (AT rfl (wkR [(0,some 0)] (Ap hF (k:=1) rfl) (pc (hC 0) AD)))
  intro x74
  refine jG 23 1 ⟨[V 0 (pt 0 4),V 1 (bs a4),V 6 (iv x58),V 41 (bv x74)],[W 0 4 [bs a0,iv x64,iv a2,iv a3]],1⟩ ?_
  refine A5 24 4 (fun x78=>⟨[V 0 (pt 0 4),V 1 (bs a4),V 6 (iv x58),V 45 (bv x78)],[W 0 4 [bs a0,iv x64,iv a2,iv a3]],1⟩) ?_ ?_
  ·refine jSp 41 ?_ ?_
   ·refine jG 0 1 ⟨[V 0 (pt 0 4),V 1 (bs a4),V 6 (iv x58),(41,.lit true),V 42 (pt 0 4)],[W 0 4 [bs a0,iv x64,iv a2,iv a3]],1⟩ ?_
    refine By (i:=1) rfl rfl rfl rfl (vs:=[pt 0 4,.s (.int .u8 44)]) (vs0:=[.fptr [bs a0,iv x64,iv a2,iv a3] 0,.s (.int .u8 44)]) (b:=true) (by kernel_rfl) (by kernel_rfl) (AN (AY _) (AN (AY _) A2)) (Ci a0 x64 a2 a3 44) (fun _=>rfl) (fun _=>rfl) ?_
    intro x79 h79
    refine jG 2 2 ⟨[V 0 (pt 0 4),V 1 (bs a4),V 6 (iv x58),V 45 (bv (!x79))],[W 0 4 [bs a0,iv x64,iv a2,iv a3]],1⟩ ?_
    exact Ad rfl (AT rfl (wkR [(0,some 0)] (Ap hF (k:=1) rfl) (pc (hC 0) AD)))
   refine jG 0 4 ⟨[V 0 (pt 0 4),V 1 (bs a4),V 6 (iv x58),V 45 (bv false)],[W 0 4 [bs a0,iv x64,iv a2,iv a3]],1⟩ ?_
   exact Ad rfl (AT rfl (wkR [(0,some 0)] (Ap hF (k:=1) rfl) (pc (hC 0) AD)))
  intro x78
  refine jN ?_
  refine jIf ?_ ?_
  ·refine Ai (Ab (A4 (jT ⟨[V 0 (pt 0 4),V 1 (bs a4),V 6 (iv x58)],[W 0 4 [bs a0,iv (w64 (x64 + 1)),iv a2,iv a3]],1⟩ ?_)))
   exact BU (Cs (wkR [(0,some 0)] (Ap hF (k:=1) rfl) (pc (hC 0) AD)))
  exact Cd (Ce (Bc rfl nofun (wkR [(0,some 0)] (Ap hF (k:=1) rfl) (pc (hC 0) AD))))
 intro x71
 refine Cr (Ab (jR (jG 0 9 ⟨[V 0 (pt 0 4),V 1 (bs a4),V 6 (iv x58),V 56 (bs a0),V 57 (iv x58),V 61 (iv x71)],[W 0 4 [bs a0,iv x71,iv a2,iv a3]],1⟩ ?_)))
 refine A1 (i:=9) (mo:=EI a0 x58 x71) rfl rfl rfl rfl (fun _ hc=>FR (by kernel_rfl) (by kernel_rfl) (by kernel_rfl) (by kernel_rfl) hc) (fun _=>rfl) ?_
 intro x80 h80
 refine jG 10 1 ⟨[V 0 (pt 0 4),V 1 (bs a4),V 6 (iv x58),V 7 (bs x80)],[W 0 4 [bs a0,iv x71,iv a2,iv a3]],1⟩ ?_
 refine jN (Aj (jS ⟨[V 0 (pt 0 4),V 1 (bs a4),V 6 (iv x58),V 7 (bs x80),V 64 (bv (x80 == []))],[W 0 4 [bs a0,iv x71,iv a2,iv a3]],1⟩ ?_))
 refine jIf ?_ ?_
 ·refine jR (jG 0 1 ⟨[V 65 (pt 0 4)],[W 0 4 [bs a0,iv x71,iv a2,iv a3]],1⟩ ?_)
  refine A8 1 [(0,some 0)] [(0,some 0)] (fun r:Int × Int=>[W 0 4 [bs a0,iv x71,iv r.1,iv r.2]]) (fun r:Int × Int=>.tup []) 1 (FD a0 x71 a2 a3) (pc (hC 0) AD) (fun r=>(pc (.inr (hC 0)) AD)) ?_
  rintro⟨x81,x82⟩ hm7
  refine jN (jS ⟨[V 4 (bs []),V 5 (bv false)],[W 0 4 [bs a0,iv x71,iv x81,iv x82]],1⟩ ?_)
  exact Af (Au (BX (Gd a0 a1 a2 a3 a4 ([],false,x71,x81,x82)) (.inr rfl) (wkR [(0,some 0)] (Ap hF (k:=1) rfl) (pc (hC 0) AD))))
 refine Ai (Ab (Aj (jS ⟨[V 0 (pt 0 4),V 1 (bs a4),V 6 (iv x58),V 7 (bs x80),V 68 (bv (a4 == [61,61,61]))],[W 0 4 [bs a0,iv x71,iv a2,iv a3]],1⟩ ?_)))
 refine jIf ?_ ?_
 ·refine Aj (jS ⟨[V 0 (pt 0 4),V 6 (iv x58),V 7 (bs x80),V 70 (iv (List.length x80:Int)),V 71 (iv 0)],[W 0 4 [bs a0,iv x71,iv a2,iv a3]],1⟩ ?_)
  refine A4 ?_
  refine BB (fun (x103,x104)=>⟨[V 7 (bs x80)],[W 0 4 [bs a0,iv x71,iv x103,iv x104]],1⟩) (fun (x103,x104)=>(.exit 2)) (Cq (fun (x90,x91,x92)=>⟨[V 0 (pt 0 4),V 6 (iv x58),V 7 (bs x80),V 70 (iv (List.length x80:Int)),V 71 (iv x92)],[W 0 4 [bs a0,iv x71,iv x90,iv x91]],1⟩) (wkR [(0,some 0)] (Ap hF (k:=1) rfl) (pc (hC 0) AD)) ?_) ?_
  ·rintro⟨x90,x91,x92⟩
   unfold DX
   refine jS ⟨[V 0 (pt 0 4),V 6 (iv x58),V 7 (bs x80),V 70 (iv (List.length x80:Int)),V 71 (iv x92),V 72 (bv (decide (x92 < (List.length x80:Int))))],[W 0 4 [bs a0,iv x71,iv x90,iv x91]],1⟩ ?_
   refine Aj ?_
   refine jIf ?_ ?_
   ·refine Ai (Ab (Aj ?_))
    refine BB (fun (x110,x111)=>⟨[V 0 (pt 0 4),V 6 (iv x58),V 7 (bs x80),V 70 (iv (List.length x80:Int)),V 71 (iv x92)],[W 0 4 [bs a0,iv x71,iv x110,iv x111]],1⟩) (fun (x110,x111)=>.normal) ?_ ?_
    ·refine A4 (jS ⟨[V 0 (pt 0 4),V 6 (iv x58),V 7 (bs x80),V 8 (iv x92),V 70 (iv (List.length x80:Int)),V 71 (iv x92)],[W 0 4 [bs a0,iv x71,iv x90,iv x91]],1⟩ ?_)
     refine jR (jG 0 2 ⟨[V 0 (pt 0 4),V 6 (iv x58),V 7 (bs x80),V 8 (iv x92),V 70 (iv (List.length x80:Int)),V 71 (iv x92),V 74 (bs x80),V 75 (iv x92)],[W 0 4 [bs a0,iv x71,iv x90,iv x91]],1⟩ ?_)
     refine A1 (i:=2) (mo:=idx x80 x92) rfl rfl rfl rfl (fun _ hc=>Bo (kk:=.i64) (by kernel_rfl) (by kernel_rfl) (by kernel_rfl) hc) (fun _=>rfl) ?_
     intro x112 h112
     refine jG 3 2 ⟨[V 0 (pt 0 4),V 6 (iv x58),V 7 (bs x80),V 8 (iv x92),V 70 (iv (List.length x80:Int)),V 71 (iv x92),V 78 (bv (decide (x112 < 33)))],[W 0 4 [bs a0,iv x71,iv x90,iv x91]],1⟩ ?_
     refine A5 5 5 (fun x114=>⟨[V 0 (pt 0 4),V 6 (iv x58),V 7 (bs x80),V 8 (iv x92),V 70 (iv (List.length x80:Int)),V 71 (iv x92),V 83 (bv x114)],[W 0 4 [bs a0,iv x71,iv x90,iv x91]],1⟩) ?_ ?_
     ·refine jSp 78 ?_ ?_
      ·refine jG 0 5 ⟨[V 0 (pt 0 4),V 6 (iv x58),V 7 (bs x80),V 8 (iv x92),V 70 (iv (List.length x80:Int)),V 71 (iv x92),V 83 (bv true)],[W 0 4 [bs a0,iv x71,iv x90,iv x91]],1⟩ ?_
       exact Ad rfl (AT rfl (wkR [(0,some 0)] (Ap hF (k:=1) rfl) (pc (hC 0) AD)))
      refine jG 0 2 ⟨[V 0 (pt 0 4),V 6 (iv x58),V 7 (bs x80),V 8 (iv x92),V 70 (iv (List.length x80:Int)),V 71 (iv x92),(78,.lit false),V 79 (bs x80),V 80 (iv x92)],[W 0 4 [bs a0,iv x71,iv x90,iv x91]],1⟩ ?_
      refine A1 (i:=2) (mo:=idx x80 x92) rfl rfl rfl rfl (fun _ hc=>Bo (kk:=.i64) (by kernel_rfl) (by kernel_rfl) (by kernel_rfl) hc) (fun _=>rfl) ?_
      intro x115 h115
      refine jG 3 2 ⟨[V 0 (pt 0 4),V 6 (iv x58),V 7 (bs x80),V 8 (iv x92),V 70 (iv (List.length x80:Int)),V 71 (iv x92),V 83 (bv (decide (x115 > 126)))],[W 0 4 [bs a0,iv x71,iv x90,iv x91]],1⟩ ?_
      exact Ad rfl (AT rfl (wkR [(0,some 0)] (Ap hF (k:=1) rfl) (pc (hC 0) AD)))
     intro x114
     refine jN ?_
     refine jIf ?_ ?_
     ·refine CX (jG 0 4 ⟨[V 0 (pt 0 4),V 6 (iv x58),V 7 (bs x80),V 70 (iv (List.length x80:Int)),V 71 (iv x92),V 84 (pt 0 4),V 87 (iv (w64 (x58 + x92)))],[W 0 4 [bs a0,iv x71,iv x90,iv x91]],1⟩ ?_)
      refine A8 4 [(0,some 0)] [(0,some 0)] (fun r:Int × Int=>[W 0 4 [bs a0,iv x71,iv r.1,iv r.2]]) (fun r:Int × Int=>.tup []) 1 (C1 a0 x71 x90 x91 10 (w64 (x58 + x92))) (pc (hC 0) AD) (fun r=>(pc (.inr (hC 0)) AD)) ?_
      rintro⟨x116,x117⟩ hm11
      exact Ad rfl (BU (AT rfl (wkR [(0,some 0)] (Ap hF (k:=1) rfl) (pc (hC 0) AD))))
     exact Ai (BU (AT rfl (wkR [(0,some 0)] (Ap hF (k:=1) rfl) (pc (hC 0) AD))))
    rintro⟨x110,x111⟩
    refine Ab (jT ⟨[V 0 (pt 0 4),V 6 (iv x58),V 7 (bs x80),V 70 (iv (List.length x80:Int)),V 71 (iv (w64 (x92 + 1)))],[W 0 4 [bs a0,iv x71,iv x110,iv x111]],1⟩ ?_)
    exact Cs (wkR [(0,some 0)] (Ap hF (k:=1) rfl) (pc (hC 0) AD))
   exact Cd (Ce (Bc rfl nofun (wkR [(0,some 0)] (Ap hF (k:=1) rfl) (pc (hC 0) AD))))
  rintro⟨x103,x104⟩
  refine Cr (Ab (jS ⟨[V 4 (bs x80),V 5 (bv false)],[W 0 4 [bs a0,iv x71,iv x103,iv x104]],1⟩ ?_))
  exact Af (Au (BX (Gd a0 a1 a2 a3 a4 (x80,false,x71,x103,x104)) (.inr rfl) (wkR [(0,some 0)] (Ap hF (k:=1) rfl) (pc (hC 0) AD))))
 refine Ai (Ab (jR (jG 0 1 ⟨[V 0 (pt 0 4),V 1 (bs a4),V 6 (iv x58),V 7 (bs x80),V 91 (bs x80)],[W 0 4 [bs a0,iv x71,iv a2,iv a3]],1⟩ ?_)))
 refine jK 1 (Sn x80 [46,42]) ?_
 intro x118 h118
 refine jG 2 9 ⟨[V 0 (pt 0 4),V 1 (bs a4),V 6 (iv x58),V 7 (bs x80),V 9 (bv (x118 && ((a4 == [61,61]) || (a4 == [33,61]))))],[W 0 4 [bs a0,iv x71,iv a2,iv a3]],1⟩ ?_
 refine jN (Aj ?_)
 refine BB (fun x120=>⟨[V 0 (pt 0 4),V 1 (bs a4),V 6 (iv x58),V 7 (bs x120),V 9 (bv (x118 && ((a4 == [61,61]) || (a4 == [33,61]))))],[W 0 4 [bs a0,iv x71,iv a2,iv a3]],1⟩) (fun x120=>.normal) ?_ ?_
 ·refine jS ⟨[V 0 (pt 0 4),V 1 (bs a4),V 6 (iv x58),V 7 (bs x80),V 9 (bv (x118 && ((a4 == [61,61]) || (a4 == [33,61])))),V 101 (bv (x118 && ((a4 == [61,61]) || (a4 == [33,61]))))],[W 0 4 [bs a0,iv x71,iv a2,iv a3]],1⟩ ?_
  refine jIf ?_ ?_
  ·refine CX (jG 0 4 ⟨[V 0 (pt 0 4),V 1 (bs a4),V 6 (iv x58),V 9 (bv (x118 && ((a4 == [61,61]) || (a4 == [33,61])))),V 102 (bs x80),V 105 (iv (w64 ((List.length x80:Int) - 2)))],[W 0 4 [bs a0,iv x71,iv a2,iv a3]],1⟩ ?_)
   refine A1 (i:=4) (mo:=EI x80 0 (w64 ((List.length x80:Int) - 2))) rfl rfl rfl rfl (fun _ hc=>FR (by kernel_rfl) (by kernel_rfl) (by kernel_rfl) (by kernel_rfl) hc) (fun _=>rfl) ?_
   intro x121 h121
   refine jG 5 1 ⟨[V 0 (pt 0 4),V 1 (bs a4),V 6 (iv x58),V 7 (bs x121),V 9 (bv (x118 && ((a4 == [61,61]) || (a4 == [33,61]))))],[W 0 4 [bs a0,iv x71,iv a2,iv a3]],1⟩ ?_
   exact Ad rfl (AT rfl (wkR [(0,some 0)] (Ap hF (k:=1) rfl) (pc (hC 0) AD)))
  exact Ai (AT rfl (wkR [(0,some 0)] (Ap hF (k:=1) rfl) (pc (hC 0) AD)))
 intro x120
 refine Ab (jR (jG 0 1 ⟨[V 0 (pt 0 4),V 1 (bs a4),V 6 (iv x58),V 7 (bs x120),V 9 (bv (x118 && ((a4 == [61,61]) || (a4 == [33,61])))),V 108 (bs x120)],[W 0 4 [bs a0,iv x71,iv a2,iv a3]],1⟩ ?_))
 refine jK 1 (Hp x120) ?_
 intro x122 h122
 refine jG 2 7 ⟨[V 0 (pt 0 4),V 1 (bs a4),V 6 (iv x58),V 7 (bs x120),V 9 (bv (x118 && ((a4 == [61,61]) || (a4 == [33,61])))),V 10 (pt 1 9),V 11 (pt 2 2)],[W 0 4 [bs a0,iv x71,iv a2,iv a3],W 1 9 (AK x122.1),W 2 2 [iv x122.2.Err,iv x122.2.At]],3⟩ ?_
 refine jN (Aj ?_)
 refine BB (fun (x130,x131)=>⟨[V 7 (bs x120),V 9 (bv (x118 && ((a4 == [61,61]) || (a4 == [33,61]))))],[W 0 4 [bs a0,iv x71,iv x130,iv x131]],1⟩) (fun (x130,x131)=>.normal) ?_ ?_
 ·refine A4 (jS ⟨[V 0 (pt 0 4),V 1 (bs a4),V 6 (iv x58),V 7 (bs x120),V 9 (bv (x118 && ((a4 == [61,61]) || (a4 == [33,61])))),V 10 (pt 1 9),V 11 (pt 2 2),V 112 (bv (x122.2.Err != 0))],[W 0 4 [bs a0,iv x71,iv a2,iv a3],W 1 9 (AK x122.1),W 2 2 [iv x122.2.Err,iv x122.2.At]],3⟩ ?_)
  refine jIf ?_ ?_
  ·refine CX (jG 0 7 ⟨[V 7 (bs x120),V 9 (bv (x118 && ((a4 == [61,61]) || (a4 == [33,61])))),V 116 (pt 0 4),V 118 (iv x122.2.Err),V 122 (iv (w64 (x58 + x122.2.At)))],[W 0 4 [bs a0,iv x71,iv a2,iv a3]],3⟩ ?_)
   refine A8 7 [(0,some 0)] [(0,some 0)] (fun r:Int × Int=>[W 0 4 [bs a0,iv x71,iv r.1,iv r.2]]) (fun r:Int × Int=>.tup []) 3 (C1 a0 x71 a2 a3 x122.2.Err (w64 (x58 + x122.2.At))) (pc (hC 0) AD) (fun r=>(pc (.inr (hC 0)) AD)) ?_
   rintro⟨x132,x133⟩ hm14
   exact Ad rfl (BU (AT rfl (wkR [(0,some 0)] (Ap hF (k:=1) rfl) (pc (hC 0) AD))))
  refine Aj ?_
  refine BB (fun x136=>⟨[V 0 (pt 0 4),V 6 (iv x58),V 7 (bs x120),V 9 (bv (x118 && ((a4 == [61,61]) || (a4 == [33,61])))),V 124 (bv x136)],[W 0 4 [bs a0,iv x71,iv a2,iv a3]],1⟩) (fun x136=>.normal) ?_ ?_
  ·refine jR (jG 0 2 ⟨[V 0 (pt 0 4),V 1 (bs a4),V 6 (iv x58),V 7 (bs x120),V 9 (bv (x118 && ((a4 == [61,61]) || (a4 == [33,61])))),V 10 (pt 1 9),V 126 (bv (x118 && ((a4 == [61,61]) || (a4 == [33,61]))))],[W 0 4 [bs a0,iv x71,iv a2,iv a3],W 1 9 (AK x122.1)],3⟩ ?_)
   refine A5 2 4 (fun x138=>⟨[V 0 (pt 0 4),V 1 (bs a4),V 6 (iv x58),V 7 (bs x120),V 9 (bv (x118 && ((a4 == [61,61]) || (a4 == [33,61])))),V 10 (pt 1 9),V 130 (bv x138)],[W 0 4 [bs a0,iv x71,iv a2,iv a3],W 1 9 (AK x122.1)],2⟩) ?_ ?_
   ·refine jSp 126 ?_ ?_
    ·refine jG 0 1 ⟨[V 0 (pt 0 4),V 1 (bs a4),V 6 (iv x58),V 7 (bs x120),V 9 (bv (x118 && ((a4 == [61,61]) || (a4 == [33,61])))),V 10 (pt 1 9),(126,.lit true),V 127 (.agg (AK x122.1))],[W 0 4 [bs a0,iv x71,iv a2,iv a3],W 1 9 (AK x122.1)],3⟩ ?_
     refine jK 1 (Xs x122.1) ?_
     intro x139 h139
     refine jG 2 2 ⟨[V 0 (pt 0 4),V 1 (bs a4),V 6 (iv x58),V 7 (bs x120),V 9 (bv (x118 && ((a4 == [61,61]) || (a4 == [33,61])))),V 10 (pt 1 9),V 130 (bv (!x139))],[W 0 4 [bs a0,iv x71,iv a2,iv a3],W 1 9 (AK x122.1)],3⟩ ?_
     exact Ad rfl (AT rfl (wkR [(0,some 0),(1,some 1)] (Ap hF (k:=1) rfl) (pc (hC 0) (pc (hC 1) AD))))
    refine jG 0 4 ⟨[V 0 (pt 0 4),V 1 (bs a4),V 6 (iv x58),V 7 (bs x120),V 9 (bv (x118 && ((a4 == [61,61]) || (a4 == [33,61])))),V 10 (pt 1 9),V 130 (bv false)],[W 0 4 [bs a0,iv x71,iv a2,iv a3],W 1 9 (AK x122.1)],3⟩ ?_
    exact Ad rfl (AT rfl (wkR [(0,some 0),(1,some 1)] (Ap hF (k:=1) rfl) (pc (hC 0) (pc (hC 1) AD))))
   intro x138
   refine jG 6 1 ⟨[V 0 (pt 0 4),V 1 (bs a4),V 6 (iv x58),V 7 (bs x120),V 9 (bv (x118 && ((a4 == [61,61]) || (a4 == [33,61])))),V 10 (pt 1 9),V 124 (bv x138)],[W 0 4 [bs a0,iv x71,iv a2,iv a3],W 1 9 (AK x122.1)],2⟩ ?_
   refine jN ?_
   refine jIf ?_ ?_
   ·exact Ai (AT rfl (wkR [(0,some 0)] (Ap hF (k:=1) rfl) (pc (hC 0) AD)))
   refine jR (jG 0 9 ⟨[V 0 (pt 0 4),V 1 (bs a4),V 6 (iv x58),V 7 (bs x120),V 9 (bv (x118 && ((a4 == [61,61]) || (a4 == [33,61])))),V 10 (pt 1 9),V 124 (bv ((a4 == [126,61]) && (decide ((List.length (List.map cS x122.1.Release):Int) < 2))))],[W 0 4 [bs a0,iv x71,iv a2,iv a3],W 1 9 (AK x122.1)],2⟩ ?_)
   simp only[List.length_map]
   refine jN ?_
   refine jIf ?_ ?_
   ·exact Ai (AT rfl (wkR [(0,some 0)] (Ap hF (k:=1) rfl) (pc (hC 0) AD)))
   refine CX (jG 0 13 ⟨[V 0 (pt 0 4),V 6 (iv x58),V 7 (bs x120),V 9 (bv (x118 && ((a4 == [61,61]) || (a4 == [33,61])))),V 124 (bv (((!(a4 == [61,61])) && (!(a4 == [33,61]))) && (decide ((List.length (List.map cS x122.1.Local):Int) > 0))))],[W 0 4 [bs a0,iv x71,iv a2,iv a3]],2⟩ ?_)
   simp only[List.length_map]
   exact Ad rfl (AT rfl (wkR [(0,some 0)] (Ap hF (k:=1) rfl) (pc (hC 0) AD)))
  intro x136
  refine Ab ?_
  refine jIf ?_ ?_
  ·refine CX (jG 0 2 ⟨[V 7 (bs x120),V 9 (bv (x118 && ((a4 == [61,61]) || (a4 == [33,61])))),V 151 (pt 0 4),V 152 (iv x58)],[W 0 4 [bs a0,iv x71,iv a2,iv a3]],1⟩ ?_)
   refine A8 2 [(0,some 0)] [(0,some 0)] (fun r:Int × Int=>[W 0 4 [bs a0,iv x71,iv r.1,iv r.2]]) (fun r:Int × Int=>.tup []) 1 (C1 a0 x71 a2 a3 19 x58) (pc (hC 0) AD) (fun r=>(pc (.inr (hC 0)) AD)) ?_
   rintro⟨x140,x141⟩ hm15
   exact Ad rfl (BU (AT rfl (wkR [(0,some 0)] (Ap hF (k:=1) rfl) (pc (hC 0) AD))))
  exact Ai (BU (AT rfl (wkR [(0,some 0)] (Ap hF (k:=1) rfl) (pc (hC 0) AD))))
 rintro⟨x130,x131⟩
 refine Ab (jS ⟨[V 4 (bs x120),V 5 (bv (x118 && ((a4 == [61,61]) || (a4 == [33,61]))))],[W 0 4 [bs a0,iv x71,iv x130,iv x131]],1⟩ ?_)
 exact Af (BX (Gd a0 a1 a2 a3 a4 (x120,(x118 && ((a4 == [61,61]) || (a4 == [33,61]))),x71,x130,x131)) (.inr rfl) (wkR [(0,some 0)] (Ap hF (k:=1) rfl) (pc (hC 0) AD))))
abbrev Ef:List LO:=[BW 2 22 0 0,Bd 4 (.const (.slice none 0 0)) 22]
abbrev Eg:List LO:=[lm 6 1 49]
abbrev Eh:List LO:=[A9 5 39 0,AM 39 5 7 0]
abbrev Ei:List LO:=[AF 8 22 2 22,AF 9 39 5 39,lo 10 (.buildSlice 22 1 #[(0,AE 9)]) 22,DT 11 #[AE 8,AE 10] #[22,22] 22,AM 22 2 11 0]
noncomputable def B2:Code:=EB (G1 Go.Proofs.Tryz.f36) [1,0,1,0,0]
theorem EL:GY E B2=some (.reg false Eh):=by kernel_rfl
noncomputable def B3:Code:=EB (G1 Go.Proofs.Tryz.f36) [1,0,1,0,1]
theorem EM:GY E B3=some (.block 1 (.reg false Ei)):=by kernel_rfl
abbrev Ej:List LO:=[AF 12 22 2 22,AC 4 12 22]
noncomputable abbrev DA:LC:=.seq (.reg false Ef) (.seq (.seq (.reg false Eg) (.block 0 (.rng (.tmp 6) [7] B2 B3))) (.seq (.reg false Ej) .ret))
theorem Ey:Bf E 36 13 [.tmp 4] DA:=Bl Go.Proofs.Tryz.f36
noncomputable abbrev AG (q:LoopState) (p:Option Code):Cy:=.loop { state:=q,pending:=p,tmps:=tl 13 [V 2 (pt 2 1),V 6 (.fn 37 [pt 0 1])] none,params:=[7],assign:=B2,body:=B3 }
noncomputable def BR (a0:Str):(Int × Int × Int × Int × List AJ)→Option (Step (Int × Int × Int × Int × List AJ) ((Int × Int × Int × List AJ) ⊕ (Int × Int × Int × List AJ))):=fun (x90,x91,x92,x93,x94)=>Option.bind (BZ a0 x90 x91 x92) (fun x131=>(if x131=true then Option.bind (CK a0 x90 x91 x92) (fun x132=>(if ((x93 == 32) && (decide (x132 < (List.length a0:Int))))=true then Option.bind (Bs a0 x132 x91 x92 12 x132) (fun (x133,x134)=>some (Step.done (Sum.inl (x132,x133,x134,x94)))) else Option.bind (DO a0 x132 x91 x92) (fun (x135,x136,x137,x138)=>Option.bind (BZ a0 x136 x137 x138) (fun x139=>(if (!x139)=true then some (Step.done (Sum.inl (x136,x137,x138,x94))) else Option.bind (D8 a0 x136 x137 x138 x135) (fun (x140,x141,x142,x143,x144)=>Option.bind (BZ a0 x142 x143 x144) (fun x145=>Option.bind (if (!x145)=true then some (true,x94) else Option.bind (Option.bind (app 40 x94 [(AJ.mk x135 x140 x141)]) (fun x152=>some x152):Option (List AJ)) (fun x151=>some (false,x151)):Option (Bool × List AJ)) (fun (x148,x149)=>(if x148=true then some (Step.done (Sum.inl (x142,x143,x144,x149))) else Option.bind (CK a0 x142 x143 x144) (fun x153=>(if (decide (x153≥(List.length a0:Int)))=true then some (Step.done (Sum.inl (x153,x143,x144,x149))) else Option.bind (Bt a0 x153 x143 x144 44) (fun x154=>(if (!x154)=true then Option.bind (Co a0 x153 x143 x144) (fun (x155,x156)=>some (Step.done (Sum.inl (x153,x155,x156,x149)))) else some (Step.next ((w64 (x153 + 1)),x143,x144,(w64 (x93 + 1)),x149))))))))))))))) else some (Step.done (Sum.inr (x90,x91,x92,x94)))))
abbrev CF (a0:Str) (a1:Int) (a2:Int) (a3:Int) (r:List AJ × Int × Int × Int):CS:=⟨[V 4 (.osl 2 0 (List.length r.1) 3)],[W 0 1 [pt 1 4],W 1 4 [bs a0,iv r.2.1,iv r.2.2.1,iv r.2.2.2],(2,.rows 3 (List.map AB r.1))],3⟩
noncomputable def Bu (a0:Str) (a1:Int) (a2:Int) (a3:Int):Option (List AJ × Int × Int × Int):=Option.bind (CK a0 a1 a2 a3) (fun x68=>(if (decide (x68≥(List.length a0:Int)))=true then some ([],x68,a2,a3) else Option.bind (B9 (BR a0) (x68,a2,a3,0,[])) (fun y=>match y with | Sum.inl (x123,x124,x125,x126)=>some (x126,x123,x124,x125) | Sum.inr (x127,x128,x129,x130)=>some (x130,x127,x128,x129))))
theorem Ee (a0:Str) (a1:Int) (a2:Int) (a3:Int):CtM E 36 [AR,.fn 37 [pt 0 1]] [W 0 1 [pt 1 4],W 1 4 [bs a0,iv a1,iv a2,iv a3]] 2 (Bu a0 a1 a2 a3) (fun r:List AJ × Int × Int × Int=>.osl 2 0 (List.length r.1) 3) (fun r:List AJ × Int × Int × Int=>[W 0 1 [pt 1 4],W 1 4 [bs a0,iv r.2.1,iv r.2.2.1,iv r.2.2.2],(2,.rows 3 (List.map AB r.1))]) 3:=B5 (N:=13) (L:=DA) Ey rfl (Nat.le_of_ble_eq_true rfl) (fun F hF=>by
 unfold Bu
 refine jS ⟨[V 1 (.fn 37 [pt 0 1]),V 2 (pt 2 1)],[W 0 1 [pt 1 4],W 1 4 [bs a0,iv a1,iv a2,iv a3],W 2 1 [AR]],3⟩ ?_
 refine Aj (jS ⟨[V 2 (pt 2 1),V 6 (.fn 37 [pt 0 1])],[W 0 1 [pt 1 4],W 1 4 [bs a0,iv a1,iv a2,iv a3],W 2 1 [AR]],3⟩ ?_)
 refine A4 ?_
 refine AAu [2,6] [0,1,2] (st1:=⟨[V 2 (pt 2 1),V 6 (.fn 37 [pt 0 1])],[W 0 1 [pt 1 4],W 1 4 [bs a0,iv a1,iv a2,iv a3],W 2 1 [AR]],3⟩) (by kernel_rfl) ?_
 refine ADC (g:=37) (caps:=[pt 0 1]) (by kernel_rfl) Kv (Nat.le_of_ble_eq_true rfl) ?_
 intro F16 hc16
 refine jR (jG 0 1 ⟨[V 0 (.yld 3),V 1 (pt 0 1),V 5 (pt 1 4)],[W 0 1 [pt 1 4],W 1 4 [bs a0,iv a1,iv a2,iv a3],W 2 1 [AR],(3,AG .ready none)],4⟩ ?_)
 refine A8 1 [(0,some 1)] [(1,some 0)] (fun r:Int=>[W 0 1 [pt 1 4],W 1 4 [bs a0,iv r,iv a2,iv a3],W 2 1 [AR],(3,AG .ready none)]) (fun r:Int=>.tup []) 4 (Dn a0 a1 a2 a3) (pc (hC 1) AD) (fun r=>(pc (.inl ⟨rfl,rfl⟩) (pc (.inr (hC 0)) (pc (.inl ⟨rfl,rfl⟩) (pc (.inl ⟨rfl,rfl⟩) AD))))) ?_
 rintro x68 hm38
 refine jN (Aj (jS ⟨[V 0 (.yld 3),V 1 (pt 0 1),V 16 (bv (decide (x68≥(List.length a0:Int))))],[W 0 1 [pt 1 4],W 1 4 [bs a0,iv x68,iv a2,iv a3],W 2 1 [AR],(3,AG .ready none)],4⟩ ?_))
 refine jIf ?_ ?_
 ·refine Af (Au ?_)
  refine W9 hc16 (.inr rfl) rfl nofun rfl ?_
  refine BU (Ab (jS ⟨[V 4 (AR)],[W 0 1 [pt 1 4],W 1 4 [bs a0,iv x68,iv a2,iv a3]],4⟩ ?_))
  exact Af (BX (CF a0 a1 a2 a3 ([],x68,a2,a3)) (.inr rfl) (wkR [(0,some 0),(1,some 1),(2,none)] (Ap hF (k:=2) rfl) (pc (hC 0) (pc (hC 1) (pc hZ AD)))))
 refine Ai (Ab (jS ⟨[V 0 (.yld 3),V 1 (pt 0 1),V 3 (iv 0)],[W 0 1 [pt 1 4],W 1 4 [bs a0,iv x68,iv a2,iv a3],W 2 1 [AR],(3,AG .ready none)],4⟩ ?_))
 refine A4 ?_
 refine BB (fun y=>match y with | Sum.inl (x123,x124,x125,x126)=>⟨[],[W 0 1 [pt 1 4],W 1 4 [bs a0,iv x123,iv x124,iv x125],W 2 1 [.osl 4 0 (List.length x126) 3],(3,AG .ready none),(4,.rows 3 (List.map AB x126))],5⟩ | Sum.inr (x127,x128,x129,x130)=>⟨[],[W 0 1 [pt 1 4],W 1 4 [bs a0,iv x127,iv x128,iv x129],W 2 1 [.osl 4 0 (List.length x130) 3],(3,AG .ready none),(4,.rows 3 (List.map AB x130))],5⟩) (fun y=>match y with | Sum.inl (x123,x124,x125,x126)=>.ret | Sum.inr (x127,x128,x129,x130)=>(.exit 0)) (Cq (fun (x90,x91,x92,x93,x94)=>⟨[V 0 (.yld 3),V 1 (pt 0 1),V 3 (iv x93)],[W 0 1 [pt 1 4],W 1 4 [bs a0,iv x90,iv x91,iv x92],W 2 1 [.osl 4 0 (List.length x94) 3],(3,AG .ready none),(4,.rows 3 (List.map AB x94))],5⟩) (wkR [(0,some 0),(1,some 1),(2,some 2),(3,some 3),(4,none)] (Ap hc16.2.2 (k:=4) rfl) (pc (hC 0) (pc (hC 1) (pc (hC 2) (pc (.inr (.inr (.inl ⟨3,_,_,rfl,rfl,rfl,by kernel_rfl⟩))) (pc hZ AD)))))) ?_) ?_
 ·rintro⟨x90,x91,x92,x93,x94⟩
  unfold BR
  refine Aj (jR (jG 0 1 ⟨[V 0 (.yld 3),V 1 (pt 0 1),V 3 (iv x93),V 17 (pt 1 4)],[W 0 1 [pt 1 4],W 1 4 [bs a0,iv x90,iv x91,iv x92],W 2 1 [.osl 4 0 (List.length x94) 3],(3,AG .ready none),(4,.rows 3 (List.map AB x94))],5⟩ ?_))
  refine By (i:=1) rfl rfl rfl rfl (vs:=[pt 1 4]) (vs0:=[.fptr [bs a0,iv x90,iv x91,iv x92] 0]) (b:=true) (by kernel_rfl) (by kernel_rfl) (AN (AY _) A2) (Cj a0 x90 x91 x92) (fun _=>rfl) (fun _=>rfl) ?_
  intro x131 h131
  refine jN ?_
  refine jIf ?_ ?_
  ·refine Ai (Ab (Aj (A4 (jR (jG 0 1 ⟨[V 0 (.yld 3),V 1 (pt 0 1),V 3 (iv x93),V 21 (pt 1 4)],[W 0 1 [pt 1 4],W 1 4 [bs a0,iv x90,iv x91,iv x92],W 2 1 [.osl 4 0 (List.length x94) 3],(3,AG .ready none),(4,.rows 3 (List.map AB x94))],5⟩ ?_)))))
   refine A8 1 [(0,some 1)] [(1,some 0)] (fun r:Int=>[W 0 1 [pt 1 4],W 1 4 [bs a0,iv r,iv x91,iv x92],W 2 1 [.osl 4 0 (List.length x94) 3],(3,AG .ready none),(4,.rows 3 (List.map AB x94))]) (fun r:Int=>.tup []) 5 (Dn a0 x90 x91 x92) (pc (hC 1) AD) (fun r=>(pc (.inl ⟨rfl,rfl⟩) (pc (.inr (hC 0)) (pc (.inl ⟨rfl,rfl⟩) (pc (.inl ⟨rfl,rfl⟩) (pc (.inl ⟨rfl,rfl⟩) AD)))))) ?_
   rintro x132 hm37
   refine jN (Aj (jS ⟨[V 0 (.yld 3),V 1 (pt 0 1),V 3 (iv x93),V 36 (bv ((x93 == 32) && (decide (x132 < (List.length a0:Int)))))],[W 0 1 [pt 1 4],W 1 4 [bs a0,iv x132,iv x91,iv x92],W 2 1 [.osl 4 0 (List.length x94) 3],(3,AG .ready none),(4,.rows 3 (List.map AB x94))],5⟩ ?_))
   refine jIf ?_ ?_
   ·refine jR (jG 0 5 ⟨[V 37 (pt 1 4),V 41 (iv x132)],[W 0 1 [pt 1 4],W 1 4 [bs a0,iv x132,iv x91,iv x92],W 2 1 [.osl 4 0 (List.length x94) 3],(3,AG .ready none),(4,.rows 3 (List.map AB x94))],5⟩ ?_)
    refine A8 5 [(0,some 1)] [(1,some 0)] (fun r:Int × Int=>[W 0 1 [pt 1 4],W 1 4 [bs a0,iv x132,iv r.1,iv r.2],W 2 1 [.osl 4 0 (List.length x94) 3],(3,AG .ready none),(4,.rows 3 (List.map AB x94))]) (fun r:Int × Int=>.tup []) 5 (C1 a0 x132 x91 x92 12 x132) (pc (hC 1) AD) (fun r=>(pc (.inl ⟨rfl,rfl⟩) (pc (.inr (hC 0)) (pc (.inl ⟨rfl,rfl⟩) (pc (.inl ⟨rfl,rfl⟩) (pc (.inl ⟨rfl,rfl⟩) AD)))))) ?_
    rintro⟨x133,x134⟩ hm30
    exact jN (Af (Au (BG (Au (Bc rfl nofun (wkR [(0,some 0),(1,some 1),(2,some 2),(3,some 3),(4,some 4)] (Ap hc16.2.2 (k:=4) rfl) (pc (hC 0) (pc (hC 1) (pc (hC 2) (pc (.inr (.inr (.inl ⟨3,_,_,rfl,rfl,rfl,by kernel_rfl⟩))) (pc (hL 4 (AP Ah _)) AD)))))))))))
   refine Ai (Ab (jR (jG 0 1 ⟨[V 0 (.yld 3),V 1 (pt 0 1),V 3 (iv x93),V 43 (pt 1 4)],[W 0 1 [pt 1 4],W 1 4 [bs a0,iv x132,iv x91,iv x92],W 2 1 [.osl 4 0 (List.length x94) 3],(3,AG .ready none),(4,.rows 3 (List.map AB x94))],5⟩ ?_)))
   refine A8 1 [(0,some 1)] [(1,some 0)] (fun r:Str × Int × Int × Int=>[W 0 1 [pt 1 4],W 1 4 [bs a0,iv r.2.1,iv r.2.2.1,iv r.2.2.2],W 2 1 [.osl 4 0 (List.length x94) 3],(3,AG .ready none),(4,.rows 3 (List.map AB x94))]) (fun r:Str × Int × Int × Int=>bs r.1) 5 (MR a0 x132 x91 x92) (pc (hC 1) AD) (fun r=>(pc (.inl ⟨rfl,rfl⟩) (pc (.inr (hC 0)) (pc (.inl ⟨rfl,rfl⟩) (pc (.inl ⟨rfl,rfl⟩) (pc (.inl ⟨rfl,rfl⟩) AD)))))) ?_
   rintro⟨x135,x136,x137,x138⟩ hm36
   refine jG 2 3 ⟨[V 0 (.yld 3),V 1 (pt 0 1),V 3 (iv x93),V 4 (pt 5 3)],[W 0 1 [pt 1 4],W 1 4 [bs a0,iv x136,iv x137,iv x138],W 2 1 [.osl 4 0 (List.length x94) 3],(3,AG .ready none),(4,.rows 3 (List.map AB x94)),W 5 3 [bs x135,bs [],bv false]],6⟩ ?_
   refine jN (Aj (jR (jG 0 1 ⟨[V 0 (.yld 3),V 1 (pt 0 1),V 3 (iv x93),V 4 (pt 5 3),V 46 (pt 1 4)],[W 0 1 [pt 1 4],W 1 4 [bs a0,iv x136,iv x137,iv x138],W 2 1 [.osl 4 0 (List.length x94) 3],(3,AG .ready none),(4,.rows 3 (List.map AB x94)),W 5 3 [bs x135,bs [],bv false]],6⟩ ?_)))
   refine By (i:=1) rfl rfl rfl rfl (vs:=[pt 1 4]) (vs0:=[.fptr [bs a0,iv x136,iv x137,iv x138] 0]) (b:=true) (by kernel_rfl) (by kernel_rfl) (AN (AY _) A2) (Cj a0 x136 x137 x138) (fun _=>rfl) (fun _=>rfl) ?_
   intro x139 h139
   refine jG 2 1 ⟨[V 0 (.yld 3),V 1 (pt 0 1),V 3 (iv x93),V 4 (pt 5 3),V 48 (bv (!x139))],[W 0 1 [pt 1 4],W 1 4 [bs a0,iv x136,iv x137,iv x138],W 2 1 [.osl 4 0 (List.length x94) 3],(3,AG .ready none),(4,.rows 3 (List.map AB x94)),W 5 3 [bs x135,bs [],bv false]],6⟩ ?_
   refine jN ?_
   refine jIf ?_ ?_
   ·exact Af (Au (BG (Au (Bc rfl nofun (wkR [(0,some 0),(1,some 1),(2,some 2),(3,some 3),(4,some 4)] (Ap hc16.2.2 (k:=4) rfl) (pc (hC 0) (pc (hC 1) (pc (hC 2) (pc (.inr (.inr (.inl ⟨3,_,_,rfl,rfl,rfl,by kernel_rfl⟩))) (pc (hL 4 (AP Ah _)) AD))))))))))
   refine Ai (Ab (jR (jG 0 3 ⟨[V 0 (.yld 3),V 1 (pt 0 1),V 3 (iv x93),V 4 (pt 5 3),V 50 (pt 1 4),V 52 (bs x135)],[W 0 1 [pt 1 4],W 1 4 [bs a0,iv x136,iv x137,iv x138],W 2 1 [.osl 4 0 (List.length x94) 3],(3,AG .ready none),(4,.rows 3 (List.map AB x94)),W 5 3 [bs x135,bs [],bv false]],6⟩ ?_)))
   refine A8 3 [(0,some 1)] [(1,some 0)] (fun r:Str × Bool × Int × Int × Int=>[W 0 1 [pt 1 4],W 1 4 [bs a0,iv r.2.2.1,iv r.2.2.2.1,iv r.2.2.2.2],W 2 1 [.osl 4 0 (List.length x94) 3],(3,AG .ready none),(4,.rows 3 (List.map AB x94)),W 5 3 [bs x135,bs [],bv false]]) (fun r:Str × Bool × Int × Int × Int=>.tup [bs r.1,bv r.2.1]) 6 (Qj a0 x136 x137 x138 x135) (pc (hC 1) AD) (fun r=>(pc (.inl ⟨rfl,rfl⟩) (pc (.inr (hC 0)) (pc (.inl ⟨rfl,rfl⟩) (pc (.inl ⟨rfl,rfl⟩) (pc (.inl ⟨rfl,rfl⟩) (pc (.inl ⟨rfl,rfl⟩) AD))))))) ?_
   rintro⟨x140,x141,x142,x143,x144⟩ hm35
   refine jG 4 7 ⟨[V 0 (.yld 3),V 1 (pt 0 1),V 3 (iv x93),V 4 (pt 5 3)],[W 0 1 [pt 1 4],W 1 4 [bs a0,iv x142,iv x143,iv x144],W 2 1 [.osl 4 0 (List.length x94) 3],(3,AG .ready none),(4,.rows 3 (List.map AB x94)),W 5 3 [bs x135,bs x140,bv x141]],6⟩ ?_
   refine jN (Aj (jR (jG 0 1 ⟨[V 0 (.yld 3),V 1 (pt 0 1),V 3 (iv x93),V 4 (pt 5 3),V 58 (pt 1 4)],[W 0 1 [pt 1 4],W 1 4 [bs a0,iv x142,iv x143,iv x144],W 2 1 [.osl 4 0 (List.length x94) 3],(3,AG .ready none),(4,.rows 3 (List.map AB x94)),W 5 3 [bs x135,bs x140,bv x141]],6⟩ ?_)))
   refine By (i:=1) rfl rfl rfl rfl (vs:=[pt 1 4]) (vs0:=[.fptr [bs a0,iv x142,iv x143,iv x144] 0]) (b:=true) (by kernel_rfl) (by kernel_rfl) (AN (AY _) A2) (Cj a0 x142 x143 x144) (fun _=>rfl) (fun _=>rfl) ?_
   intro x145 h145
   refine jG 2 2 ⟨[V 0 (.yld 3),V 1 (pt 0 1),V 3 (iv x93),V 4 (pt 5 3),V 61 (bv (!x145))],[W 0 1 [pt 1 4],W 1 4 [bs a0,iv x142,iv x143,iv x144],W 2 1 [.osl 4 0 (List.length x94) 3],(3,AG .ready none),(4,.rows 3 (List.map AB x94)),W 5 3 [bs x135,bs x140,bv x141]],6⟩ ?_
   refine A5 4 5 (fun (x148,x149)=>⟨[V 0 (.yld 3),V 1 (pt 0 1),V 3 (iv x93),V 66 (bv x148)],[W 0 1 [pt 1 4],W 1 4 [bs a0,iv x142,iv x143,iv x144],W 2 1 [.osl 4 0 (List.length x149) 3],(3,AG .ready none),(4,.rows 3 (List.map AB x149))],5⟩) ?_ ?_
   ·refine jSp 61 ?_ ?_
    ·refine jG 0 5 ⟨[V 0 (.yld 3),V 1 (pt 0 1),V 3 (iv x93),V 66 (bv true)],[W 0 1 [pt 1 4],W 1 4 [bs a0,iv x142,iv x143,iv x144],W 2 1 [.osl 4 0 (List.length x94) 3],(3,AG .ready none),(4,.rows 3 (List.map AB x94))],6⟩ ?_
     exact Ad rfl (AT rfl (wkR [(0,some 0),(1,some 1),(2,some 2),(3,some 3),(4,some 4)] (Ap hc16.2.2 (k:=4) rfl) (pc (hC 0) (pc (hC 1) (pc (hC 2) (pc (.inr (.inr (.inl ⟨3,_,_,rfl,rfl,rfl,by kernel_rfl⟩))) (pc (hL 4 (AP Ah _)) AD)))))))
    refine jG 0 2 ⟨[V 0 (.yld 3),V 1 (pt 0 1),V 3 (iv x93),(61,.lit false),V 62 (.yld 3),V 63 (.agg [bs x135,bs x140,bv x141])],[W 0 1 [pt 1 4],W 1 4 [bs a0,iv x142,iv x143,iv x144],W 2 1 [.osl 4 0 (List.length x94) 3],(3,AG .ready none),(4,.rows 3 (List.map AB x94))],6⟩ ?_
    refine cG (i:=2) (l:=3) (Nc:=13) (Kc:=[V 2 (pt 2 1),V 6 (.fn 37 [pt 0 1])]) (ps:=[7]) (vs:=[.agg [bs x135,bs x140,bv x141]]) (fun x151=>⟨[],[W 0 1 [pt 1 4],W 1 4 [bs a0,iv x142,iv x143,iv x144],W 2 1 [.osl 6 0 (List.length x151) 3],(3,AG .busy none),(6,.rows 3 (List.map AB x151))],7⟩) (fun x151=>.normal) [0,1,3,61,64] [0,1,2,3,6] (after:=(fun x151=>⟨[V 0 (.yld 3),V 1 (pt 0 1),V 3 (iv x93),(61,.lit false),V 64 (bv true)],[W 0 1 [pt 1 4],W 1 4 [bs a0,iv x142,iv x143,iv x144],W 2 1 [.osl 6 0 (List.length x151) 3],(3,AG .ready none),(6,.rows 3 (List.map AB x151))],7⟩)) rfl rfl EL EM (by kernel_rfl) (by kernel_rfl) (tL hc16 rfl) rfl (by kernel_rfl) rfl ?_ (by intro x151 <;> exact⟨none,by kernel_rfl⟩) (by intro x151 <;> kernel_rfl) ?_
    ·intro F32 hy32
     refine jT ⟨[V 2 (pt 2 1),V 5 (pt 6 3)],[W 0 1 [pt 1 4],W 1 4 [bs a0,iv x142,iv x143,iv x144],W 2 1 [.osl 4 0 (List.length x94) 3],(3,AG .ready none),(4,.rows 3 (List.map AB x94)),W 6 3 [bs x135,bs x140,bv x141]],7⟩ ?_
     refine zM hy32 rfl ?_
     refine A4 (CX (jG 0 3 ⟨[V 2 (pt 2 1),V 8 (.osl 4 0 (List.length x94) 3),V 10 (.osl 7 0 (List.length [(AJ.mk x135 x140 x141)]) 3)],[W 0 1 [pt 1 4],W 1 4 [bs a0,iv x142,iv x143,iv x144],W 2 1 [.osl 4 0 (List.length x94) 3],(3,AG .busy none),(4,.rows 3 (List.map AB x94)),(7,.rows 3 (List.map AB [(AJ.mk x135 x140 x141)]))],8⟩ ?_))
     refine A1 (i:=3) (mo:=app 40 x94 [(AJ.mk x135 x140 x141)]) rfl rfl rfl rfl (fun _ hc=>LJ (u:=.osl 4 0 (List.length x94) 3) (w:=.osl 7 0 (List.length [(AJ.mk x135 x140 x141)]) 3) (e:=39) (td:=.slice 39) (by kernel_rfl) (by kernel_rfl) (by kernel_rfl) (by kernel_rfl) (.inl ⟨_,rfl⟩) (E5 (c:=AB) (sz:=3) (b:=40) (id:=4) (by kernel_rfl) (by kernel_rfl) (Oe (by kernel_rfl)) (List.cons_ne_nil _ _) hc)) (fun _=>rfl) ?_
     intro x152 h152
     refine jG 4 1 ⟨[],[W 0 1 [pt 1 4],W 1 4 [bs a0,iv x142,iv x143,iv x144],W 2 1 [.osl 8 0 (List.length x152) 3],(3,AG .busy none),(8,.rows 3 (List.map AB x152))],9⟩ ?_
     exact Ad rfl (BU (AT rfl (wkR [(0,some 0),(1,some 1),(2,some 2),(3,some 3),(4,some 4),(5,some 5),(6,some 8)] (Ap hy32.2 (k:=6) rfl) (pc (hC 0) (pc (hC 1) (pc (hC 2) (pc (.inr (.inr (.inl ⟨3,_,_,rfl,rfl,rfl,by kernel_rfl⟩))) (pc (hL 8 (AP Ah _)) AD))))))))
    intro x151
    refine jG 3 2 ⟨[V 0 (.yld 3),V 1 (pt 0 1),V 3 (iv x93),V 66 (bv false)],[W 0 1 [pt 1 4],W 1 4 [bs a0,iv x142,iv x143,iv x144],W 2 1 [.osl 6 0 (List.length x151) 3],(3,AG .ready none),(6,.rows 3 (List.map AB x151))],7⟩ ?_
    exact Ad rfl (AT rfl (wkR [(0,some 0),(1,some 1),(2,some 2),(3,some 3),(4,some 6)] (Ap hc16.2.2 (k:=4) rfl) (pc (hC 0) (pc (hC 1) (pc (hC 2) (pc (.inr (.inr (.inl ⟨3,_,_,rfl,rfl,rfl,by kernel_rfl⟩))) (pc (hL 6 (AP Ah _)) AD)))))))
   rintro⟨x148,x149⟩
   refine jN ?_
   refine jIf ?_ ?_
   ·exact Af (Au (BG (Au (Bc rfl nofun (wkR [(0,some 0),(1,some 1),(2,some 2),(3,some 3),(4,some 4)] (Ap hc16.2.2 (k:=4) rfl) (pc (hC 0) (pc (hC 1) (pc (hC 2) (pc (.inr (.inr (.inl ⟨3,_,_,rfl,rfl,rfl,by kernel_rfl⟩))) (pc (hL 4 (AP Ah _)) AD))))))))))
   refine Ai (Ab (jR (jG 0 1 ⟨[V 0 (.yld 3),V 1 (pt 0 1),V 3 (iv x93),V 67 (pt 1 4)],[W 0 1 [pt 1 4],W 1 4 [bs a0,iv x142,iv x143,iv x144],W 2 1 [.osl 4 0 (List.length x149) 3],(3,AG .ready none),(4,.rows 3 (List.map AB x149))],5⟩ ?_)))
   refine A8 1 [(0,some 1)] [(1,some 0)] (fun r:Int=>[W 0 1 [pt 1 4],W 1 4 [bs a0,iv r,iv x143,iv x144],W 2 1 [.osl 4 0 (List.length x149) 3],(3,AG .ready none),(4,.rows 3 (List.map AB x149))]) (fun r:Int=>.tup []) 5 (Dn a0 x142 x143 x144) (pc (hC 1) AD) (fun r=>(pc (.inl ⟨rfl,rfl⟩) (pc (.inr (hC 0)) (pc (.inl ⟨rfl,rfl⟩) (pc (.inl ⟨rfl,rfl⟩) (pc (.inl ⟨rfl,rfl⟩) AD)))))) ?_
   rintro x153 hm34
   refine jN (Aj (jS ⟨[V 0 (.yld 3),V 1 (pt 0 1),V 3 (iv x93),V 78 (bv (decide (x153≥(List.length a0:Int))))],[W 0 1 [pt 1 4],W 1 4 [bs a0,iv x153,iv x143,iv x144],W 2 1 [.osl 4 0 (List.length x149) 3],(3,AG .ready none),(4,.rows 3 (List.map AB x149))],5⟩ ?_))
   refine jIf ?_ ?_
   ·exact Af (Au (BG (Au (Bc rfl nofun (wkR [(0,some 0),(1,some 1),(2,some 2),(3,some 3),(4,some 4)] (Ap hc16.2.2 (k:=4) rfl) (pc (hC 0) (pc (hC 1) (pc (hC 2) (pc (.inr (.inr (.inl ⟨3,_,_,rfl,rfl,rfl,by kernel_rfl⟩))) (pc (hL 4 (AP Ah _)) AD))))))))))
   refine Ai (Ab (Aj (jR (jG 0 1 ⟨[V 0 (.yld 3),V 1 (pt 0 1),V 3 (iv x93),V 79 (pt 1 4)],[W 0 1 [pt 1 4],W 1 4 [bs a0,iv x153,iv x143,iv x144],W 2 1 [.osl 4 0 (List.length x149) 3],(3,AG .ready none),(4,.rows 3 (List.map AB x149))],5⟩ ?_))))
   refine By (i:=1) rfl rfl rfl rfl (vs:=[pt 1 4,.s (.int .u8 44)]) (vs0:=[.fptr [bs a0,iv x153,iv x143,iv x144] 0,.s (.int .u8 44)]) (b:=true) (by kernel_rfl) (by kernel_rfl) (AN (AY _) (AN (AY _) A2)) (Ci a0 x153 x143 x144 44) (fun _=>rfl) (fun _=>rfl) ?_
   intro x154 h154
   refine jG 2 1 ⟨[V 0 (.yld 3),V 1 (pt 0 1),V 3 (iv x93),V 81 (bv (!x154))],[W 0 1 [pt 1 4],W 1 4 [bs a0,iv x153,iv x143,iv x144],W 2 1 [.osl 4 0 (List.length x149) 3],(3,AG .ready none),(4,.rows 3 (List.map AB x149))],5⟩ ?_
   refine jN ?_
   refine jIf ?_ ?_
   ·refine jR (jG 0 1 ⟨[V 82 (pt 1 4)],[W 0 1 [pt 1 4],W 1 4 [bs a0,iv x153,iv x143,iv x144],W 2 1 [.osl 4 0 (List.length x149) 3],(3,AG .ready none),(4,.rows 3 (List.map AB x149))],5⟩ ?_)
    refine A8 1 [(0,some 1)] [(1,some 0)] (fun r:Int × Int=>[W 0 1 [pt 1 4],W 1 4 [bs a0,iv x153,iv r.1,iv r.2],W 2 1 [.osl 4 0 (List.length x149) 3],(3,AG .ready none),(4,.rows 3 (List.map AB x149))]) (fun r:Int × Int=>.tup []) 5 (FD a0 x153 x143 x144) (pc (hC 1) AD) (fun r=>(pc (.inl ⟨rfl,rfl⟩) (pc (.inr (hC 0)) (pc (.inl ⟨rfl,rfl⟩) (pc (.inl ⟨rfl,rfl⟩) (pc (.inl ⟨rfl,rfl⟩) AD)))))) ?_
    rintro⟨x155,x156⟩ hm33
    exact jN (Af (Au (BG (Au (Bc rfl nofun (wkR [(0,some 0),(1,some 1),(2,some 2),(3,some 3),(4,some 4)] (Ap hc16.2.2 (k:=4) rfl) (pc (hC 0) (pc (hC 1) (pc (hC 2) (pc (.inr (.inr (.inl ⟨3,_,_,rfl,rfl,rfl,by kernel_rfl⟩))) (pc (hL 4 (AP Ah _)) AD)))))))))))
   refine Ai (Ab (jT ⟨[V 0 (.yld 3),V 1 (pt 0 1),V 3 (iv x93)],[W 0 1 [pt 1 4],W 1 4 [bs a0,iv (w64 (x153 + 1)),iv x143,iv x144],W 2 1 [.osl 4 0 (List.length x149) 3],(3,AG .ready none),(4,.rows 3 (List.map AB x149))],5⟩ ?_))
   refine BU (Ab (jT ⟨[V 0 (.yld 3),V 1 (pt 0 1),V 3 (iv (w64 (x93 + 1)))],[W 0 1 [pt 1 4],W 1 4 [bs a0,iv (w64 (x153 + 1)),iv x143,iv x144],W 2 1 [.osl 4 0 (List.length x149) 3],(3,AG .ready none),(4,.rows 3 (List.map AB x149))],5⟩ ?_))
   exact Cs (wkR [(0,some 0),(1,some 1),(2,some 2),(3,some 3),(4,some 4)] (Ap hc16.2.2 (k:=4) rfl) (pc (hC 0) (pc (hC 1) (pc (hC 2) (pc (.inr (.inr (.inl ⟨3,_,_,rfl,rfl,rfl,by kernel_rfl⟩))) (pc (hL 4 (AP Ah _)) AD))))))
  exact Cd (Ce (Bc rfl nofun (wkR [(0,some 0),(1,some 1),(2,some 2),(3,some 3),(4,some 4)] (Ap hc16.2.2 (k:=4) rfl) (pc (hC 0) (pc (hC 1) (pc (hC 2) (pc (.inr (.inr (.inl ⟨3,_,_,rfl,rfl,rfl,by kernel_rfl⟩))) (pc (hL 4 (AP Ah _)) AD))))))))
 rintro (⟨x123,x124,x125,x126⟩ | ⟨x127,x128,x129,x130⟩)
 ·refine BG ?_
  refine W9 hc16 (.inr rfl) rfl nofun rfl ?_
  refine BU (Ab (jS ⟨[V 4 (.osl 4 0 (List.length x126) 3)],[W 0 1 [pt 1 4],W 1 4 [bs a0,iv x123,iv x124,iv x125],(4,.rows 3 (List.map AB x126))],5⟩ ?_))
  exact Af (BX (CF a0 a1 a2 a3 (x126,x123,x124,x125)) (.inr rfl) (wkR [(0,some 0),(1,some 1),(2,some 4)] (Ap hF (k:=2) rfl) (pc (hC 0) (pc (hC 1) (pc (hL 4 (AP Ah _)) AD)))))
 refine Cr ?_
 refine W9 hc16 (.inl rfl) rfl nofun rfl ?_
 refine BU (Ab (jS ⟨[V 4 (.osl 4 0 (List.length x130) 3)],[W 0 1 [pt 1 4],W 1 4 [bs a0,iv x127,iv x128,iv x129],(4,.rows 3 (List.map AB x130))],5⟩ ?_))
 exact Af (BX (CF a0 a1 a2 a3 (x130,x127,x128,x129)) (.inr rfl) (wkR [(0,some 0),(1,some 1),(2,some 4)] (Ap hF (k:=2) rfl) (pc (hC 0) (pc (hC 1) (pc (hL 4 (AP Ah _)) AD))))))
abbrev Jn:List LO:=[Bd 2 (.const (.slice none 0 0)) 22]
abbrev Jo:List LO:=[lm 3 0 49,AO 4 36 #[.const (.slice none 0 0),AE 3] #[22,49] 22,AC 2 4 22]
abbrev E3:LC:=.seq (.reg false Jn) (.seq (.reg false Jo) .ret)
theorem Kk:Bf E 17 5 [.tmp 2] E3:=Bl Go.Proofs.Tryz.f17
abbrev Kj (a0:Str) (a1:Int) (a2:Int) (a3:Int) (r:List AJ × Int × Int × Int):CS:=⟨[V 2 (.osl 2 0 (List.length r.1) 3)],[W 0 1 [pt 1 4],W 1 4 [bs a0,iv r.2.1,iv r.2.2.1,iv r.2.2.2],(2,.rows 3 (List.map AB r.1))],3⟩
noncomputable def DE (a0:Str) (a1:Int) (a2:Int) (a3:Int):Option (List AJ × Int × Int × Int):=Option.bind (Bu a0 a1 a2 a3) (fun (x9,x10,x11,x12)=>some (x9,x10,x11,x12))
theorem Jm (a0:Str) (a1:Int) (a2:Int) (a3:Int):CtM E 17 [.fn 37 [pt 0 1]] [W 0 1 [pt 1 4],W 1 4 [bs a0,iv a1,iv a2,iv a3]] 2 (DE a0 a1 a2 a3) (fun r:List AJ × Int × Int × Int=>.osl 2 0 (List.length r.1) 3) (fun r:List AJ × Int × Int × Int=>[W 0 1 [pt 1 4],W 1 4 [bs a0,iv r.2.1,iv r.2.2.1,iv r.2.2.2],(2,.rows 3 (List.map AB r.1))]) 3:=B5 (N:=5) (L:=E3) Kk rfl (Nat.le_of_ble_eq_true rfl) (fun F hF=>by
 unfold DE
 refine jS ⟨[V 0 (.fn 37 [pt 0 1])],[W 0 1 [pt 1 4],W 1 4 [bs a0,iv a1,iv a2,iv a3]],2⟩ ?_
 refine jR (jG 0 1 ⟨[V 3 (.fn 37 [pt 0 1])],[W 0 1 [pt 1 4],W 1 4 [bs a0,iv a1,iv a2,iv a3]],2⟩ ?_)
 refine A8 1 [(0,some 0),(1,some 1)] [(0,some 0),(1,some 1),(2,some 2)] (fun r:List AJ × Int × Int × Int=>[W 0 1 [pt 1 4],W 1 4 [bs a0,iv r.2.1,iv r.2.2.1,iv r.2.2.2],(2,.rows 3 (List.map AB r.1))]) (fun r:List AJ × Int × Int × Int=>.osl 2 0 (List.length r.1) 3) 3 (Ee a0 a1 a2 a3) (pc (hC 0) (pc (hC 1) AD)) (fun r=>(pc (.inr (hC 0)) (pc (.inr (hC 1)) (pc (.inr (hL 2 (AP Ah _))) AD)))) ?_
 rintro⟨x9,x10,x11,x12⟩ hm2
 refine jG 2 1 ⟨[V 2 (.osl 2 0 (List.length x9) 3)],[W 0 1 [pt 1 4],W 1 4 [bs a0,iv x10,iv x11,iv x12],(2,.rows 3 (List.map AB x9))],3⟩ ?_
 exact jN (Af (BX (Kj a0 a1 a2 a3 (x9,x10,x11,x12)) (.inr rfl) (wkR [(0,some 0),(1,some 1),(2,some 2)] (Ap hF (k:=2) rfl) (pc (hC 0) (pc (hC 1) (pc (hL 2 (AP Ah _)) AD)))))))
abbrev NV:List LO:=[BW 1 44 0 0,Bd 2 (.const .nilFunc) 49]
abbrev NW:List LO:=[lo 3 (.makeFunc (Fn.func 37) #[] #[AE 1]) 48,AC 2 3 49]
abbrev HV:LC:=.seq (.reg false NV) (.seq (.reg false NW) .ret)
theorem Oc:Bf E 18 4 [.tmp 2] HV:=Bl Go.Proofs.Tryz.f18
abbrev Ob (a0:Str) (a1:Int) (a2:Int) (a3:Int) (r:Unit):CS:=⟨[V 2 (.fn 37 [pt 1 1])],[W 0 4 [bs a0,iv a1,iv a2,iv a3],W 1 1 [pt 0 4]],2⟩
noncomputable def EE (a0:Str) (a1:Int) (a2:Int) (a3:Int):Option (Unit):=some ()
theorem NU (a0:Str) (a1:Int) (a2:Int) (a3:Int):CtM E 18 [pt 0 4] [W 0 4 [bs a0,iv a1,iv a2,iv a3]] 1 (EE a0 a1 a2 a3) (fun r:Unit=>.fn 37 [pt 1 1]) (fun r:Unit=>[W 0 4 [bs a0,iv a1,iv a2,iv a3],W 1 1 [pt 0 4]]) 2:=B5 (N:=4) (L:=HV) Oc rfl (Nat.le_of_ble_eq_true rfl) (fun F hF=>by
 unfold EE
 refine jS ⟨[V 1 (pt 1 1)],[W 0 4 [bs a0,iv a1,iv a2,iv a3],W 1 1 [pt 0 4]],2⟩ ?_
 refine jS ⟨[V 2 (.fn 37 [pt 1 1])],[W 0 4 [bs a0,iv a1,iv a2,iv a3],W 1 1 [pt 0 4]],2⟩ ?_
 exact Af (BX (Ob a0 a1 a2 a3 ()) (.inr rfl) (wkR [(0,some 0),(1,some 1)] (Ap hF (k:=1) rfl) (pc (hC 0) (pc (hC 1) AD)))))
abbrev ZK:List LO:=[Bd 2 (.const (.slice none 0 0)) 22,A9 3 25 0]
abbrev ZL:List LO:=[lm 6 0 9,Ak 7 #[AE 6] #[9] 3,DL 8 3 7 256 3 4]
abbrev ZM:List LO:=[lo 9 (.build 25 #[(0,.const (.int .i64 12)),(1,.const (.int .i64 256))]) 25,Bd 2 (.const (.slice none 0 0)) 22,AM 25 3 9 0]
abbrev ZN:List LO:=[lm 10 0 9,lo 11 (.build 46 #[(0,AE 10)]) 46,BW 12 46 11 44,AC 4 12 44]
abbrev ZO:List LO:=[lm 13 4 44,AO 14 18 #[AE 13] #[44] 49,AO 15 17 #[AE 14] #[49] 22,AC 5 15 22]
abbrev ZP:List LO:=[lm 16 4 44,AO 17 19 #[AE 16] #[44] 4,BQ 18 4 17 4]
abbrev ZQ:List LO:=[lm 19 4 44,AH 20 19 0,AA 21 46 20 2 0,AF 22 25 21 25,Bd 2 (.const (.slice none 0 0)) 22,AM 25 3 22 0]
abbrev ZR:List LO:=[lm 23 5 22,lo 24 (.build 25 #[]) 25,AC 2 23 22,AM 25 3 24 0]
abbrev SC:LC:=.seq (.reg false ZK) (.seq (.seq (.reg false ZL) (.cond (AE 8) (.seq (.reg false ZM) .ret) .skip)) (.seq (.reg false ZN) (.seq (.reg false ZO) (.seq (.seq (.reg false ZP) (.cond (AE 18) (.seq (.reg true ZQ) .ret) .skip)) (.seq (.reg false ZR) .ret)))))
theorem dI:Bf E 6 25 [.tmp 2,.cell 3 25] SC:=Bl Go.Proofs.Tryz.f6
abbrev L7 (a0:Str) (r:List AJ × Int × Int):CS:=⟨[V 2 (.osl 0 0 (List.length r.1) 3),V 3 (pt 1 2)],[(0,.rows 3 (List.map AB r.1)),W 1 2 [iv r.2.1,iv r.2.2]],2⟩
noncomputable def Cf (a0:Str):Option (List AJ × Int × Int):=(if (decide ((List.length a0:Int) > 256))=true then some ([],12,256) else Option.bind (EE a0 0 0 0) (fun _=>Option.bind (DE a0 0 0 0) (fun (x9,x10,x11,x12)=>Option.bind (BZ a0 x10 x11 x12) (fun x13=>(if (!x13)=true then some ([],x11,x12) else some (x9,0,0))))))
theorem C5 (a0:Str):CtM E 6 [bs a0] [] 0 (Cf a0) (fun r:List AJ × Int × Int=>.tup [.osl 0 0 (List.length r.1) 3,.agg [iv r.2.1,iv r.2.2]]) (fun r:List AJ × Int × Int=>[(0,.rows 3 (List.map AB r.1))]) 2:=B5 (N:=25) (L:=SC) dI rfl (Nat.le_of_ble_eq_true rfl) (fun F hF=>by
 unfold Cf
 refine jS ⟨[V 0 (bs a0),V 3 (pt 0 2)],[W 0 2 [iv 0,iv 0]],1⟩ ?_
 refine Aj (jS ⟨[V 0 (bs a0),V 3 (pt 0 2),V 8 (bv (decide ((List.length a0:Int) > 256)))],[W 0 2 [iv 0,iv 0]],1⟩ ?_)
 refine jIf ?_ ?_
 ·refine jS ⟨[V 2 (AR),V 3 (pt 0 2)],[W 0 2 [iv 12,iv 256]],1⟩ ?_
  exact Af (Au (BX (L7 a0 ([],12,256)) (.inr rfl) (wkR [(0,none),(1,some 0)] (Ap hF (k:=0) rfl) (pc hZ (pc (hC 0) AD)))))
 refine Ai (Ab (jS ⟨[V 3 (pt 0 2),V 4 (pt 1 4)],[W 0 2 [iv 0,iv 0],W 1 4 [bs a0,iv 0,iv 0,iv 0]],2⟩ ?_))
 refine jR (jG 0 1 ⟨[V 3 (pt 0 2),V 4 (pt 1 4),V 13 (pt 1 4)],[W 0 2 [iv 0,iv 0],W 1 4 [bs a0,iv 0,iv 0,iv 0]],2⟩ ?_)
 refine A8 1 [(0,some 1)] [(1,some 0),(2,some 1)] (fun r:Unit=>[W 0 2 [iv 0,iv 0],W 1 4 [bs a0,iv 0,iv 0,iv 0],W 2 1 [pt 1 4]]) (fun r:Unit=>.fn 37 [pt 2 1]) 3 (NU a0 0 0 0) (pc (hC 1) AD) (fun r=>(pc (.inl ⟨rfl,rfl⟩) (pc (.inr (hC 0)) (pc (.inr (hC 1)) AD)))) ?_
 rintro⟨⟩ hm4
 refine A8 2 [(0,some 2),(1,some 1)] [(2,some 0),(1,some 1),(3,some 2)] (fun r:List AJ × Int × Int × Int=>[W 0 2 [iv 0,iv 0],W 1 4 [bs a0,iv r.2.1,iv r.2.2.1,iv r.2.2.2],W 2 1 [pt 1 4],(3,.rows 3 (List.map AB r.1))]) (fun r:List AJ × Int × Int × Int=>.osl 3 0 (List.length r.1) 3) 4 (Jm a0 0 0 0) (pc (hC 2) (pc (hC 1) AD)) (fun r=>(pc (.inl ⟨rfl,rfl⟩) (pc (.inr (hC 1)) (pc (.inr (hC 0)) (pc (.inr (hL 2 (AP Ah _))) AD))))) ?_
 rintro⟨x9,x10,x11,x12⟩ hm3
 refine jG 3 1 ⟨[V 3 (pt 0 2),V 4 (pt 1 4),V 5 (.osl 3 0 (List.length x9) 3)],[W 0 2 [iv 0,iv 0],W 1 4 [bs a0,iv x10,iv x11,iv x12],(3,.rows 3 (List.map AB x9))],4⟩ ?_
 refine jN (Aj (jR (jG 0 1 ⟨[V 3 (pt 0 2),V 4 (pt 1 4),V 5 (.osl 3 0 (List.length x9) 3),V 16 (pt 1 4)],[W 0 2 [iv 0,iv 0],W 1 4 [bs a0,iv x10,iv x11,iv x12],(3,.rows 3 (List.map AB x9))],4⟩ ?_)))
 refine By (i:=1) rfl rfl rfl rfl (vs:=[pt 1 4]) (vs0:=[.fptr [bs a0,iv x10,iv x11,iv x12] 0]) (b:=true) (by kernel_rfl) (by kernel_rfl) (AN (AY _) A2) (Cj a0 x10 x11 x12) (fun _=>rfl) (fun _=>rfl) ?_
 intro x13 h13
 refine jG 2 1 ⟨[V 3 (pt 0 2),V 4 (pt 1 4),V 5 (.osl 3 0 (List.length x9) 3),V 18 (bv (!x13))],[W 0 2 [iv 0,iv 0],W 1 4 [bs a0,iv x10,iv x11,iv x12],(3,.rows 3 (List.map AB x9))],4⟩ ?_
 refine jN ?_
 refine jIf ?_ ?_
 ·refine jS ⟨[V 2 (AR),V 3 (pt 0 2)],[W 0 2 [iv x11,iv x12]],4⟩ ?_
  exact Af (Au (BX (L7 a0 ([],x11,x12)) (.inr rfl) (wkR [(0,none),(1,some 0)] (Ap hF (k:=0) rfl) (pc hZ (pc (hC 0) AD)))))
 refine Ai (Ab (jS ⟨[V 2 (.osl 3 0 (List.length x9) 3),V 3 (pt 0 2)],[W 0 2 [iv 0,iv 0],(3,.rows 3 (List.map AB x9))],4⟩ ?_))
 exact Af (BX (L7 a0 (x9,0,0)) (.inr rfl) (wkR [(0,some 3),(1,some 0)] (Ap hF (k:=0) rfl) (pc (hL 3 (AP Ah _)) (pc (hC 0) AD)))))
abbrev Kf:List LO:=[Bd 2 (.const (.slice none 0 0)) 32]
abbrev Kg:List LO:=[lm 3 0 32,lo 4 (.binOp .eql 32 (AE 3) (.const (.slice none 0 0)) 32) 4]
abbrev Kh:List LO:=[Bd 2 (.const (.slice none 0 0)) 32]
abbrev Ki:List LO:=[lo 5 (.buildSlice 32 0 #[]) 32,lm 6 0 32,DT 7 #[AE 5,AE 6] #[32,32] 32,AC 2 7 32]
abbrev Fb:LC:=.seq (.reg false Kf) (.seq (.seq (.reg false Kg) (.cond (AE 4) (.seq (.reg false Kh) .ret) .skip)) (.seq (.reg false Ki) .ret))
theorem K4:Bf E 110 8 [.tmp 2] Fb:=Bl Go.Proofs.Tryz.f110
abbrev Fa (a0:List Str) (r:List Str):CS:=⟨[V 2 (.osl 0 0 (List.length r) 1)],[(0,.rows 1 (List.map cS r))],1⟩
noncomputable def Cc (a0:List Str):Option (List Str):=Option.bind (app 16 ([]:List Str) a0) (fun x3=>some x3)
theorem Ke (a0:List Str):CtM E 110 [.fsl 1 (List.map cS a0)] [] 0 (Cc a0) (fun r:List Str=>.osl 0 0 (List.length r) 1) (fun r:List Str=>[(0,.rows 1 (List.map cS r))]) 1:=B5 (N:=8) (L:=Fb) K4 rfl (Nat.le_of_ble_eq_true rfl) (fun F hF=>by
 unfold Cc
 refine jS ⟨[V 0 (.fsl 1 (List.map cS a0))],[],0⟩ ?_
 refine Aj (jR (jG 0 1 ⟨[V 0 (.fsl 1 (List.map cS a0)),V 3 (.fsl 1 (List.map cS a0))],[],0⟩ ?_))
 refine ADF 1 (v:=.fsl 1 (List.map cS a0)) (C:=a0=[]) (mA:=(some [])) (b:=false) AFr (fun h=>by first | (rw[h]; rfl) | simp[h,app]) (fun _=>?_) ?_ (hr:=.inr ⟨_,_,rfl⟩)
 ·refine jN ?_
  refine RM (c:=true) (by kernel_rfl) ?_
  refine jS ⟨[V 2 (AR)],[],0⟩ ?_
  exact Af (Au (BX (Fa a0 []) (.inr rfl) (wkR [(0,none)] (Ap hF (k:=0) rfl) (pc hZ AD))))
 refine jN ?_
 refine RM (c:=false) (by kernel_rfl) ?_
 refine Ai (Ab (jR (jG 0 2 ⟨[V 5 (.osl 0 0 (List.length ([]:List Str)) 1),V 6 (.fsl 1 (List.map cS a0))],[(0,.rows 1 (List.map cS ([]:List Str)))],1⟩ ?_)))
 refine AFK (i:=2) (C:=a0=[]) (st1:=fun x3=>⟨[V 7 (.osl 1 0 (List.length x3) 1)],[(1,.rows 1 (List.map cS x3))],2⟩) rfl rfl rfl rfl (fun q _ hc=>LJ (u:=.osl 0 0 (List.length ([]:List Str)) 1) (w:=.fsl 1 (List.map cS a0)) (e:=9) (td:=.slice 9) (by kernel_rfl) (by kernel_rfl) (by kernel_rfl) (by kernel_rfl) (.inl ⟨_,rfl⟩) (E5 (c:=cS) (sz:=1) (b:=16) (id:=0) (by kernel_rfl) (by kernel_rfl) Wm q hc)) (fun q _ hc=>LJ (u:=.osl 0 0 (List.length ([]:List Str)) 1) (w:=.fsl 1 (List.map cS a0)) (e:=9) (td:=.slice 9) (by kernel_rfl) (by kernel_rfl) (by kernel_rfl) (by kernel_rfl) (.inl ⟨_,rfl⟩) (gL (c:=cS) (sz:=1) (b:=16) (m:=a0) (by kernel_rfl) (.inr (.inr ⟨_,_,_,_,rfl⟩)) Wm q)) (fun _=>rfl) (fun _=>rfl) (fun _=>wkR [(1,some 1)] (Ap hF (k:=0) rfl) (pc (hL 1 (AP BS _)) AD)) (fun q _ hc=>by cases ACd q hc; exact wkR [(1,some 0)] (Ap hF (k:=0) rfl) (pc (hL 0 (AP BS _)) AD)) ?_
 intro x3 h3
 refine jG 3 1 ⟨[V 2 (.osl 1 0 (List.length x3) 1)],[(1,.rows 1 (List.map cS x3))],2⟩ ?_
 exact jN (Af (BX (Fa a0 x3) (.inr rfl) (wkR [(0,some 1)] (Ap hF (k:=0) rfl) (pc (hL 1 (AP BS _)) AD)))))
abbrev Pr:List LO:=[BA 2 #[] 9]
abbrev Ps:List LO:=[lm 5 0 51,AH 6 5 0,AA 7 54 6 0 0,AF 8 9 7 9,lm 9 0 51,AH 10 9 0,AA 11 54 10 1 0,AF 12 3 11 3,AO 13 23 #[AE 8,AE 12,.const (.int .i64 1)] #[9,3,3] 3,AC 3 13 3]
abbrev Pt:List LO:=[lm 14 0 51,AH 15 14 0,AA 16 54 15 0 0,AF 17 9 16 9,lm 18 0 51,AH 19 18 0,AA 20 54 19 1 0,AF 21 3 20 3,lm 22 3 3,lo 23 (.slice 9 (AE 17) (some (AE 21)) (some (AE 22)) none) 9,AC 4 23 9]
abbrev Pu:List LO:=[lm 24 0 51,lm 25 3 3,AH 26 24 0,AA 27 54 26 1 0,AM 3 27 25 0]
abbrev Pv:List LO:=[lm 28 4 9,AO 29 46 #[AE 28] #[9] 9,AC 2 29 9]
abbrev JH:LC:=.seq (.reg false Pr) (.seq (.reg true Ps) (.seq (.reg true Pt) (.seq (.reg false Pu) (.seq (.reg false Pv) .ret))))
theorem Qu:Bf E 24 30 [.tmp 2] JH:=Bl Go.Proofs.Tryz.f24
abbrev Qt (a0:Str) (a1:Int) (a2:Int) (a3:Int) (r:Str × Int):CS:=⟨[V 2 (bs r.1)],[W 0 4 [bs a0,iv r.2,iv a2,iv a3]],1⟩
noncomputable def Bk (a0:Str) (a1:Int) (a2:Int) (a3:Int):Option (Str × Int):=Option.bind (Fz a0 a1 1) (fun x6=>Option.bind (EI a0 a1 x6) (fun x7=>Option.bind (HS x7) (fun x8=>some (x8,x6))))
theorem DP (a0:Str) (a1:Int) (a2:Int) (a3:Int):CtM E 24 [pt 0 4] [W 0 4 [bs a0,iv a1,iv a2,iv a3]] 1 (Bk a0 a1 a2 a3) (fun r:Str × Int=>bs r.1) (fun r:Str × Int=>[W 0 4 [bs a0,iv r.2,iv a2,iv a3]]) 1:=B5 (N:=30) (L:=JH) Qu rfl (Nat.le_of_ble_eq_true rfl) (fun F hF=>by
 unfold Bk
 refine jS ⟨[V 0 (pt 0 4)],[W 0 4 [bs a0,iv a1,iv a2,iv a3]],1⟩ ?_
 refine jR (jG 0 8 ⟨[V 0 (pt 0 4),V 8 (bs a0),V 12 (iv a1)],[W 0 4 [bs a0,iv a1,iv a2,iv a3]],1⟩ ?_)
 refine jK 8 (LT a0 a1 1) ?_
 intro x6 h6
 refine jG 9 1 ⟨[V 0 (pt 0 4),V 3 (iv x6)],[W 0 4 [bs a0,iv a1,iv a2,iv a3]],1⟩ ?_
 refine jN (jR (jG 0 9 ⟨[V 0 (pt 0 4),V 3 (iv x6),V 17 (bs a0),V 21 (iv a1),V 22 (iv x6)],[W 0 4 [bs a0,iv a1,iv a2,iv a3]],1⟩ ?_))
 refine A1 (i:=9) (mo:=EI a0 a1 x6) rfl rfl rfl rfl (fun _ hc=>FR (by kernel_rfl) (by kernel_rfl) (by kernel_rfl) (by kernel_rfl) hc) (fun _=>rfl) ?_
 intro x7 h7
 refine jG 10 1 ⟨[V 0 (pt 0 4),V 3 (iv x6),V 4 (bs x7)],[W 0 4 [bs a0,iv a1,iv a2,iv a3]],1⟩ ?_
 refine jN (jS ⟨[V 4 (bs x7)],[W 0 4 [bs a0,iv x6,iv a2,iv a3]],1⟩ ?_)
 refine jR (jG 0 1 ⟨[V 28 (bs x7)],[W 0 4 [bs a0,iv x6,iv a2,iv a3]],1⟩ ?_)
 refine jK 1 (UP x7) ?_
 intro x8 h8
 refine jG 2 1 ⟨[V 2 (bs x8)],[W 0 4 [bs a0,iv x6,iv a2,iv a3]],1⟩ ?_
 exact jN (Af (BX (Qt a0 a1 a2 a3 (x8,x6)) (.inr rfl) (wkR [(0,some 0)] (Ap hF (k:=1) rfl) (pc (hC 0) AD)))))
abbrev Kx:List LO:=[Ae 6 4]
abbrev Ky:List LO:=[lm 7 0 51,AH 8 7 0,AA 9 54 8 1 0,AF 10 3 9 3,lm 11 1 3,Ba 12 3 10 11 3 3,lm 13 0 51,AH 14 13 0,AA 15 54 14 0 0,AF 16 9 15 9,Ak 17 #[AE 16] #[9] 3,An 18 3 12 17 3 4,lm 19 18 4,lmg 20 0 51 19 true,Aq 21 20 0 19 true,AL 22 54 21 0 0 19 true,Aa 23 9 22 9 19 true,lmg 24 0 51 19 true,Aq 25 24 0 19 true,AL 26 54 25 1 0 19 true,Aa 27 3 26 3 19 true,lmg 28 1 3 19 true,lg 29 (.binOp .add 3 (AE 27) (AE 28) 3) 3 19 true,BP 30 9 23 29 5 19 true,lmg 31 2 3 19 true,AI 32 45 #[AE 30,AE 31] #[5,3] 4 19 true,AQ 33 19 32 4,AC 6 33 4]
abbrev LU:LC:=.seq (.reg false Kx) (.seq (.reg true Ky) .ret)
theorem LV:Bf E 25 34 [.tmp 6] LU:=Bl Go.Proofs.Tryz.f25
noncomputable def BD (a0:Str) (a1:Int) (a2:Int) (a3:Int) (a4:Int) (a5:Int):Option (Bool):=Option.bind (if (decide ((w64 (a1 + a4)) < (List.length a0:Int)))=true then Option.bind (idx a0 (w64 (a1 + a4))) (fun x4=>Option.bind (L9 x4 a5) (fun x5=>some x5)) else some false:Option (Bool)) (fun x3=>some x3)
theorem B6 (a0:Str) (a1:Int) (a2:Int) (a3:Int) (a4:Int) (a5:Int):Ct E 25 [.fptr [bs a0,iv a1,iv a2,iv a3] 0,iv a4,iv a5] (BD a0 a1 a2 a3 a4 a5) (fun r:Bool=>bv r):=CJ LV (by
 unfold BD
 refine jS ⟨[V 0 (.fptr [bs a0,iv a1,iv a2,iv a3] 0),V 1 (iv a4),V 2 (iv a5)],[],0⟩ ?_
 refine jR (jG 0 13 ⟨[V 0 (.fptr [bs a0,iv a1,iv a2,iv a3] 0),V 1 (iv a4),V 2 (iv a5),V 19 (bv (decide ((w64 (a1 + a4)) < (List.length a0:Int))))],[],0⟩ ?_)
 refine A5 13 14 (fun x3=>⟨[V 33 (bv x3)],[],0⟩) ?_ ?_
 ·refine jSp 19 ?_ ?_
  ·refine jG 0 10 ⟨[V 2 (iv a5),(19,.lit true),V 23 (bs a0),V 29 (iv (w64 (a1 + a4)))],[],0⟩ ?_
   refine A1 (i:=10) (mo:=idx a0 (w64 (a1 + a4))) rfl rfl rfl rfl (fun _ hc=>Bo (kk:=.i64) (by kernel_rfl) (by kernel_rfl) (by kernel_rfl) hc) (fun _=>rfl) ?_
   intro x4 h4
   refine jG 11 1 ⟨[(19,.lit true),V 30 (.s (.int .u8 x4)),V 31 (iv a5)],[],0⟩ ?_
   refine jK 12 (SL x4 a5) ?_
   intro x5 h5
   refine jG 13 1 ⟨[V 33 (bv x5)],[],0⟩ ?_
   exact Ad rfl (AT rfl BN)
  refine jG 0 14 ⟨[V 33 (bv false)],[],0⟩ ?_
  exact Ad rfl (AT rfl BN)
 intro x3
 refine jG 27 1 ⟨[V 6 (bv x3)],[],0⟩ ?_
 exact jN (Af (BL (bv x3))))
abbrev SN:List LO:=[lm 3 0 51,AH 4 3 0,AA 5 54 4 2 0,AA 6 25 5 0 0,AF 7 23 6 23,BM 8 23 7 0 23 4]
abbrev SO:List LO:=[As 2 10 23]
abbrev SP:List LO:=[lm 9 0 51,AH 10 9 0,AA 11 54 10 1 0,AF 12 3 11 3,lm 13 0 51,AH 14 13 0,AA 15 54 14 0 0,AF 16 9 15 9,Ak 17 #[AE 16] #[9] 3,CV 18 3 12 17 3 4]
abbrev SQ:List LO:=[As 2 11 23]
abbrev SR:List LO:=[lm 19 0 51,lm 20 2 23,lm 21 0 51,AH 22 21 0,AA 23 54 22 1 0,AF 24 3 23 3,lo 25 (.build 25 #[(0,AE 20),(1,AE 24)]) 25,AH 26 19 0,AA 27 54 26 2 0,AM 25 27 25 0]
abbrev LE:LC:=.seq (.seq (.reg false SN) (.cond (AE 8) .ret .skip)) (.seq (.reg false SO) (.seq (.seq (.reg true SP) (.cond (AE 18) (.reg false SQ) .skip)) (.reg false SR)))
theorem T3:Bf E 26 28 [] LE:=Bl Go.Proofs.Tryz.f26
abbrev LD (a0:Str) (a1:Int) (a2:Int) (a3:Int) (r:Int × Int):CS:=⟨[],[W 0 4 [bs a0,iv a1,iv r.1,iv r.2]],1⟩
noncomputable def Cv (a0:Str) (a1:Int) (a2:Int) (a3:Int):Option (Int × Int):=(if (a2 != 0)=true then some (a2,a3) else Option.bind ((if (decide (a1≥(List.length a0:Int)))=true then some 11 else some 10):Option (Int)) (fun x4=>some (x4,a1)))
theorem Gg (a0:Str) (a1:Int) (a2:Int) (a3:Int):CtM E 26 [pt 0 4] [W 0 4 [bs a0,iv a1,iv a2,iv a3]] 1 (Cv a0 a1 a2 a3) (fun r:Int × Int=>.tup []) (fun r:Int × Int=>[W 0 4 [bs a0,iv a1,iv r.1,iv r.2]]) 1:=B5 (N:=28) (L:=LE) T3 rfl (Nat.le_of_ble_eq_true rfl) (fun F hF=>by
 unfold Cv
 refine Aj (jS ⟨[V 0 (pt 0 4),V 8 (bv (a2 != 0))],[W 0 4 [bs a0,iv a1,iv a2,iv a3]],1⟩ ?_)
 refine jIf ?_ ?_
 ·exact Af (Au (BX (LD a0 a1 a2 a3 (a2,a3)) (.inr rfl) (wkR [(0,some 0)] (Ap hF (k:=1) rfl) (pc (hC 0) AD))))
 refine Ai (Ab (jS ⟨[V 0 (pt 0 4),V 2 (iv 10)],[W 0 4 [bs a0,iv a1,iv a2,iv a3]],1⟩ ?_))
 refine Aj ?_
 refine BB (fun x4=>⟨[V 0 (pt 0 4),V 2 (iv x4)],[W 0 4 [bs a0,iv a1,iv a2,iv a3]],1⟩) (fun x4=>.normal) ?_ ?_
 ·refine jS ⟨[V 0 (pt 0 4),V 2 (iv 10),V 18 (bv (decide (a1≥(List.length a0:Int))))],[W 0 4 [bs a0,iv a1,iv a2,iv a3]],1⟩ ?_
  refine jIf ?_ ?_
  ·refine jT ⟨[V 0 (pt 0 4),V 2 (iv 11)],[W 0 4 [bs a0,iv a1,iv a2,iv a3]],1⟩ ?_
   exact AT rfl (wkR [(0,some 0)] (Ap hF (k:=1) rfl) (pc (hC 0) AD))
  exact Ai (AT rfl (wkR [(0,some 0)] (Ap hF (k:=1) rfl) (pc (hC 0) AD)))
 intro x4
 refine Ab (jT ⟨[],[W 0 4 [bs a0,iv a1,iv x4,iv a1]],1⟩ ?_)
 exact BX (LD a0 a1 a2 a3 (x4,a1)) (.inl rfl) (wkR [(0,some 0)] (Ap hF (k:=1) rfl) (pc (hC 0) AD)))
abbrev lA:List LO:=[Ae 2 4]
abbrev lB:List LO:=[lm 3 0 5,Br 4 5 3 45 5 4,lm 5 4 4,lmg 6 0 5 5 false,A3 7 5 6 95 5 4 5 false,Al 8 5 7 4,lm 9 8 4,lmg 10 0 5 9 false,A3 11 5 10 46 5 4 9 false,Al 12 9 11 4,AC 2 12 4]
abbrev rZ:LC:=.seq (.reg false lA) (.seq (.reg false lB) .ret)
theorem rI:Bf E 77 13 [.tmp 2] rZ:=Bl Go.Proofs.Tryz.f77
noncomputable def Pq (a0:Int):Option (Bool):=some (((a0 == 45) || (a0 == 95)) || (a0 == 46))
theorem kI (a0:Int):Ct E 77 [.s (.int .u8 a0)] (Pq a0) (fun r:Bool=>bv r):=CJ rI (by
 unfold Pq
 refine jS ⟨[V 0 (.s (.int .u8 a0))],[],0⟩ ?_
 refine jS ⟨[V 2 (bv (((a0 == 45) || (a0 == 95)) || (a0 == 46)))],[],0⟩ ?_
 exact Af (BL (bv (((a0 == 45) || (a0 == 95)) || (a0 == 46)))))
abbrev Kz:List LO:=[Ae 4 4]
abbrev KI:List LO:=[lm 5 0 51,AH 6 5 0,AA 7 54 6 1 0,AF 8 3 7 3,lm 9 1 3,Ba 10 3 8 9 3 3,lm 11 0 51,AH 12 11 0,AA 13 54 12 0 0,AF 14 9 13 9,Ak 15 #[AE 14] #[9] 3,An 16 3 10 15 3 4,lm 17 16 4,lmg 18 0 51 17 true,Aq 19 18 0 17 true,AL 20 54 19 0 0 17 true,Aa 21 9 20 9 17 true,lmg 22 0 51 17 true,Aq 23 22 0 17 true,AL 24 54 23 1 0 17 true,Aa 25 3 24 3 17 true,lmg 26 1 3 17 true,lg 27 (.binOp .add 3 (AE 25) (AE 26) 3) 3 17 true,BP 28 9 21 27 5 17 true,AI 29 77 #[AE 28] #[5] 4 17 true,AQ 30 17 29 4,AC 4 30 4]
abbrev LW:LC:=.seq (.reg false Kz) (.seq (.reg true KI) .ret)
theorem LX:Bf E 47 31 [.tmp 4] LW:=Bl Go.Proofs.Tryz.f47
noncomputable def B1 (a0:Str) (a1:Int) (a2:Int) (a3:Int) (a4:Int):Option (Bool):=Option.bind (if (decide ((w64 (a1 + a4)) < (List.length a0:Int)))=true then Option.bind (idx a0 (w64 (a1 + a4))) (fun x4=>Option.bind (Pq x4) (fun x5=>some x5)) else some false:Option (Bool)) (fun x3=>some x3)
theorem Dr (a0:Str) (a1:Int) (a2:Int) (a3:Int) (a4:Int):Ct E 47 [.fptr [bs a0,iv a1,iv a2,iv a3] 0,iv a4] (B1 a0 a1 a2 a3 a4) (fun r:Bool=>bv r):=CJ LX (by
 unfold B1
 refine jS ⟨[V 0 (.fptr [bs a0,iv a1,iv a2,iv a3] 0),V 1 (iv a4)],[],0⟩ ?_
 refine jR (jG 0 13 ⟨[V 0 (.fptr [bs a0,iv a1,iv a2,iv a3] 0),V 1 (iv a4),V 17 (bv (decide ((w64 (a1 + a4)) < (List.length a0:Int))))],[],0⟩ ?_)
 refine A5 13 13 (fun x3=>⟨[V 30 (bv x3)],[],0⟩) ?_ ?_
 ·refine jSp 17 ?_ ?_
  ·refine jG 0 10 ⟨[(17,.lit true),V 21 (bs a0),V 27 (iv (w64 (a1 + a4)))],[],0⟩ ?_
   refine A1 (i:=10) (mo:=idx a0 (w64 (a1 + a4))) rfl rfl rfl rfl (fun _ hc=>Bo (kk:=.i64) (by kernel_rfl) (by kernel_rfl) (by kernel_rfl) hc) (fun _=>rfl) ?_
   intro x4 h4
   refine jK 11 (kI x4) ?_
   intro x5 h5
   refine jG 12 1 ⟨[V 30 (bv x5)],[],0⟩ ?_
   exact Ad rfl (AT rfl BN)
  refine jG 0 13 ⟨[V 30 (bv false)],[],0⟩ ?_
  exact Ad rfl (AT rfl BN)
 intro x3
 refine jG 26 1 ⟨[V 4 (bv x3)],[],0⟩ ?_
 exact jN (Af (BL (bv x3))))
abbrev SU:List LO:=[BA 4 #[] 9,Ae 5 4]
abbrev SV:List LO:=[As 6 0 3]
abbrev SW:List LO:=[lm 9 0 51,AO 10 47 #[AE 9,.const (.int .i64 0)] #[51,3] 4]
abbrev SX:List LO:=[As 6 1 3]
abbrev SY:List LO:=[lm 12 0 51,AH 13 12 0,AA 14 54 13 0 0,AF 15 9 14 9,lm 16 0 51,AH 17 16 0,AA 18 54 17 1 0,AF 19 3 18 3,lm 20 6 3,Ba 21 3 19 20 3 3,lm 22 1 32,AO 23 48 #[AE 15,AE 21,AE 22] #[9,3,32] 58,lm 11 23 58,Am 24 11 0 9,Am 25 11 1 4,AC 7 24 9,AC 8 25 4]
abbrev SZ:List LO:=[lm 26 8 4]
abbrev Sa:List LO:=[lm 27 0 51,lm 28 0 51,AH 29 28 0,AA 30 54 29 1 0,AF 31 3 30 3,lm 32 6 3,Ba 33 3 31 32 3 3,lm 34 7 9,Ak 35 #[AE 34] #[9] 3,Ba 36 3 33 35 3 3,AH 37 27 0,AA 38 54 37 1 0,AM 3 38 36 0]
abbrev Sb:List LO:=[lm 39 7 9,lm 40 8 4,AC 4 39 9,AC 5 40 4]
abbrev LF:LC:=.seq (.reg false SU) (.seq (.reg false SV) (.seq (.seq (.reg false SW) (.cond (AE 10) (.reg false SX) .skip)) (.seq (.reg true SY) (.seq (.seq (.reg false SZ) (.cond (AE 26) (.reg false Sa) .skip)) (.seq (.reg false Sb) .ret)))))
theorem T5:Bf E 27 41 [.tmp 4,.tmp 5] LF:=Bl Go.Proofs.Tryz.f27
abbrev T4 (a0:Str) (a1:Int) (a2:Int) (a3:Int) (a4:List Str) (r:Str × Bool × Int):CS:=⟨[V 4 (bs r.1),V 5 (bv r.2.1)],[W 0 4 [bs a0,iv r.2.2,iv a2,iv a3],(1,.rows 1 (List.map cS a4))],2⟩
noncomputable def Cw (a0:Str) (a1:Int) (a2:Int) (a3:Int) (a4:List Str):Option (Str × Bool × Int):=Option.bind (Option.bind (B1 a0 a1 a2 a3 0) (fun x10=>(if x10=true then some 1 else some 0)):Option (Int)) (fun x9=>Option.bind (Jj a0 (w64 (a1 + x9)) a4) (fun x11=>Option.bind ((if x11.2=true then some (w64 ((w64 (a1 + x9)) + (List.length x11.1:Int))) else some a1):Option (Int)) (fun x12=>some (x11.1,x11.2,x12))))
theorem Gh (a0:Str) (a1:Int) (a2:Int) (a3:Int) (a4:List Str):CtM E 27 [pt 0 4,.osl 1 0 (List.length a4) 1] [W 0 4 [bs a0,iv a1,iv a2,iv a3],(1,.rows 1 (List.map cS a4))] 2 (Cw a0 a1 a2 a3 a4) (fun r:Str × Bool × Int=>.tup [bs r.1,bv r.2.1]) (fun r:Str × Bool × Int=>[W 0 4 [bs a0,iv r.2.2,iv a2,iv a3],(1,.rows 1 (List.map cS a4))]) 2:=B5 (N:=41) (L:=LF) T5 rfl (Nat.le_of_ble_eq_true rfl) (fun F hF=>by
 unfold Cw
 refine jS ⟨[V 0 (pt 0 4),V 1 (.osl 1 0 (List.length a4) 1)],[W 0 4 [bs a0,iv a1,iv a2,iv a3],(1,.rows 1 (List.map cS a4))],2⟩ ?_
 refine jS ⟨[V 0 (pt 0 4),V 1 (.osl 1 0 (List.length a4) 1),V 6 (iv 0)],[W 0 4 [bs a0,iv a1,iv a2,iv a3],(1,.rows 1 (List.map cS a4))],2⟩ ?_
 refine Aj ?_
 refine BB (fun x9=>⟨[V 0 (pt 0 4),V 1 (.osl 1 0 (List.length a4) 1),V 6 (iv x9)],[W 0 4 [bs a0,iv a1,iv a2,iv a3],(1,.rows 1 (List.map cS a4))],2⟩) (fun x9=>.normal) ?_ ?_
 ·refine jR (jG 0 1 ⟨[V 0 (pt 0 4),V 1 (.osl 1 0 (List.length a4) 1),V 6 (iv 0),V 9 (pt 0 4)],[W 0 4 [bs a0,iv a1,iv a2,iv a3],(1,.rows 1 (List.map cS a4))],2⟩ ?_)
  refine By (i:=1) rfl rfl rfl rfl (vs:=[pt 0 4,iv 0]) (vs0:=[.fptr [bs a0,iv a1,iv a2,iv a3] 0,iv 0]) (b:=true) (by kernel_rfl) (by kernel_rfl) (AN (AY _) (AN (AY _) A2)) (Dr a0 a1 a2 a3 0) (fun _=>rfl) (fun _=>rfl) ?_
  intro x10 h10
  refine jN ?_
  refine jIf ?_ ?_
  ·refine jT ⟨[V 0 (pt 0 4),V 1 (.osl 1 0 (List.length a4) 1),V 6 (iv 1)],[W 0 4 [bs a0,iv a1,iv a2,iv a3],(1,.rows 1 (List.map cS a4))],2⟩ ?_
   exact AT rfl (wkR [(0,some 0),(1,some 1)] (Ap hF (k:=2) rfl) (pc (hC 0) (pc (hL 1 (AP BS _)) AD)))
  exact Ai (AT rfl (wkR [(0,some 0),(1,some 1)] (Ap hF (k:=2) rfl) (pc (hC 0) (pc (hL 1 (AP BS _)) AD))))
 intro x9
 refine Ab (jR (jG 0 11 ⟨[V 0 (pt 0 4),V 6 (iv x9),V 15 (bs a0),V 21 (iv (w64 (a1 + x9))),V 22 (.osl 1 0 (List.length a4) 1)],[W 0 4 [bs a0,iv a1,iv a2,iv a3],(1,.rows 1 (List.map cS a4))],2⟩ ?_))
 refine By (i:=11) rfl rfl rfl rfl (vs:=[bs a0,iv (w64 (a1 + x9)),.osl 1 0 (List.length a4) 1]) (by kernel_rfl) (AS rfl (AS rfl (AS (Ez oP (by kernel_rfl)) (BK _)))) (AN (AY _) (AN (AY _) (AN (AY _) A2))) (kM a0 (w64 (a1 + x9)) a4) (fun _=>rfl) (fun _=>rfl) ?_
 intro x11 h11
 refine jG 12 5 ⟨[V 0 (pt 0 4),V 6 (iv x9),V 7 (bs x11.1),V 8 (bv x11.2)],[W 0 4 [bs a0,iv a1,iv a2,iv a3],(1,.rows 1 (List.map cS a4))],2⟩ ?_
 refine jN (Aj ?_)
 refine BB (fun x12=>⟨[V 7 (bs x11.1),V 8 (bv x11.2)],[W 0 4 [bs a0,iv x12,iv a2,iv a3],(1,.rows 1 (List.map cS a4))],2⟩) (fun x12=>.normal) ?_ ?_
 ·refine jS ⟨[V 0 (pt 0 4),V 6 (iv x9),V 7 (bs x11.1),V 8 (bv x11.2),V 26 (bv x11.2)],[W 0 4 [bs a0,iv a1,iv a2,iv a3],(1,.rows 1 (List.map cS a4))],2⟩ ?_
  refine jIf ?_ ?_
  ·refine jT ⟨[V 7 (bs x11.1),V 8 (bv x11.2)],[W 0 4 [bs a0,iv (w64 ((w64 (a1 + x9)) + (List.length x11.1:Int))),iv a2,iv a3],(1,.rows 1 (List.map cS a4))],2⟩ ?_
   exact AT rfl (wkR [(0,some 0),(1,some 1)] (Ap hF (k:=2) rfl) (pc (hC 0) (pc (hL 1 (AP BS _)) AD)))
  exact Ai (AT rfl (wkR [(0,some 0),(1,some 1)] (Ap hF (k:=2) rfl) (pc (hC 0) (pc (hL 1 (AP BS _)) AD))))
 intro x12
 refine Ab (jS ⟨[V 4 (bs x11.1),V 5 (bv x11.2)],[W 0 4 [bs a0,iv x12,iv a2,iv a3],(1,.rows 1 (List.map cS a4))],2⟩ ?_)
 exact Af (BX (T4 a0 a1 a2 a3 a4 (x11.1,x11.2,x12)) (.inr rfl) (wkR [(0,some 0),(1,some 1)] (Ap hF (k:=2) rfl) (pc (hC 0) (pc (hL 1 (AP BS _)) AD)))))
abbrev aE:List LO:=[Hi 2 0 5]
abbrev aF:List LO:=[lm 3 0 9]
abbrev aG:List LO:=[BJ 5 9 3 #[97,108,112,104,97] 9 4,AC 4 5 4]
abbrev aH:List LO:=[BJ 6 9 3 #[97] 9 4,AC 4 6 4]
abbrev aJ:List LO:=[Hi 2 97 5]
abbrev aK:List LO:=[BJ 8 9 3 #[98,101,116,97] 9 4,AC 7 8 4]
abbrev aL:List LO:=[BJ 9 9 3 #[98] 9 4,AC 7 9 4]
abbrev aM:List LO:=[Hi 2 98 5]
abbrev aN:List LO:=[Hi 2 114 5]
abbrev fN:LC:=.seq (.reg false aE) (.seq (.seq (.reg false aF) (.block 0 (.seq (.seq (.reg false aG) (.cond (AE 4) .skip (.reg false aH))) (.cond (AE 4) (.seq (.reg false aJ) .ret) (.seq (.seq (.reg false aK) (.cond (AE 7) .skip (.reg false aL))) (.cond (AE 7) (.seq (.reg false aM) .ret) .skip)))))) (.seq (.reg false aN) .ret))
theorem fO:Bf E 28 10 [.tmp 2] fN:=Bl Go.Proofs.Tryz.f28
noncomputable def H9 (a0:Str):Option (Int):=Option.bind ((if (a0 == [97,108,112,104,97])=true then some true else some (a0 == [97])):Option (Bool)) (fun x1=>(if x1=true then some 97 else Option.bind ((if (a0 == [98,101,116,97])=true then some true else some (a0 == [98])):Option (Bool)) (fun x2=>(if x2=true then some 98 else some 114))))
theorem aD (a0:Str):Ct E 28 [bs a0] (H9 a0) (fun r:Int=>.s (.int .u8 r)):=CJ fO (by
 unfold H9
 refine jS ⟨[V 0 (bs a0)],[],0⟩ ?_
 refine Aj (jS ⟨[V 3 (bs a0)],[],0⟩ ?_)
 refine A4 (Aj ?_)
 refine BB (fun x1=>⟨[V 3 (bs a0),V 4 (bv x1)],[],0⟩) (fun x1=>.normal) ?_ ?_
 ·refine jS ⟨[V 3 (bs a0),V 4 (bv (a0 == [97,108,112,104,97]))],[],0⟩ ?_
  refine jIf ?_ ?_
  ·exact Ai (AT rfl BN)
  refine jT ⟨[V 3 (bs a0),V 4 (bv (a0 == [97]))],[],0⟩ ?_
  exact AT rfl BN
 intro x1
 refine Ab ?_
 refine jIf ?_ ?_
 ·refine jS ⟨[V 2 (.s (.int .u8 97))],[],0⟩ ?_
  exact Af (BG (Au (BL (.s (.int .u8 97)))))
 refine Aj ?_
 refine BB (fun x2=>⟨[V 7 (bv x2)],[],0⟩) (fun x2=>.normal) ?_ ?_
 ·refine jS ⟨[V 3 (bs a0),V 7 (bv (a0 == [98,101,116,97]))],[],0⟩ ?_
  refine jIf ?_ ?_
  ·exact Ai (AT rfl BN)
  refine jT ⟨[V 7 (bv (a0 == [98]))],[],0⟩ ?_
  exact AT rfl BN
 intro x2
 refine Ab ?_
 refine jIf ?_ ?_
 ·refine jS ⟨[V 2 (.s (.int .u8 98))],[],0⟩ ?_
  exact Af (BG (Au (BL (.s (.int .u8 98)))))
 refine Ai (BU (Ab (jS ⟨[V 2 (.s (.int .u8 114))],[],0⟩ ?_)))
 exact Af (BL (.s (.int .u8 114))))
abbrev P1:List LO:=[BA 2 #[] 9]
abbrev P2:List LO:=[lm 3 0 51,AO 4 47 #[AE 3,.const (.int .i64 0)] #[51,3] 4,lm 5 4 4,lmg 6 0 51 5 true,AI 7 25 #[AE 6,.const (.int .i64 1),.const (.int .i64 1)] #[51,3,3] 4 5 true,AQ 8 5 7 4]
abbrev P3:List LO:=[lm 9 0 51,AH 10 9 0,AA 11 54 10 1 0,AF 12 3 11 3,Ag 13 3 12 1 3 3,AH 14 9 0,AA 15 54 14 1 0,AM 3 15 13 0]
abbrev P4:List LO:=[lm 16 0 51,AO 17 25 #[AE 16,.const (.int .i64 0),.const (.int .i64 1)] #[51,3,3] 4,BQ 18 4 17 4]
abbrev P5:List LO:=[BA 2 #[48] 9]
abbrev P6:List LO:=[lm 19 0 51,AO 20 24 #[AE 19] #[51] 9,AC 2 20 9]
abbrev JK:LC:=.seq (.reg false P1) (.seq (.seq (.reg false P2) (.cond (AE 8) (.reg false P3) .skip)) (.seq (.seq (.reg false P4) (.cond (AE 18) (.seq (.reg false P5) .ret) .skip)) (.seq (.reg false P6) .ret)))
theorem Q5:Bf E 29 21 [.tmp 2] JK:=Bl Go.Proofs.Tryz.f29
abbrev JJ (a0:Str) (a1:Int) (a2:Int) (a3:Int) (r:Str × Int):CS:=⟨[V 2 (bs r.1)],[W 0 4 [bs a0,iv r.2,iv a2,iv a3]],1⟩
noncomputable def B0 (a0:Str) (a1:Int) (a2:Int) (a3:Int):Option (Str × Int):=Option.bind (Option.bind (B1 a0 a1 a2 a3 0) (fun x14=>Option.bind (if x14=true then Option.bind (BD a0 a1 a2 a3 1 1) (fun x17=>some x17) else some false:Option (Bool)) (fun x16=>(if x16=true then some (w64 (a1 + 1)) else some a1))):Option (Int)) (fun x13=>Option.bind (BD a0 x13 a2 a3 0 1) (fun x18=>(if (!x18)=true then some ([48],x13) else Option.bind (Bk a0 x13 a2 a3) (fun (x19,x20)=>some (x19,x20)))))
theorem FE (a0:Str) (a1:Int) (a2:Int) (a3:Int):CtM E 29 [pt 0 4] [W 0 4 [bs a0,iv a1,iv a2,iv a3]] 1 (B0 a0 a1 a2 a3) (fun r:Str × Int=>bs r.1) (fun r:Str × Int=>[W 0 4 [bs a0,iv r.2,iv a2,iv a3]]) 1:=B5 (N:=21) (L:=JK) Q5 rfl (Nat.le_of_ble_eq_true rfl) (fun F hF=>by
 unfold B0
 refine jS ⟨[V 0 (pt 0 4)],[W 0 4 [bs a0,iv a1,iv a2,iv a3]],1⟩ ?_
 refine Aj ?_
 refine BB (fun x13=>⟨[V 0 (pt 0 4)],[W 0 4 [bs a0,iv x13,iv a2,iv a3]],1⟩) (fun x13=>.normal) ?_ ?_
 ·refine jR (jG 0 1 ⟨[V 0 (pt 0 4),V 3 (pt 0 4)],[W 0 4 [bs a0,iv a1,iv a2,iv a3]],1⟩ ?_)
  refine By (i:=1) rfl rfl rfl rfl (vs:=[pt 0 4,iv 0]) (vs0:=[.fptr [bs a0,iv a1,iv a2,iv a3] 0,iv 0]) (b:=true) (by kernel_rfl) (by kernel_rfl) (AN (AY _) (AN (AY _) A2)) (Dr a0 a1 a2 a3 0) (fun _=>rfl) (fun _=>rfl) ?_
  intro x14 h14
  refine jG 2 1 ⟨[V 0 (pt 0 4),V 5 (bv x14)],[W 0 4 [bs a0,iv a1,iv a2,iv a3]],1⟩ ?_
  refine A5 3 3 (fun x16=>⟨[V 0 (pt 0 4),V 8 (bv x16)],[W 0 4 [bs a0,iv a1,iv a2,iv a3]],1⟩) ?_ ?_
  ·refine jSp 5 ?_ ?_
   ·refine jG 0 1 ⟨[V 0 (pt 0 4),(5,.lit true),V 6 (pt 0 4)],[W 0 4 [bs a0,iv a1,iv a2,iv a3]],1⟩ ?_
    refine By (i:=1) rfl rfl rfl rfl (vs:=[pt 0 4,iv 1,iv 1]) (vs0:=[.fptr [bs a0,iv a1,iv a2,iv a3] 0,iv 1,iv 1]) (b:=true) (by kernel_rfl) (by kernel_rfl) (AN (AY _) (AN (AY _) (AN (AY _) A2))) (B6 a0 a1 a2 a3 1 1) (fun _=>rfl) (fun _=>rfl) ?_
    intro x17 h17
    refine jG 2 1 ⟨[V 0 (pt 0 4),V 8 (bv x17)],[W 0 4 [bs a0,iv a1,iv a2,iv a3]],1⟩ ?_
    exact Ad rfl (AT rfl (wkR [(0,some 0)] (Ap hF (k:=1) rfl) (pc (hC 0) AD)))
   refine jG 0 3 ⟨[V 0 (pt 0 4),V 8 (bv false)],[W 0 4 [bs a0,iv a1,iv a2,iv a3]],1⟩ ?_
   exact Ad rfl (AT rfl (wkR [(0,some 0)] (Ap hF (k:=1) rfl) (pc (hC 0) AD)))
  intro x16
  refine jN ?_
  refine jIf ?_ ?_
  ·refine jT ⟨[V 0 (pt 0 4)],[W 0 4 [bs a0,iv (w64 (a1 + 1)),iv a2,iv a3]],1⟩ ?_
   exact AT rfl (wkR [(0,some 0)] (Ap hF (k:=1) rfl) (pc (hC 0) AD))
  exact Ai (AT rfl (wkR [(0,some 0)] (Ap hF (k:=1) rfl) (pc (hC 0) AD)))
 intro x13
 refine Ab (Aj (jR (jG 0 1 ⟨[V 0 (pt 0 4),V 16 (pt 0 4)],[W 0 4 [bs a0,iv x13,iv a2,iv a3]],1⟩ ?_)))
 refine By (i:=1) rfl rfl rfl rfl (vs:=[pt 0 4,iv 0,iv 1]) (vs0:=[.fptr [bs a0,iv x13,iv a2,iv a3] 0,iv 0,iv 1]) (b:=true) (by kernel_rfl) (by kernel_rfl) (AN (AY _) (AN (AY _) (AN (AY _) A2))) (B6 a0 x13 a2 a3 0 1) (fun _=>rfl) (fun _=>rfl) ?_
 intro x18 h18
 refine jG 2 1 ⟨[V 0 (pt 0 4),V 18 (bv (!x18))],[W 0 4 [bs a0,iv x13,iv a2,iv a3]],1⟩ ?_
 refine jN ?_
 refine jIf ?_ ?_
 ·refine jS ⟨[V 2 (bs [48])],[W 0 4 [bs a0,iv x13,iv a2,iv a3]],1⟩ ?_
  exact Af (Au (BX (JJ a0 a1 a2 a3 ([48],x13)) (.inr rfl) (wkR [(0,some 0)] (Ap hF (k:=1) rfl) (pc (hC 0) AD))))
 refine Ai (Ab (jR (jG 0 1 ⟨[V 19 (pt 0 4)],[W 0 4 [bs a0,iv x13,iv a2,iv a3]],1⟩ ?_)))
 refine A8 1 [(0,some 0)] [(0,some 0)] (fun r:Str × Int=>[W 0 4 [bs a0,iv r.2,iv a2,iv a3]]) (fun r:Str × Int=>bs r.1) 1 (DP a0 x13 a2 a3) (pc (hC 0) AD) (fun r=>(pc (.inr (hC 0)) AD)) ?_
 rintro⟨x19,x20⟩ hm2
 refine jG 2 1 ⟨[V 2 (bs x19)],[W 0 4 [bs a0,iv x20,iv a2,iv a3]],1⟩ ?_
 exact jN (Af (BX (JJ a0 a1 a2 a3 (x19,x20)) (.inr rfl) (wkR [(0,some 0)] (Ap hF (k:=1) rfl) (pc (hC 0) AD)))))
abbrev Qw:List LO:=[Bd 2 (.const (.slice none 0 0)) 32]
abbrev Qx:List LO:=[Bd 3 (.const (.slice none 0 0)) 32]
abbrev Qy:List LO:=[lm 6 0 51,AH 7 6 0,AA 8 54 7 1 0,AF 9 3 8 3,Ag 10 3 9 1 3 3,AH 11 6 0,AA 12 54 11 1 0,AM 3 12 10 0]
abbrev Qz:List LO:=[lm 13 0 51,AH 14 13 0,AA 15 54 14 0 0,AF 16 9 15 9,lm 17 0 51,AH 18 17 0,AA 19 54 18 1 0,AF 20 3 19 3,AO 21 23 #[AE 16,AE 20,.const (.int .i64 5)] #[9,3,3] 3,AC 4 21 3]
abbrev QI:List LO:=[lm 22 4 3,lm 23 0 51,AH 24 23 0,AA 25 54 24 1 0,AF 26 3 25 3,CU 27 3 22 26 3 4]
abbrev Q0:List LO:=[lm 28 0 51,AO 29 26 #[AE 28] #[51] 0]
abbrev Q1:List LO:=[Bd 2 (.const (.slice none 0 0)) 32]
abbrev Q3:List LO:=[lm 30 0 51,AH 31 30 0,AA 32 54 31 0 0,AF 33 9 32 9,lm 34 0 51,AH 35 34 0,AA 36 54 35 1 0,AF 37 3 36 3,lm 38 4 3,lo 39 (.slice 9 (AE 33) (some (AE 37)) (some (AE 38)) none) 9,AC 5 39 9]
abbrev Q4:List LO:=[lm 40 5 9,AO 41 23 #[AE 40,.const (.int .i64 0),.const (.int .i64 1)] #[9,3,3] 3,lm 42 5 9,Ak 43 #[AE 42] #[9] 3,CU 44 3 41 43 3 4]
abbrev Pw:List LO:=[lm 45 5 9,AO 46 46 #[AE 45] #[9] 9,AC 5 46 9]
abbrev Px:List LO:=[lm 47 3 32,lm 48 5 9,lo 49 (.buildSlice 32 1 #[(0,AE 48)]) 32,DT 50 #[AE 47,AE 49] #[32,32] 32,AC 3 50 32]
abbrev Py:List LO:=[lm 51 0 51,lm 52 4 3,AH 53 51 0,AA 54 54 53 1 0,AM 3 54 52 0]
abbrev Pz:List LO:=[lm 55 0 51,AO 56 47 #[AE 55,.const (.int .i64 0)] #[51,3] 4,BQ 57 4 56 4,lm 58 57 4,lmg 59 0 51 58 false,AI 60 25 #[AE 59,.const (.int .i64 1),.const (.int .i64 5)] #[51,3,3] 4 58 false,Ax 61 4 60 4 58 false,Al 62 58 61 4]
abbrev PI:List LO:=[lm 63 3 32,AC 2 63 32]
abbrev P0:List LO:=[lm 64 0 51,AH 65 64 0,AA 66 54 65 1 0,AF 67 3 66 3,Ag 68 3 67 1 3 3,AH 69 64 0,AA 70 54 69 1 0,AM 3 70 68 0]
abbrev KY:LC:=.seq (.reg false Qw) (.seq (.reg false Qx) (.seq (.reg false Qy) (.block 0 (.loop (.block 1 (.seq (.reg true Qz) (.seq (.seq (.reg false QI) (.cond (AE 27) (.seq (.reg false Q0) (.seq (.reg false Q1) .ret)) .skip)) (.seq (.reg true Q3) (.seq (.seq (.reg false Q4) (.cond (AE 44) (.reg false Pw) .skip)) (.seq (.reg false Px) (.seq (.reg false Py) (.seq (.seq (.reg false Pz) (.cond (AE 62) (.seq (.reg false PI) .ret) .skip)) (.reg false P0)))))))))))))
theorem ST:Bf E 30 71 [.tmp 2] KY:=Bl Go.Proofs.Tryz.f30
noncomputable def CY (a0:Str) (a2:Int) (a3:Int):(Int × List Str)→Option (Step (Int × List Str) (List Str × Int × Int × Int)):=fun (x46,x47)=>Option.bind (Fz a0 x46 5) (fun x65=>(if (x65 == x46)=true then Option.bind (Cv a0 x46 a2 a3) (fun (x66,x67)=>some (Step.done ([],x46,x66,x67))) else Option.bind (EI a0 x46 x65) (fun x68=>Option.bind (Option.bind (Fz x68 0 1) (fun x72=>(if (x72 == (List.length x68:Int))=true then Option.bind (HS x68) (fun x73=>some x73) else some x68)):Option (Str)) (fun x71=>Option.bind (app 16 x47 [x71]) (fun x74=>Option.bind (B1 a0 x65 a2 a3 0) (fun x75=>Option.bind (if (!x75)=true then some true else Option.bind (BD a0 x65 a2 a3 1 5) (fun x78=>some (!x78)):Option (Bool)) (fun x77=>(if x77=true then some (Step.done (x74,x65,a2,a3)) else some (Step.next ((w64 (x65 + 1)),x74))))))))))
abbrev SS (a0:Str) (a1:Int) (a2:Int) (a3:Int) (r:List Str × Int × Int × Int):CS:=⟨[V 2 (.osl 1 0 (List.length r.1) 1)],[W 0 4 [bs a0,iv r.2.1,iv r.2.2.1,iv r.2.2.2],(1,.rows 1 (List.map cS r.1))],2⟩
noncomputable def D9 (a0:Str) (a1:Int) (a2:Int) (a3:Int):Option (List Str × Int × Int × Int):=Option.bind (B9 (CY a0 a2 a3) ((w64 (a1 + 1)),[])) (fun (x61,x62,x63,x64)=>some (x61,x62,x63,x64))
theorem Qv (a0:Str) (a1:Int) (a2:Int) (a3:Int):CtM E 30 [pt 0 4] [W 0 4 [bs a0,iv a1,iv a2,iv a3]] 1 (D9 a0 a1 a2 a3) (fun r:List Str × Int × Int × Int=>.osl 1 0 (List.length r.1) 1) (fun r:List Str × Int × Int × Int=>[W 0 4 [bs a0,iv r.2.1,iv r.2.2.1,iv r.2.2.2],(1,.rows 1 (List.map cS r.1))]) 2:=B5 (N:=71) (L:=KY) ST rfl (Nat.le_of_ble_eq_true rfl) (fun F hF=>by
 unfold D9
 refine jS ⟨[V 0 (pt 0 4)],[W 0 4 [bs a0,iv a1,iv a2,iv a3]],1⟩ ?_
 refine jS ⟨[V 0 (pt 0 4),V 3 (AR)],[W 0 4 [bs a0,iv a1,iv a2,iv a3]],1⟩ ?_
 refine jS ⟨[V 0 (pt 0 4),V 3 (AR)],[W 0 4 [bs a0,iv (w64 (a1 + 1)),iv a2,iv a3]],1⟩ ?_
 refine A4 ?_
 refine BB (fun (x61,x62,x63,x64)=>⟨[V 2 (.osl 1 0 (List.length x61) 1)],[W 0 4 [bs a0,iv x62,iv x63,iv x64],(1,.rows 1 (List.map cS x61))],2⟩) (fun (x61,x62,x63,x64)=>.ret) (Cq (fun (x46,x47)=>⟨[V 0 (pt 0 4),V 3 (.osl 1 0 (List.length x47) 1)],[W 0 4 [bs a0,iv x46,iv a2,iv a3],(1,.rows 1 (List.map cS x47))],2⟩) (wkR [(0,some 0),(1,none)] (Ap hF (k:=1) rfl) (pc (hC 0) (pc hZ AD))) ?_) ?_
 ·rintro⟨x46,x47⟩
  unfold CY
  refine A4 (jR (jG 0 8 ⟨[V 0 (pt 0 4),V 3 (.osl 1 0 (List.length x47) 1),V 16 (bs a0),V 20 (iv x46)],[W 0 4 [bs a0,iv x46,iv a2,iv a3],(1,.rows 1 (List.map cS x47))],2⟩ ?_))
  refine jK 8 (LT a0 x46 5) ?_
  intro x65 h65
  refine jG 9 1 ⟨[V 0 (pt 0 4),V 3 (.osl 1 0 (List.length x47) 1),V 4 (iv x65)],[W 0 4 [bs a0,iv x46,iv a2,iv a3],(1,.rows 1 (List.map cS x47))],2⟩ ?_
  refine jN (Aj (jS ⟨[V 0 (pt 0 4),V 3 (.osl 1 0 (List.length x47) 1),V 4 (iv x65),V 27 (bv (x65 == x46))],[W 0 4 [bs a0,iv x46,iv a2,iv a3],(1,.rows 1 (List.map cS x47))],2⟩ ?_))
  refine jIf ?_ ?_
  ·refine jR (jG 0 1 ⟨[V 28 (pt 0 4)],[W 0 4 [bs a0,iv x46,iv a2,iv a3]],2⟩ ?_)
   refine A8 1 [(0,some 0)] [(0,some 0)] (fun r:Int × Int=>[W 0 4 [bs a0,iv x46,iv r.1,iv r.2]]) (fun r:Int × Int=>.tup []) 2 (Gg a0 x46 a2 a3) (pc (hC 0) AD) (fun r=>(pc (.inr (hC 0)) AD)) ?_
   rintro⟨x66,x67⟩ hm5
   refine jN (jS ⟨[V 2 (AR)],[W 0 4 [bs a0,iv x46,iv x66,iv x67]],2⟩ ?_)
   exact Af (Au (BG (Bc rfl nofun (wkR [(0,some 0),(1,none)] (Ap hF (k:=1) rfl) (pc (hC 0) (pc hZ AD))))))
  refine Ai (Ab (jR (jG 0 9 ⟨[V 0 (pt 0 4),V 3 (.osl 1 0 (List.length x47) 1),V 4 (iv x65),V 33 (bs a0),V 37 (iv x46),V 38 (iv x65)],[W 0 4 [bs a0,iv x46,iv a2,iv a3],(1,.rows 1 (List.map cS x47))],2⟩ ?_)))
  refine A1 (i:=9) (mo:=EI a0 x46 x65) rfl rfl rfl rfl (fun _ hc=>FR (by kernel_rfl) (by kernel_rfl) (by kernel_rfl) (by kernel_rfl) hc) (fun _=>rfl) ?_
  intro x68 h68
  refine jG 10 1 ⟨[V 0 (pt 0 4),V 3 (.osl 1 0 (List.length x47) 1),V 4 (iv x65),V 5 (bs x68)],[W 0 4 [bs a0,iv x46,iv a2,iv a3],(1,.rows 1 (List.map cS x47))],2⟩ ?_
  refine jN (Aj ?_)
  refine BB (fun x71=>⟨[V 0 (pt 0 4),V 3 (.osl 1 0 (List.length x47) 1),V 4 (iv x65),V 5 (bs x71)],[W 0 4 [bs a0,iv x46,iv a2,iv a3],(1,.rows 1 (List.map cS x47))],2⟩) (fun x71=>.normal) ?_ ?_
  ·refine jR (jG 0 1 ⟨[V 0 (pt 0 4),V 3 (.osl 1 0 (List.length x47) 1),V 4 (iv x65),V 5 (bs x68),V 40 (bs x68)],[W 0 4 [bs a0,iv x46,iv a2,iv a3],(1,.rows 1 (List.map cS x47))],2⟩ ?_)
   refine jK 1 (LT x68 0 1) ?_
   intro x72 h72
   refine jG 2 3 ⟨[V 0 (pt 0 4),V 3 (.osl 1 0 (List.length x47) 1),V 4 (iv x65),V 5 (bs x68),V 44 (bv (x72 == (List.length x68:Int)))],[W 0 4 [bs a0,iv x46,iv a2,iv a3],(1,.rows 1 (List.map cS x47))],2⟩ ?_
   refine jN ?_
   refine jIf ?_ ?_
   ·refine CX (jG 0 1 ⟨[V 0 (pt 0 4),V 3 (.osl 1 0 (List.length x47) 1),V 4 (iv x65),V 45 (bs x68)],[W 0 4 [bs a0,iv x46,iv a2,iv a3],(1,.rows 1 (List.map cS x47))],2⟩ ?_)
    refine jK 1 (UP x68) ?_
    intro x73 h73
    refine jG 2 1 ⟨[V 0 (pt 0 4),V 3 (.osl 1 0 (List.length x47) 1),V 4 (iv x65),V 5 (bs x73)],[W 0 4 [bs a0,iv x46,iv a2,iv a3],(1,.rows 1 (List.map cS x47))],2⟩ ?_
    exact Ad rfl (AT rfl (wkR [(0,some 0),(1,some 1)] (Ap hF (k:=1) rfl) (pc (hC 0) (pc (hL 1 (AP BS _)) AD))))
   exact Ai (AT rfl (wkR [(0,some 0),(1,some 1)] (Ap hF (k:=1) rfl) (pc (hC 0) (pc (hL 1 (AP BS _)) AD))))
  intro x71
  refine Ab (jR (jG 0 3 ⟨[V 0 (pt 0 4),V 4 (iv x65),V 47 (.osl 1 0 (List.length x47) 1),V 49 (.osl 2 0 (List.length [x71]) 1)],[W 0 4 [bs a0,iv x46,iv a2,iv a3],(1,.rows 1 (List.map cS x47)),(2,.rows 1 (List.map cS [x71]))],3⟩ ?_))
  refine A1 (i:=3) (mo:=app 16 x47 [x71]) rfl rfl rfl rfl (fun _ hc=>LJ (u:=.osl 1 0 (List.length x47) 1) (w:=.osl 2 0 (List.length [x71]) 1) (e:=9) (td:=.slice 9) (by kernel_rfl) (by kernel_rfl) (by kernel_rfl) (by kernel_rfl) (.inl ⟨_,rfl⟩) (E5 (c:=cS) (sz:=1) (b:=16) (id:=1) (by kernel_rfl) (by kernel_rfl) (Oe (by kernel_rfl)) (List.cons_ne_nil _ _) hc)) (fun _=>rfl) ?_
  intro x74 h74
  refine jG 4 1 ⟨[V 0 (pt 0 4),V 3 (.osl 3 0 (List.length x74) 1),V 4 (iv x65)],[W 0 4 [bs a0,iv x46,iv a2,iv a3],(3,.rows 1 (List.map cS x74))],4⟩ ?_
  refine jN (jS ⟨[V 0 (pt 0 4),V 3 (.osl 3 0 (List.length x74) 1)],[W 0 4 [bs a0,iv x65,iv a2,iv a3],(3,.rows 1 (List.map cS x74))],4⟩ ?_)
  refine Aj (jR (jG 0 1 ⟨[V 0 (pt 0 4),V 3 (.osl 3 0 (List.length x74) 1),V 55 (pt 0 4)],[W 0 4 [bs a0,iv x65,iv a2,iv a3],(3,.rows 1 (List.map cS x74))],4⟩ ?_))
  refine By (i:=1) rfl rfl rfl rfl (vs:=[pt 0 4,iv 0]) (vs0:=[.fptr [bs a0,iv x65,iv a2,iv a3] 0,iv 0]) (b:=true) (by kernel_rfl) (by kernel_rfl) (AN (AY _) (AN (AY _) A2)) (Dr a0 x65 a2 a3 0) (fun _=>rfl) (fun _=>rfl) ?_
  intro x75 h75
  refine jG 2 2 ⟨[V 0 (pt 0 4),V 3 (.osl 3 0 (List.length x74) 1),V 58 (bv (!x75))],[W 0 4 [bs a0,iv x65,iv a2,iv a3],(3,.rows 1 (List.map cS x74))],4⟩ ?_
  refine A5 4 4 (fun x77=>⟨[V 0 (pt 0 4),V 3 (.osl 1 0 (List.length x74) 1),V 62 (bv x77)],[W 0 4 [bs a0,iv x65,iv a2,iv a3],(1,.rows 1 (List.map cS x74))],2⟩) ?_ ?_
  ·refine jSp 58 ?_ ?_
   ·refine jG 0 4 ⟨[V 0 (pt 0 4),V 3 (.osl 3 0 (List.length x74) 1),V 62 (bv true)],[W 0 4 [bs a0,iv x65,iv a2,iv a3],(3,.rows 1 (List.map cS x74))],4⟩ ?_
    exact Ad rfl (AT rfl (wkR [(0,some 0),(1,some 3)] (Ap hF (k:=1) rfl) (pc (hC 0) (pc (hL 3 (AP BS _)) AD))))
   refine jG 0 1 ⟨[V 0 (pt 0 4),V 3 (.osl 3 0 (List.length x74) 1),(58,.lit false),V 59 (pt 0 4)],[W 0 4 [bs a0,iv x65,iv a2,iv a3],(3,.rows 1 (List.map cS x74))],4⟩ ?_
   refine By (i:=1) rfl rfl rfl rfl (vs:=[pt 0 4,iv 1,iv 5]) (vs0:=[.fptr [bs a0,iv x65,iv a2,iv a3] 0,iv 1,iv 5]) (b:=true) (by kernel_rfl) (by kernel_rfl) (AN (AY _) (AN (AY _) (AN (AY _) A2))) (B6 a0 x65 a2 a3 1 5) (fun _=>rfl) (fun _=>rfl) ?_
   intro x78 h78
   refine jG 2 2 ⟨[V 0 (pt 0 4),V 3 (.osl 3 0 (List.length x74) 1),V 62 (bv (!x78))],[W 0 4 [bs a0,iv x65,iv a2,iv a3],(3,.rows 1 (List.map cS x74))],4⟩ ?_
   exact Ad rfl (AT rfl (wkR [(0,some 0),(1,some 3)] (Ap hF (k:=1) rfl) (pc (hC 0) (pc (hL 3 (AP BS _)) AD))))
  intro x77
  refine jN ?_
  refine jIf ?_ ?_
  ·refine jS ⟨[V 2 (.osl 1 0 (List.length x74) 1)],[W 0 4 [bs a0,iv x65,iv a2,iv a3],(1,.rows 1 (List.map cS x74))],2⟩ ?_
   exact Af (Au (BG (Bc rfl nofun (wkR [(0,some 0),(1,some 1)] (Ap hF (k:=1) rfl) (pc (hC 0) (pc (hL 1 (AP BS _)) AD))))))
  refine Ai (Ab (jT ⟨[V 0 (pt 0 4),V 3 (.osl 1 0 (List.length x74) 1)],[W 0 4 [bs a0,iv (w64 (x65 + 1)),iv a2,iv a3],(1,.rows 1 (List.map cS x74))],2⟩ ?_))
  exact BU (Cs (wkR [(0,some 0),(1,some 1)] (Ap hF (k:=1) rfl) (pc (hC 0) (pc (hL 1 (AP BS _)) AD))))
 rintro⟨x61,x62,x63,x64⟩
 exact BG (BX (SS a0 a1 a2 a3 (x61,x62,x63,x64)) (.inr rfl) (wkR [(0,some 0),(1,some 1)] (Ap hF (k:=1) rfl) (pc (hC 0) (pc (hL 1 (AP BS _)) AD)))))
end Go.Vm

/- The law PyspecBetween, a part of its proof: what the functions that it reaches compute. -/
import Derived.Test.YtdenfejaedgehaaGreatDoorDxd5fd90ce
set_option linter.unusedVariables false
set_option linter.unusedSimpArgs false
set_option linter.unusedVariables false
namespace Go.Vm
open Go
structure Ac where
 Epoch:Str
 Release:(List Str)
 Pre:Int
 PreNum:Str
 Post:Bool
 PostNum:Str
 Dev:Bool
 DevNum:Str
 Local:(List Str)
 deriving DecidableEq,Inhabited
abbrev AJ (x:Ac):List AV:=[bs x.Epoch,.fsl 1 (List.map cS x.Release),.s (.int .u8 x.Pre),bs x.PreNum,bv x.Post,bs x.PostNum,bv x.Dev,bs x.DevNum,.fsl 1 (List.map cS x.Local)]
structure C9 where
 Err:Int
 At:Int
 deriving DecidableEq,Inhabited
structure AK where
 Op:Str
 Ver:Str
 Star:Bool
 deriving DecidableEq,Inhabited
abbrev AC (x:AK):List AV:=[bs x.Op,bs x.Ver,bv x.Star]
theorem A3 (x:AK):QN (AC x):=L1 (cT _) (L1 (cT _) (L1 (cT _) (W6)))
theorem Mq (x:AK):Frz (AC x):=AAi (AAi (AAi (AAh)))
structure AZ where
 c:AK
 text:Str
 v:Ac
 w:Ac
 deriving DecidableEq,Inhabited
abbrev AT (x:AZ):List AV:=[bs x.c.Op,bs x.c.Ver,bv x.c.Star,bs x.text,bs x.v.Epoch,.fsl 1 (List.map cS x.v.Release),.s (.int .u8 x.v.Pre),bs x.v.PreNum,bv x.v.Post,bs x.v.PostNum,bv x.v.Dev,bs x.v.DevNum,.fsl 1 (List.map cS x.v.Local),bs x.w.Epoch,.fsl 1 (List.map cS x.w.Release),.s (.int .u8 x.w.Pre),bs x.w.PreNum,bv x.w.Post,bs x.w.PostNum,bv x.w.Dev,bs x.w.DevNum,.fsl 1 (List.map cS x.w.Local)]
set_option maxRecDepth 100000
set_option maxHeartbeats 0
set_option linter.unusedSimpArgs false
abbrev Ws:List LO:=[Ag 2 4]
abbrev Wt:List LO:=[lm 3 0 3,lm 4 0 3,Ck 5 3 3 4 3 4,AB 2 5 4]
abbrev Yn:LC:=.seq (.reg false Ws) (.seq (.reg false Wt) .ret)
theorem Yo:Bf E 117 6 [.tmp 2] Yn:=Bp Go.Proofs.Tryz.f117
noncomputable def Fs (a0:Int):Option (Bool):=some (a0 != a0)
theorem Nt (a0:Int):Ct E 117 [iv a0] (Fs a0) (fun r:Bool=>bv r):=CN Yo (by
 unfold Fs
 refine jS ⟨[V 0 (iv a0)],[],0⟩ ?_
 refine jS ⟨[V 2 (bv (a0 != a0))],[],0⟩ ?_
 exact Ae (BO (bv (a0 != a0))))
abbrev UP:List LO:=[Ap 4 0 3]
abbrev UQ:List LO:=[lm 7 0 3,AN 8 117 #[AE 7] #[3] 4,AB 5 8 4]
abbrev UR:List LO:=[lm 9 1 3,AN 10 117 #[AE 9] #[3] 4,AB 6 10 4]
abbrev US:List LO:=[lm 11 5 4]
abbrev UT:List LO:=[lm 12 6 4]
abbrev UU:List LO:=[Ap 4 0 3]
abbrev UV:List LO:=[Bd 4 (.const (.int .i64 (-1))) 3]
abbrev UW:List LO:=[lm 13 6 4]
abbrev UX:List LO:=[Ap 4 1 3]
abbrev TP:List LO:=[lm 14 0 3,lm 15 1 3,Al 16 3 14 15 3 4]
abbrev TQ:List LO:=[Bd 4 (.const (.int .i64 (-1))) 3]
abbrev TR:List LO:=[lm 17 0 3,lm 18 1 3,lo 19 (.binOp .gtr 3 (AE 17) (AE 18) 3) 4]
abbrev TS:List LO:=[Ap 4 1 3]
abbrev TT:List LO:=[Ap 4 0 3]
abbrev Vb:LC:=.seq (.reg false UP) (.seq (.reg false UQ) (.seq (.reg false UR) (.seq (.seq (.reg false US) (.cond (AE 11) (.seq (.seq (.reg false UT) (.cond (AE 12) (.seq (.reg false UU) .ret) .skip)) (.seq (.reg false UV) .ret)) .skip)) (.seq (.seq (.reg false UW) (.cond (AE 13) (.seq (.reg false UX) .ret) .skip)) (.seq (.seq (.reg false TP) (.cond (AE 16) (.seq (.reg false TQ) .ret) .skip)) (.seq (.seq (.reg false TR) (.cond (AE 19) (.seq (.reg false TS) .ret) .skip)) (.seq (.reg false TT) .ret)))))))
theorem Vc:Bf E 94 20 [.tmp 4] Vb:=Bp Go.Proofs.Tryz.f94
noncomputable def Dq (a0:Int) (a1:Int):Option (Int):=Option.bind (Fs a0) (fun x1=>Option.bind (Fs a1) (fun x2=>(if x1=true then (if x2=true then some 0 else some (-1)) else (if x2=true then some 1 else (if (decide (a0 < a1))=true then some (-1) else (if (decide (a0 > a1))=true then some 1 else some 0))))))
theorem HN (a0:Int) (a1:Int):Ct E 94 [iv a0,iv a1] (Dq a0 a1) (fun r:Int=>iv r):=CN Vc (by
 unfold Dq
 refine jS ⟨[V 0 (iv a0),V 1 (iv a1)],[],0⟩ ?_
 refine jR (jG 0 1 ⟨[V 0 (iv a0),V 1 (iv a1),V 7 (iv a0)],[],0⟩ ?_)
 refine jK 1 (Nt a0) ?_
 intro x1 h1
 refine jG 2 1 ⟨[V 0 (iv a0),V 1 (iv a1),V 5 (bv x1)],[],0⟩ ?_
 refine jN (jR (jG 0 1 ⟨[V 0 (iv a0),V 1 (iv a1),V 5 (bv x1),V 9 (iv a1)],[],0⟩ ?_))
 refine jK 1 (Nt a1) ?_
 intro x2 h2
 refine jG 2 1 ⟨[V 0 (iv a0),V 1 (iv a1),V 5 (bv x1),V 6 (bv x2)],[],0⟩ ?_
 refine jN (Aj (jS ⟨[V 0 (iv a0),V 1 (iv a1),V 6 (bv x2),V 11 (bv x1)],[],0⟩ ?_))
 refine jIf ?_ ?_
 ·refine Aj (jS ⟨[V 12 (bv x2)],[],0⟩ ?_)
  refine jIf ?_ ?_
  ·refine jS ⟨[V 4 (iv 0)],[],0⟩ ?_
   exact Ae (Ar (Ar (BO (iv 0))))
  refine Ah (Ab (jS ⟨[V 4 (iv (-1))],[],0⟩ ?_))
  exact Ae (Ar (BO (iv (-1))))
 refine Ah (Ab (Aj (jS ⟨[V 0 (iv a0),V 1 (iv a1),V 13 (bv x2)],[],0⟩ ?_)))
 refine jIf ?_ ?_
 ·refine jS ⟨[V 4 (iv 1)],[],0⟩ ?_
  exact Ae (Ar (BO (iv 1)))
 refine Ah (Ab (Aj (jS ⟨[V 0 (iv a0),V 1 (iv a1),V 16 (bv (decide (a0 < a1)))],[],0⟩ ?_)))
 refine jIf ?_ ?_
 ·refine jS ⟨[V 4 (iv (-1))],[],0⟩ ?_
  exact Ae (Ar (BO (iv (-1))))
 refine Ah (Ab (Aj (jS ⟨[V 19 (bv (decide (a0 > a1)))],[],0⟩ ?_)))
 refine jIf ?_ ?_
 ·refine jS ⟨[V 4 (iv 1)],[],0⟩ ?_
  exact Ae (Ar (BO (iv 1)))
 refine Ah (Ab (jS ⟨[V 4 (iv 0)],[],0⟩ ?_))
 exact Ae (BO (iv 0)))
abbrev gG:List LO:=[Ap 2 0 3]
abbrev gH:List LO:=[Ap 3 0 3]
abbrev gJ:List LO:=[lm 6 0 117,Ai 7 #[AE 6] #[117] 3,CG 8 0 3]
abbrev gK:List LO:=[Al 9 3 8 7 3 0]
abbrev gL:List LO:=[A6 10 117 6 8 0,AF 11 3 10 3,AB 5 11 3]
abbrev gM:List LO:=[lm 12 5 3,lm 13 3 3,Ck 14 3 12 13 3 4]
abbrev gN:List LO:=[lm 15 5 3,AB 2 15 3]
abbrev gO:List LO:=[Af 16 3 8 1 3 3,lm 8 16 3]
abbrev gP:List LO:=[lm 17 3 3,AB 2 17 3]
abbrev nX:LC:=.seq (.reg false gG) (.seq (.reg false gH) (.seq (.seq (.reg false gJ) (.block 0 (.loop (.seq (.reg false gK) (.seq (.cond (AE 9) .skip (.exit 0)) (.seq (.block 1 (.seq (.reg false gL) (.seq (.reg false gM) (.cond (AE 14) (.seq (.reg false gN) .ret) .skip)))) (.reg false gO))))))) (.seq (.reg false gP) .ret)))
theorem nY:Bf E 91 18 [.tmp 2] nX:=Bp Go.Proofs.Tryz.f91
noncomputable def G3 (a0:(List Int)):Int→Option (Step (Int) ((Int) ⊕ (Unit))):=fun x2=>(if (decide (x2 < (List.length a0:Int)))=true then Option.bind (ixl a0 x2) (fun x6=>(if (x6 != 0)=true then some (Step.done (Sum.inl x6)) else some (Step.next (w64 (x2 + 1))))) else some (Step.done (Sum.inr ())))
noncomputable def JO (a0:(List Int)):Option (Int):=Option.bind (CD (G3 a0) 0) (fun y=>match y with | Sum.inl x5=>some x5 | Sum.inr _=>some 0)
theorem T4 (a0:(List Int)):Ct E 91 [.fsl 1 (List.map cI a0)] (JO a0) (fun r:Int=>iv r):=CN nY (by
 unfold JO
 refine jS ⟨[V 0 (.fsl 1 (List.map cI a0))],[],0⟩ ?_
 refine jS ⟨[V 0 (.fsl 1 (List.map cI a0)),V 3 (iv 0)],[],0⟩ ?_
 refine Aj (jR (jG 0 3 ⟨[V 3 (iv 0),V 6 (.fsl 1 (List.map cI a0)),V 7 (iv (List.length (List.map cI a0):Int)),V 8 (iv 0)],[],0⟩ ?_))
 simp only[List.length_map]
 refine jN (A4 ?_)
 refine BA (fun y=>match y with | Sum.inl x5=>⟨[V 2 (iv x5)],[],0⟩ | Sum.inr _=>⟨[V 3 (iv 0)],[],0⟩) (fun y=>match y with | Sum.inl x5=>.ret | Sum.inr _=>(.exit 0)) (C5 (fun x2=>⟨[V 3 (iv 0),V 6 (.fsl 1 (List.map cI a0)),V 7 (iv (List.length a0:Int)),V 8 (iv x2)],[],0⟩) BV ?_) ?_
 ·intro x2
  unfold G3
  refine jS ⟨[V 3 (iv 0),V 6 (.fsl 1 (List.map cI a0)),V 7 (iv (List.length a0:Int)),V 8 (iv x2),V 9 (bv (decide (x2 < (List.length a0:Int))))],[],0⟩ ?_
  refine Aj ?_
  refine jIf ?_ ?_
  ·refine Ah (Ab (Aj (A4 (jR ?_))))
   refine A5 (i:=0) (mo:=ixl a0 x2) rfl rfl rfl rfl (fun _ hc=>EV (c:=cI) (sz:=1) (e:=3) (kk:=.i64) (by kernel_rfl) (by kernel_rfl) (by kernel_rfl) (by kernel_rfl) hc) (fun _=>rfl) ?_
   intro x6 h6
   refine jG 1 2 ⟨[V 3 (iv 0),V 5 (iv x6),V 6 (.fsl 1 (List.map cI a0)),V 7 (iv (List.length a0:Int)),V 8 (iv x2)],[],0⟩ ?_
   refine jN (jS ⟨[V 3 (iv 0),V 5 (iv x6),V 6 (.fsl 1 (List.map cI a0)),V 7 (iv (List.length a0:Int)),V 8 (iv x2),V 14 (bv (x6 != 0))],[],0⟩ ?_)
   refine jIf ?_ ?_
   ·refine jS ⟨[V 2 (iv x6)],[],0⟩ ?_
    exact Ae (BG (Ar (Bm rfl nofun BV)))
   refine Ah (BX (Ab (jT ⟨[V 3 (iv 0),V 6 (.fsl 1 (List.map cI a0)),V 7 (iv (List.length a0:Int)),V 8 (iv (w64 (x2 + 1)))],[],0⟩ ?_)))
   exact C7 BV
  exact Cp (Cq (Bm rfl nofun BV))
 rintro (x5 | _)
 ·exact BG (Ar (BO (iv x5)))
 refine C6 (Ab (jS ⟨[V 2 (iv 0)],[],0⟩ ?_))
 exact Ae (BO (iv 0)))
abbrev vX:List LO:=[Ag 4 4]
abbrev vY:List LO:=[lm 9 0 5,Cy 10 5 9 48 5 4,lm 11 10 4,lmg 12 0 5 11 true,Cw 13 5 12 57 5 4 11 true,AS 14 11 13 4,AB 5 14 4]
abbrev vZ:List LO:=[lm 15 0 5,Cy 16 5 15 97 5 4,lm 17 16 4,lmg 18 0 5 17 true,Cw 19 5 18 122 5 4 17 true,AS 20 17 19 4,AB 6 20 4]
abbrev vI:List LO:=[lm 21 0 5,Cy 22 5 21 65 5 4,lm 23 22 4,lmg 24 0 5 23 true,Cw 25 5 24 90 5 4 23 true,AS 26 23 25 4,AB 7 26 4]
abbrev v6:List LO:=[lm 27 0 5,Bt 28 5 27 32 5 4,lm 29 28 4,lmg 30 0 5 29 false,A1 31 5 30 9 5 4 29 false,Ak 32 29 31 4,AB 8 32 4]
abbrev v7:List LO:=[lm 33 1 3]
abbrev v8:List LO:=[Aw 35 3 33 1 3 4,AB 34 35 4]
abbrev wA:List LO:=[lm 36 5 4,AB 4 36 4]
abbrev wB:List LO:=[Aw 38 3 33 2 3 4,AB 37 38 4]
abbrev qQ:List LO:=[lm 39 6 4,AB 4 39 4]
abbrev qR:List LO:=[Aw 41 3 33 3 3 4,AB 40 41 4]
abbrev qS:List LO:=[lm 42 7 4,AB 4 42 4]
abbrev qT:List LO:=[Aw 44 3 33 4 3 4,AB 43 44 4]
abbrev qU:List LO:=[lm 45 6 4,lm 46 45 4,lmg 47 7 4 46 false,Ak 48 46 47 4,AB 4 48 4]
abbrev qV:List LO:=[Aw 50 3 33 5 3 4,AB 49 50 4]
abbrev qW:List LO:=[lm 51 6 4,lm 52 51 4,lmg 53 7 4 52 false,Ak 54 52 53 4,lm 55 54 4,lmg 56 5 4 55 false,Ak 57 55 56 4,AB 4 57 4]
abbrev qX:List LO:=[Aw 59 3 33 6 3 4,AB 58 59 4]
abbrev qY:List LO:=[lm 60 8 4,AB 4 60 4]
abbrev qZ:List LO:=[Aw 62 3 33 7 3 4,AB 61 62 4]
abbrev qI:List LO:=[lm 63 8 4,lm 64 63 4,lmg 65 0 5 64 false,A1 66 5 65 10 5 4 64 false,Ak 67 64 66 4,lm 68 67 4,lmg 69 0 5 68 false,A1 70 5 69 13 5 4 68 false,Ak 71 68 70 4,AB 4 71 4]
abbrev q9:List LO:=[Ag 4 4]
abbrev z6:LC:=.seq (.reg false vX) (.seq (.reg false vY) (.seq (.reg false vZ) (.seq (.reg false vI) (.seq (.reg false v6) (.seq (.seq (.reg false v7) (.block 0 (.seq (.reg false v8) (.cond (AE 34) (.seq (.reg false wA) .ret) (.seq (.reg false wB) (.cond (AE 37) (.seq (.reg false qQ) .ret) (.seq (.reg false qR) (.cond (AE 40) (.seq (.reg false qS) .ret) (.seq (.reg false qT) (.cond (AE 43) (.seq (.reg false qU) .ret) (.seq (.reg false qV) (.cond (AE 49) (.seq (.reg false qW) .ret) (.seq (.reg false qX) (.cond (AE 58) (.seq (.reg false qY) .ret) (.seq (.reg false qZ) (.cond (AE 61) (.seq (.reg false qI) .ret) .skip)))))))))))))))) (.seq (.reg false q9) .ret))))))
theorem z7:Bf E 45 72 [.tmp 4] z6:=Bp Go.Proofs.Tryz.f45
noncomputable def MF (a0:Int) (a1:Int):Option (Bool):=(if (a1 == 1)=true then some ((decide (a0≥48)) && (decide (a0≤57))) else (if (a1 == 2)=true then some ((decide (a0≥97)) && (decide (a0≤122))) else (if (a1 == 3)=true then some ((decide (a0≥65)) && (decide (a0≤90))) else (if (a1 == 4)=true then some (((decide (a0≥97)) && (decide (a0≤122))) || ((decide (a0≥65)) && (decide (a0≤90)))) else (if (a1 == 5)=true then some ((((decide (a0≥97)) && (decide (a0≤122))) || ((decide (a0≥65)) && (decide (a0≤90)))) || ((decide (a0≥48)) && (decide (a0≤57)))) else (if (a1 == 6)=true then some ((a0 == 32) || (a0 == 9)) else (if (a1 == 7)=true then some ((((a0 == 32) || (a0 == 9)) || (a0 == 10)) || (a0 == 13)) else some false)))))))
theorem SO (a0:Int) (a1:Int):Ct E 45 [.s (.int .u8 a0),iv a1] (MF a0 a1) (fun r:Bool=>bv r):=CN z7 (by
 unfold MF
 refine jS ⟨[V 0 (.s (.int .u8 a0)),V 1 (iv a1)],[],0⟩ ?_
 refine jS ⟨[V 0 (.s (.int .u8 a0)),V 1 (iv a1),V 5 (bv ((decide (a0≥48)) && (decide (a0≤57))))],[],0⟩ ?_
 refine jS ⟨[V 0 (.s (.int .u8 a0)),V 1 (iv a1),V 5 (bv ((decide (a0≥48)) && (decide (a0≤57)))),V 6 (bv ((decide (a0≥97)) && (decide (a0≤122))))],[],0⟩ ?_
 refine jS ⟨[V 0 (.s (.int .u8 a0)),V 1 (iv a1),V 5 (bv ((decide (a0≥48)) && (decide (a0≤57)))),V 6 (bv ((decide (a0≥97)) && (decide (a0≤122)))),V 7 (bv ((decide (a0≥65)) && (decide (a0≤90))))],[],0⟩ ?_
 refine jS ⟨[V 0 (.s (.int .u8 a0)),V 1 (iv a1),V 5 (bv ((decide (a0≥48)) && (decide (a0≤57)))),V 6 (bv ((decide (a0≥97)) && (decide (a0≤122)))),V 7 (bv ((decide (a0≥65)) && (decide (a0≤90)))),V 8 (bv ((a0 == 32) || (a0 == 9)))],[],0⟩ ?_
 refine Aj (jS ⟨[V 0 (.s (.int .u8 a0)),V 5 (bv ((decide (a0≥48)) && (decide (a0≤57)))),V 6 (bv ((decide (a0≥97)) && (decide (a0≤122)))),V 7 (bv ((decide (a0≥65)) && (decide (a0≤90)))),V 8 (bv ((a0 == 32) || (a0 == 9))),V 33 (iv a1)],[],0⟩ ?_)
 refine A4 (jS ⟨[V 0 (.s (.int .u8 a0)),V 5 (bv ((decide (a0≥48)) && (decide (a0≤57)))),V 6 (bv ((decide (a0≥97)) && (decide (a0≤122)))),V 7 (bv ((decide (a0≥65)) && (decide (a0≤90)))),V 8 (bv ((a0 == 32) || (a0 == 9))),V 33 (iv a1),V 34 (bv (a1 == 1))],[],0⟩ ?_)
 refine jIf ?_ ?_
 ·refine jS ⟨[V 4 (bv ((decide (a0≥48)) && (decide (a0≤57))))],[],0⟩ ?_
  exact Ae (BG (Ar (BO (bv ((decide (a0≥48)) && (decide (a0≤57)))))))
 refine jS ⟨[V 0 (.s (.int .u8 a0)),V 5 (bv ((decide (a0≥48)) && (decide (a0≤57)))),V 6 (bv ((decide (a0≥97)) && (decide (a0≤122)))),V 7 (bv ((decide (a0≥65)) && (decide (a0≤90)))),V 8 (bv ((a0 == 32) || (a0 == 9))),V 33 (iv a1),V 37 (bv (a1 == 2))],[],0⟩ ?_
 refine jIf ?_ ?_
 ·refine jS ⟨[V 4 (bv ((decide (a0≥97)) && (decide (a0≤122))))],[],0⟩ ?_
  exact Ae (BG (Ar (BO (bv ((decide (a0≥97)) && (decide (a0≤122)))))))
 refine jS ⟨[V 0 (.s (.int .u8 a0)),V 5 (bv ((decide (a0≥48)) && (decide (a0≤57)))),V 6 (bv ((decide (a0≥97)) && (decide (a0≤122)))),V 7 (bv ((decide (a0≥65)) && (decide (a0≤90)))),V 8 (bv ((a0 == 32) || (a0 == 9))),V 33 (iv a1),V 40 (bv (a1 == 3))],[],0⟩ ?_
 refine jIf ?_ ?_
 ·refine jS ⟨[V 4 (bv ((decide (a0≥65)) && (decide (a0≤90))))],[],0⟩ ?_
  exact Ae (BG (Ar (BO (bv ((decide (a0≥65)) && (decide (a0≤90)))))))
 refine jS ⟨[V 0 (.s (.int .u8 a0)),V 5 (bv ((decide (a0≥48)) && (decide (a0≤57)))),V 6 (bv ((decide (a0≥97)) && (decide (a0≤122)))),V 7 (bv ((decide (a0≥65)) && (decide (a0≤90)))),V 8 (bv ((a0 == 32) || (a0 == 9))),V 33 (iv a1),V 43 (bv (a1 == 4))],[],0⟩ ?_
 refine jIf ?_ ?_
 ·refine jS ⟨[V 4 (bv (((decide (a0≥97)) && (decide (a0≤122))) || ((decide (a0≥65)) && (decide (a0≤90)))))],[],0⟩ ?_
  exact Ae (BG (Ar (BO (bv (((decide (a0≥97)) && (decide (a0≤122))) || ((decide (a0≥65)) && (decide (a0≤90))))))))
 refine jS ⟨[V 0 (.s (.int .u8 a0)),V 5 (bv ((decide (a0≥48)) && (decide (a0≤57)))),V 6 (bv ((decide (a0≥97)) && (decide (a0≤122)))),V 7 (bv ((decide (a0≥65)) && (decide (a0≤90)))),V 8 (bv ((a0 == 32) || (a0 == 9))),V 33 (iv a1),V 49 (bv (a1 == 5))],[],0⟩ ?_
 refine jIf ?_ ?_
 ·refine jS ⟨[V 4 (bv ((((decide (a0≥97)) && (decide (a0≤122))) || ((decide (a0≥65)) && (decide (a0≤90)))) || ((decide (a0≥48)) && (decide (a0≤57)))))],[],0⟩ ?_
  exact Ae (BG (Ar (BO (bv ((((decide (a0≥97)) && (decide (a0≤122))) || ((decide (a0≥65)) && (decide (a0≤90)))) || ((decide (a0≥48)) && (decide (a0≤57))))))))
 refine jS ⟨[V 0 (.s (.int .u8 a0)),V 8 (bv ((a0 == 32) || (a0 == 9))),V 33 (iv a1),V 58 (bv (a1 == 6))],[],0⟩ ?_
 refine jIf ?_ ?_
 ·refine jS ⟨[V 4 (bv ((a0 == 32) || (a0 == 9)))],[],0⟩ ?_
  exact Ae (BG (Ar (BO (bv ((a0 == 32) || (a0 == 9))))))
 refine jS ⟨[V 0 (.s (.int .u8 a0)),V 8 (bv ((a0 == 32) || (a0 == 9))),V 61 (bv (a1 == 7))],[],0⟩ ?_
 refine jIf ?_ ?_
 ·refine jS ⟨[V 4 (bv ((((a0 == 32) || (a0 == 9)) || (a0 == 10)) || (a0 == 13)))],[],0⟩ ?_
  exact Ae (BG (Ar (BO (bv ((((a0 == 32) || (a0 == 9)) || (a0 == 10)) || (a0 == 13))))))
 refine Ah (BX (Ab (jS ⟨[V 4 (bv false)],[],0⟩ ?_)))
 exact Ae (BO (bv false)))
abbrev rB:List LO:=[Ap 6 0 3]
abbrev rC:List LO:=[lm 7 1 3,D0 8 3 7 0 3 4,lm 9 8 4,lmg 10 1 3 9 false,lmg 11 0 9 9 false,BF 12 #[AE 11] #[9] 3 9 false,lg 13 (.binOp .gtr 3 (AE 10) (AE 12) 3) 4 9 false,Ak 14 9 13 4]
abbrev rD:List LO:=[lm 15 1 3,AB 6 15 3]
abbrev rE:List LO:=[lm 16 1 3,lm 17 0 9,Ai 18 #[AE 17] #[9] 3,Al 19 3 16 18 3 4,lm 20 19 4,lmg 21 0 9 20 true,lmg 22 1 3 20 true,BQ 23 9 21 22 5 20 true,lmg 24 2 3 20 true,A7 25 45 #[AE 23,AE 24] #[5,3] 4 20 true,AS 26 20 25 4]
abbrev rF:List LO:=[lm 27 1 3,Af 28 3 27 1 3 3,AB 1 28 3]
abbrev rG:List LO:=[lm 29 1 3,AB 6 29 3]
abbrev wC:LC:=.seq (.reg false rB) (.seq (.seq (.reg false rC) (.cond (AE 14) (.seq (.reg false rD) .ret) .skip)) (.seq (.block 0 (.loop (.seq (.seq (.reg false rE) (.cond (AE 26) .skip (.exit 0))) (.block 1 (.reg false rF))))) (.seq (.reg false rG) .ret)))
theorem wD:Bf E 23 30 [.tmp 6] wC:=Bp Go.Proofs.Tryz.f23
noncomputable def LY (a0:Str) (a2:Int):Int→Option (Step (Int) (Int)):=fun x4=>Option.bind (if (decide (x4 < (List.length a0:Int)))=true then Option.bind (idx a0 x4) (fun x13=>Option.bind (MF x13 a2) (fun x14=>some x14)) else some false:Option (Bool)) (fun x12=>(if x12=true then some (Step.next (w64 (x4 + 1))) else some (Step.done x4)))
noncomputable def Fw (a0:Str) (a1:Int) (a2:Int):Option (Int):=(if ((decide (a1 < 0)) || (decide (a1 > (List.length a0:Int))))=true then some a1 else Option.bind (CD (LY a0 a2) a1) (fun x9=>some x9))
theorem LZ (a0:Str) (a1:Int) (a2:Int):Ct E 23 [bs a0,iv a1,iv a2] (Fw a0 a1 a2) (fun r:Int=>iv r):=CN wD (by
 unfold Fw
 refine jS ⟨[V 0 (bs a0),V 1 (iv a1),V 2 (iv a2)],[],0⟩ ?_
 refine Aj (jS ⟨[V 0 (bs a0),V 1 (iv a1),V 2 (iv a2),V 14 (bv ((decide (a1 < 0)) || (decide (a1 > (List.length a0:Int)))))],[],0⟩ ?_)
 refine jIf ?_ ?_
 ·refine jS ⟨[V 6 (iv a1)],[],0⟩ ?_
  exact Ae (Ar (BO (iv a1)))
 refine Ah (Ab (Aj (A4 ?_)))
 refine BA (fun x9=>⟨[V 1 (iv x9)],[],0⟩) (fun x9=>(.exit 0)) (C5 (fun x4=>⟨[V 0 (bs a0),V 1 (iv x4),V 2 (iv a2)],[],0⟩) BV ?_) ?_
 ·intro x4
  unfold LY
  refine Aj (jR (jG 0 5 ⟨[V 0 (bs a0),V 1 (iv x4),V 2 (iv a2),V 20 (bv (decide (x4 < (List.length a0:Int))))],[],0⟩ ?_))
  refine A2 5 6 (fun x12=>⟨[V 0 (bs a0),V 1 (iv x4),V 2 (iv a2),V 26 (bv x12)],[],0⟩) ?_ ?_
  ·refine jSp 20 ?_ ?_
   ·refine jG 0 2 ⟨[V 0 (bs a0),V 1 (iv x4),V 2 (iv a2),(20,.lit true),V 21 (bs a0),V 22 (iv x4)],[],0⟩ ?_
    refine A5 (i:=2) (mo:=idx a0 x4) rfl rfl rfl rfl (fun _ hc=>Bq (kk:=.i64) (by kernel_rfl) (by kernel_rfl) (by kernel_rfl) hc) (fun _=>rfl) ?_
    intro x13 h13
    refine jG 3 1 ⟨[V 0 (bs a0),V 1 (iv x4),V 2 (iv a2),(20,.lit true),V 23 (.s (.int .u8 x13)),V 24 (iv a2)],[],0⟩ ?_
    refine jK 4 (SO x13 a2) ?_
    intro x14 h14
    refine jG 5 1 ⟨[V 0 (bs a0),V 1 (iv x4),V 2 (iv a2),V 26 (bv x14)],[],0⟩ ?_
    exact Ad rfl (AU rfl BV)
   refine jG 0 6 ⟨[V 0 (bs a0),V 1 (iv x4),V 2 (iv a2),V 26 (bv false)],[],0⟩ ?_
   exact Ad rfl (AU rfl BV)
  intro x12
  refine jN ?_
  refine jIf ?_ ?_
  ·refine Ah (Ab (A4 (jT ⟨[V 0 (bs a0),V 1 (iv (w64 (x4 + 1))),V 2 (iv a2)],[],0⟩ ?_)))
   exact BX (C7 BV)
  exact Cp (Cq (Bm rfl nofun BV))
 intro x9
 refine C6 (Ab (jS ⟨[V 6 (iv x9)],[],0⟩ ?_))
 exact Ae (BO (iv x9)))
abbrev j3:List LO:=[A8 2 #[] 9]
abbrev j4:List LO:=[Ap 3 0 3]
abbrev j5:List LO:=[lm 4 3 3,lm 5 0 9,Ai 6 #[AE 5] #[9] 3,Al 7 3 4 6 3 4,lm 8 7 4,lmg 9 0 9 8 true,lmg 10 3 3 8 true,BQ 11 9 9 10 5 8 true,A1 12 5 11 48 5 4 8 true,AS 13 8 12 4]
abbrev j6:List LO:=[lm 14 3 3,Af 15 3 14 1 3 3,AB 3 15 3]
abbrev j7:List LO:=[lm 16 3 3,lm 17 0 9,Ai 18 #[AE 17] #[9] 3,CV 19 3 16 18 3 4]
abbrev j8:List LO:=[A8 2 #[48] 9]
abbrev j9:List LO:=[lm 20 0 9,lm 21 3 3,lo 22 (.slice 9 (AE 20) (some (AE 21)) none none) 9,AB 2 22 9]
abbrev rH:LC:=.seq (.reg false j3) (.seq (.reg false j4) (.seq (.block 0 (.loop (.seq (.seq (.reg false j5) (.cond (AE 13) .skip (.exit 0))) (.block 1 (.reg false j6))))) (.seq (.seq (.reg false j7) (.cond (AE 19) (.seq (.reg false j8) .ret) .skip)) (.seq (.reg false j9) .ret))))
theorem rJ:Bf E 46 23 [.tmp 2] rH:=Bp Go.Proofs.Tryz.f46
noncomputable def HD (a0:Str):Int→Option (Step (Int) (Int)):=fun x3=>Option.bind (if (decide (x3 < (List.length a0:Int)))=true then Option.bind (idx a0 x3) (fun x10=>some (x10 == 48)) else some false:Option (Bool)) (fun x9=>(if x9=true then some (Step.next (w64 (x3 + 1))) else some (Step.done x3)))
noncomputable def HU (a0:Str):Option (Str):=Option.bind (CD (HD a0) 0) (fun x7=>(if (x7 == (List.length a0:Int))=true then some [48] else Option.bind (E0 a0 x7 (List.length a0:Int)) (fun x11=>some x11)))
theorem UE (a0:Str):Ct E 46 [bs a0] (HU a0) (fun r:Str=>bs r):=CN rJ (by
 unfold HU
 refine jS ⟨[V 0 (bs a0)],[],0⟩ ?_
 refine jS ⟨[V 0 (bs a0),V 3 (iv 0)],[],0⟩ ?_
 refine Aj (A4 ?_)
 refine BA (fun x7=>⟨[V 0 (bs a0),V 3 (iv x7)],[],0⟩) (fun x7=>(.exit 0)) (C5 (fun x3=>⟨[V 0 (bs a0),V 3 (iv x3)],[],0⟩) BV ?_) ?_
 ·intro x3
  unfold HD
  refine Aj (jR (jG 0 5 ⟨[V 0 (bs a0),V 3 (iv x3),V 8 (bv (decide (x3 < (List.length a0:Int))))],[],0⟩ ?_))
  refine A2 5 5 (fun x9=>⟨[V 0 (bs a0),V 3 (iv x3),V 13 (bv x9)],[],0⟩) ?_ ?_
  ·refine jSp 8 ?_ ?_
   ·refine jG 0 2 ⟨[V 0 (bs a0),V 3 (iv x3),(8,.lit true),V 9 (bs a0),V 10 (iv x3)],[],0⟩ ?_
    refine A5 (i:=2) (mo:=idx a0 x3) rfl rfl rfl rfl (fun _ hc=>Bq (kk:=.i64) (by kernel_rfl) (by kernel_rfl) (by kernel_rfl) hc) (fun _=>rfl) ?_
    intro x10 h10
    refine jG 3 2 ⟨[V 0 (bs a0),V 3 (iv x3),V 13 (bv (x10 == 48))],[],0⟩ ?_
    exact Ad rfl (AU rfl BV)
   refine jG 0 5 ⟨[V 0 (bs a0),V 3 (iv x3),V 13 (bv false)],[],0⟩ ?_
   exact Ad rfl (AU rfl BV)
  intro x9
  refine jN ?_
  refine jIf ?_ ?_
  ·refine Ah (Ab (A4 (jT ⟨[V 0 (bs a0),V 3 (iv (w64 (x3 + 1)))],[],0⟩ ?_)))
   exact BX (C7 BV)
  exact Cp (Cq (Bm rfl nofun BV))
 intro x7
 refine C6 (Ab (Aj (jS ⟨[V 0 (bs a0),V 3 (iv x7),V 19 (bv (x7 == (List.length a0:Int)))],[],0⟩ ?_)))
 refine jIf ?_ ?_
 ·refine jS ⟨[V 2 (bs [48])],[],0⟩ ?_
  exact Ae (Ar (BO (bs [48])))
 refine Ah (Ab (jR (jG 0 2 ⟨[V 20 (bs a0),V 21 (iv x7)],[],0⟩ ?_)))
 refine A5 (i:=2) (mo:=E0 a0 x7 (List.length a0:Int)) rfl rfl rfl rfl (fun _ hc=>FP (by kernel_rfl) (by kernel_rfl) (by kernel_rfl) (by kernel_rfl) hc) (fun _=>rfl) ?_
 intro x11 h11
 refine jG 3 1 ⟨[V 2 (bs x11)],[],0⟩ ?_
 exact jN (Ae (BO (bs x11))))
abbrev VN:List LO:=[Ap 4 0 3]
abbrev VO:List LO:=[lm 5 0 9,lm 6 1 9,AN 7 131 #[AE 5,AE 6] #[9,9] 3,AB 4 7 3]
abbrev Wh:LC:=.seq (.reg false VN) (.seq (.reg false VO) .ret)
theorem Wi:Bf E 116 8 [.tmp 4] Wh:=Bp Go.Proofs.Tryz.f116
noncomputable def Fq (a0:Str) (a1:Str):Option (Int):=Option.bind (bytealg_CompareString a0 a1) (fun x1=>some x1)
theorem MK (a0:Str) (a1:Str):Ct E 116 [bs a0,bs a1] (Fq a0 a1) (fun r:Int=>iv r):=CN Wi (by
 unfold Fq
 refine jS ⟨[V 0 (bs a0),V 1 (bs a1)],[],0⟩ ?_
 refine jR (jG 0 2 ⟨[V 5 (bs a0),V 6 (bs a1)],[],0⟩ ?_)
 refine mD (i:=2) rfl rfl (vs:=[bs a0,bs a1]) (by kernel_rfl) rfl (M5 a0 a1) (fun _=>rfl) ?_
 intro x1 h1
 refine jG 3 1 ⟨[V 4 (iv x1)],[],0⟩ ?_
 exact jN (Ae (BO (iv x1))))
abbrev Oi:List LO:=[A8 4 #[] 9]
abbrev Oj:List LO:=[lm 5 0 9,Ai 6 #[AE 5] #[9] 3,DJ 7 3 6 0 3 4,lm 8 7 4,lmg 9 0 9 8 true,lg 10 (.index 9 (AE 9) (.const (.int .i64 0))) 5 8 true,lmg 11 1 5 8 true,Bb 12 5 10 11 5 4 8 true,AS 13 8 12 4]
abbrev Ok:List LO:=[lm 14 0 9,lo 15 (.slice 9 (AE 14) (some (.const (.int .i64 1))) none none) 9,AB 0 15 9]
abbrev Ol:List LO:=[lm 16 0 9,AB 4 16 9]
abbrev QL:LC:=.seq (.reg false Oi) (.seq (.block 0 (.loop (.seq (.seq (.reg false Oj) (.cond (AE 13) .skip (.exit 0))) (.block 1 (.reg false Ok))))) (.seq (.reg false Ol) .ret))
theorem QM:Bf E 127 17 [.tmp 4] QL:=Bp Go.Proofs.Tryz.f127
noncomputable def DC (a1:Int):Str→Option (Step (Str) (Str)):=fun x4=>Option.bind (if (decide ((List.length x4:Int) > 0))=true then Option.bind (idx x4 0) (fun x12=>some (x12 == a1)) else some false:Option (Bool)) (fun x11=>(if x11=true then Option.bind (E0 x4 1 (List.length x4:Int)) (fun x13=>some (Step.next x13)) else some (Step.done x4)))
noncomputable def DB (a0:Str) (a1:Int):Option (Str):=Option.bind (CD (DC a1) a0) (fun x9=>some x9)
theorem Oh (a0:Str) (a1:Int):Ct E 127 [bs a0,.s (.int .u8 a1)] (DB a0 a1) (fun r:Str=>bs r):=CN QM (by
 unfold DB
 refine jS ⟨[V 0 (bs a0),V 1 (.s (.int .u8 a1))],[],0⟩ ?_
 refine Aj (A4 ?_)
 refine BA (fun x9=>⟨[V 0 (bs x9)],[],0⟩) (fun x9=>(.exit 0)) (C5 (fun x4=>⟨[V 0 (bs x4),V 1 (.s (.int .u8 a1))],[],0⟩) BV ?_) ?_
 ·intro x4
  unfold DC
  refine Aj (jR (jG 0 4 ⟨[V 0 (bs x4),V 1 (.s (.int .u8 a1)),V 8 (bv (decide ((List.length x4:Int) > 0)))],[],0⟩ ?_))
  refine A2 4 5 (fun x11=>⟨[V 0 (bs x4),V 1 (.s (.int .u8 a1)),V 13 (bv x11)],[],0⟩) ?_ ?_
  ·refine jSp 8 ?_ ?_
   ·refine jG 0 1 ⟨[V 0 (bs x4),V 1 (.s (.int .u8 a1)),(8,.lit true),V 9 (bs x4)],[],0⟩ ?_
    refine A5 (i:=1) (mo:=idx x4 0) rfl rfl rfl rfl (fun _ hc=>Bq (kk:=.i64) (by kernel_rfl) (by kernel_rfl) (by kernel_rfl) hc) (fun _=>rfl) ?_
    intro x12 h12
    refine jG 2 3 ⟨[V 0 (bs x4),V 1 (.s (.int .u8 a1)),V 13 (bv (x12 == a1))],[],0⟩ ?_
    exact Ad rfl (AU rfl BV)
   refine jG 0 5 ⟨[V 0 (bs x4),V 1 (.s (.int .u8 a1)),V 13 (bv false)],[],0⟩ ?_
   exact Ad rfl (AU rfl BV)
  intro x11
  refine jN ?_
  refine jIf ?_ ?_
  ·refine Ah (Ab (A4 (CY (jG 0 1 ⟨[V 1 (.s (.int .u8 a1)),V 14 (bs x4)],[],0⟩ ?_))))
   refine A5 (i:=1) (mo:=E0 x4 1 (List.length x4:Int)) rfl rfl rfl rfl (fun _ hc=>FP (by kernel_rfl) (by kernel_rfl) (by kernel_rfl) (by kernel_rfl) hc) (fun _=>rfl) ?_
   intro x13 h13
   refine jG 2 1 ⟨[V 0 (bs x13),V 1 (.s (.int .u8 a1))],[],0⟩ ?_
   exact Ad rfl (BX (C7 BV))
  exact Cp (Cq (Bm rfl nofun BV))
 intro x9
 refine C6 (Ab (jS ⟨[V 4 (bs x9)],[],0⟩ ?_))
 exact Ae (BO (bs x9)))
abbrev Me:List LO:=[A8 4 #[] 9]
abbrev Mf:List LO:=[lm 7 0 9,BK 8 9 7 #[] 9 4,lm 9 8 4,lmg 10 1 9 9 false,lg 11 (.binOp .eql 9 (AE 10) (.const (.string ⟨#[]⟩)) 9) 4 9 false,Ak 12 9 11 4]
abbrev Mg:List LO:=[lm 13 0 9,AB 4 13 9]
abbrev Mh:List LO:=[lm 14 1 9,Ai 15 #[AE 14] #[9] 3,Aw 16 3 15 1 3 4,lm 17 16 4,lmg 18 1 9 17 true,lg 19 (.index 9 (AE 18) (.const (.int .i64 0))) 5 17 true,lg 20 (.binOp .lss 5 (AE 19) (.const (.int .u8 128)) 5) 4 17 true,AS 21 17 20 4]
abbrev Mi:List LO:=[lm 22 0 9,lm 23 1 9,lo 24 (.index 9 (AE 23) (.const (.int .i64 0))) 5,AN 25 127 #[AE 22,AE 24] #[9,5] 9,AB 4 25 9]
abbrev Mj:List LO:=[lm 27 1 9,AN 28 106 #[AE 27] #[9] 111,lm 26 28 111,Aq 29 26 0 110,Aq 30 26 1 4,BH 5 110 0,AO 110 5 29 0,AB 6 30 4]
abbrev Mk:List LO:=[lm 31 6 4]
abbrev Ml:List LO:=[lm 32 0 9,AN 33 128 #[AE 32,AE 5] #[9,126] 9,AB 4 33 9]
abbrev Mm:List LO:=[lm 34 0 9,lm 35 1 9,AN 36 129 #[AE 34,AE 35] #[9,9] 9,AB 4 36 9]
abbrev Nh:LC:=.seq (.reg false Me) (.seq (.seq (.reg false Mf) (.cond (AE 12) (.seq (.reg false Mg) .ret) .skip)) (.seq (.seq (.reg false Mh) (.cond (AE 21) (.seq (.reg false Mi) .ret) .skip)) (.seq (.seq (.reg false Mj) (.seq (.reg false Mk) (.cond (AE 31) (.seq (.reg false Ml) .ret) .skip))) (.seq (.reg false Mm) .ret))))
theorem Ni:Bf E 109 37 [.tmp 4] Nh:=Bp Go.Proofs.Tryz.f109
noncomputable def D3 (a0:Str):Option (Str):=(if ((a0 == []) && true)=true then some a0 else Option.bind (DB a0 48) (fun x1=>some x1))
theorem Md (a0:Str):Ct E 109 [bs a0,bs [48]] (D3 a0) (fun r:Str=>bs r):=CN Ni (by
 unfold D3
 refine jS ⟨[V 0 (bs a0),V 1 (bs [48])],[],0⟩ ?_
 refine Aj (jS ⟨[V 0 (bs a0),V 1 (bs [48]),V 12 (bv ((a0 == []) && true))],[],0⟩ ?_)
 refine jIf ?_ ?_
 ·refine jS ⟨[V 4 (bs a0)],[],0⟩ ?_
  exact Ae (Ar (BO (bs a0)))
 refine Ah (Ab (Aj (jR (jG 0 4 ⟨[V 0 (bs a0),V 1 (bs [48]),V 17 (bv true)],[],0⟩ ?_))))
 refine y9 (g:=17) (b:=true) (by kernel_rfl) ?_
 refine jG 4 1 ⟨[V 0 (bs a0),V 1 (bs [48]),(17,.lit true),V 18 (bs [48])],[],0⟩ ?_
 refine GW (i:=5) (v:=.s (.int .u8 48)) (us:=[]) rfl rfl rfl rfl (Bq (s:=[48]) (j:=0) (c:=48) (kk:=.i64) (by kernel_rfl) (by kernel_rfl) (by kernel_rfl) rfl) rfl ?_
 refine jG 6 2 ⟨[V 0 (bs a0),V 1 (bs [48]),V 21 (bv true)],[],0⟩ ?_
 refine jN ?_
 refine Re (c:=true) (by kernel_rfl) ?_
 refine jR (jG 0 2 ⟨[V 22 (bs a0),V 23 (bs [48])],[],0⟩ ?_)
 refine GW (i:=2) (v:=.s (.int .u8 48)) (us:=[]) rfl rfl rfl rfl (Bq (s:=[48]) (j:=0) (c:=48) (kk:=.i64) (by kernel_rfl) (by kernel_rfl) (by kernel_rfl) rfl) rfl ?_
 refine jK 3 (Oh a0 48) ?_
 intro x1 h1
 refine jG 4 1 ⟨[V 4 (bs x1)],[],0⟩ ?_
 exact jN (Ae (Ar (BO (bs x1)))))
abbrev r7:List LO:=[A8 2 #[] 9]
abbrev r8:List LO:=[lm 3 0 9,AN 4 109 #[AE 3,.const (.string ⟨#[48]⟩)] #[9,9] 9,AB 0 4 9]
abbrev r9:List LO:=[lm 5 0 9,BK 6 9 5 #[] 9 4]
abbrev sC:List LO:=[A8 2 #[48] 9]
abbrev sD:List LO:=[lm 7 0 9,AB 2 7 9]
abbrev xL:LC:=.seq (.reg false r7) (.seq (.reg false r8) (.seq (.seq (.reg false r9) (.cond (AE 6) (.seq (.reg false sC) .ret) .skip)) (.seq (.reg false sD) .ret)))
theorem xM:Bf E 86 8 [.tmp 2] xL:=Bp Go.Proofs.Tryz.f86
noncomputable def ES (a0:Str):Option (Str):=Option.bind (D3 a0) (fun x1=>(if (x1 == [])=true then some [48] else some x1))
theorem Gu (a0:Str):Ct E 86 [bs a0] (ES a0) (fun r:Str=>bs r):=CN xM (by
 unfold ES
 refine jS ⟨[V 0 (bs a0)],[],0⟩ ?_
 refine jR (jG 0 1 ⟨[V 3 (bs a0)],[],0⟩ ?_)
 refine jK 1 (Md a0) ?_
 intro x1 h1
 refine jG 2 1 ⟨[V 0 (bs x1)],[],0⟩ ?_
 refine jN (Aj (jS ⟨[V 0 (bs x1),V 6 (bv (x1 == []))],[],0⟩ ?_))
 refine jIf ?_ ?_
 ·refine jS ⟨[V 2 (bs [48])],[],0⟩ ?_
  exact Ae (Ar (BO (bs [48])))
 refine Ah (Ab (jS ⟨[V 2 (bs x1)],[],0⟩ ?_))
 exact Ae (BO (bs x1)))
abbrev wU:List LO:=[Ap 4 0 3]
abbrev wV:List LO:=[lm 5 0 9,AN 6 86 #[AE 5] #[9] 9,lm 7 1 9,AN 8 86 #[AE 7] #[9] 9,AB 0 6 9,AB 1 8 9]
abbrev wW:List LO:=[lm 9 0 9,Ai 10 #[AE 9] #[9] 3,lm 11 1 9,Ai 12 #[AE 11] #[9] 3,AN 13 94 #[AE 10,AE 12] #[3,3] 3,lm 14 0 9,lm 15 1 9,AN 16 116 #[AE 14,AE 15] #[9,9] 3,lo 17 (.buildSlice 117 2 #[(0,AE 13),(1,AE 16)]) 117,AN 18 91 #[AE 17] #[117] 3,AB 4 18 3]
abbrev AAC:LC:=.seq (.reg false wU) (.seq (.reg false wV) (.seq (.reg true wW) .ret))
theorem AAD:Bf E 92 19 [.tmp 4] AAC:=Bp Go.Proofs.Tryz.f92
noncomputable def HE (a0:Str) (a1:Str):Option (Int):=Option.bind (ES a0) (fun x1=>Option.bind (ES a1) (fun x2=>Option.bind (Dq (List.length x1:Int) (List.length x2:Int)) (fun x3=>Option.bind (Fq x1 x2) (fun x4=>Option.bind (JO [x3,x4]) (fun x5=>some x5)))))
theorem Ha (a0:Str) (a1:Str):Ct E 92 [bs a0,bs a1] (HE a0 a1) (fun r:Int=>iv r):=CN AAD (by
 unfold HE
 refine jS ⟨[V 0 (bs a0),V 1 (bs a1)],[],0⟩ ?_
 refine jR (jG 0 1 ⟨[V 1 (bs a1),V 5 (bs a0)],[],0⟩ ?_)
 refine jK 1 (Gu a0) ?_
 intro x1 h1
 refine jG 2 1 ⟨[V 6 (bs x1),V 7 (bs a1)],[],0⟩ ?_
 refine jK 3 (Gu a1) ?_
 intro x2 h2
 refine jG 4 2 ⟨[V 0 (bs x1),V 1 (bs x2)],[],0⟩ ?_
 refine jN (jR (jG 0 4 ⟨[V 0 (bs x1),V 1 (bs x2),V 10 (iv (List.length x1:Int)),V 12 (iv (List.length x2:Int))],[],0⟩ ?_))
 refine jK 4 (HN (List.length x1:Int) (List.length x2:Int)) ?_
 intro x3 h3
 refine jG 5 2 ⟨[V 13 (iv x3),V 14 (bs x1),V 15 (bs x2)],[],0⟩ ?_
 refine jK 7 (MK x1 x2) ?_
 intro x4 h4
 refine jG 8 1 ⟨[V 17 (.fsl 1 (List.map cI [x3,x4]))],[],0⟩ ?_
 refine jK 9 (T4 [x3,x4]) ?_
 intro x5 h5
 refine jG 10 1 ⟨[V 4 (iv x5)],[],0⟩ ?_
 exact jN (Ae (BO (iv x5))))
abbrev AAE:List LO:=[Ag 4 4]
abbrev AAF:List LO:=[lm 9 0 5,Cy 10 5 9 48 5 4,lm 11 10 4,lmg 12 0 5 11 true,Cw 13 5 12 57 5 4 11 true,AS 14 11 13 4,lm 15 0 5,Cy 16 5 15 97 5 4,lm 17 16 4,lmg 18 0 5 17 true,Cw 19 5 18 122 5 4 17 true,AS 20 17 19 4,lm 21 0 5,Cy 22 5 21 65 5 4,lm 23 22 4,lmg 24 0 5 23 true,Cw 25 5 24 90 5 4 23 true,AS 26 23 25 4,AB 5 14 4,AB 6 20 4,AB 7 26 4]
abbrev AAG:List LO:=[lm 27 0 5,Bt 28 5 27 32 5 4,lm 29 28 4,lmg 30 0 5 29 false,A1 31 5 30 9 5 4 29 false,Ak 32 29 31 4,AB 8 32 4]
abbrev AAH:List LO:=[lm 33 1 3]
abbrev AAJ:List LO:=[Aw 35 3 33 1 3 4,AB 34 35 4]
abbrev AAK:List LO:=[lm 36 5 4,AB 4 36 4]
abbrev AAL:List LO:=[Aw 38 3 33 2 3 4,AB 37 38 4]
abbrev AAM:List LO:=[lm 39 6 4,AB 4 39 4]
abbrev AAN:List LO:=[Aw 41 3 33 3 3 4,AB 40 41 4]
abbrev wX:List LO:=[lm 42 7 4,AB 4 42 4]
abbrev wY:List LO:=[Aw 44 3 33 4 3 4,AB 43 44 4]
abbrev wZ:List LO:=[lm 45 6 4,lm 46 45 4,lmg 47 7 4 46 false,Ak 48 46 47 4,AB 4 48 4]
abbrev wI:List LO:=[Aw 50 3 33 5 3 4,AB 49 50 4]
abbrev w0:List LO:=[lm 51 5 4,lm 52 51 4,lmg 53 6 4 52 false,Ak 54 52 53 4,lm 55 54 4,lmg 56 7 4 55 false,Ak 57 55 56 4,AB 4 57 4]
abbrev w6:List LO:=[Aw 59 3 33 6 3 4,AB 58 59 4]
abbrev w7:List LO:=[lm 60 8 4,AB 4 60 4]
abbrev w8:List LO:=[Aw 62 3 33 7 3 4,AB 61 62 4]
abbrev w9:List LO:=[lm 63 8 4,lm 64 63 4,lmg 65 0 5 64 false,A1 66 5 65 10 5 4 64 false,Ak 67 64 66 4,lm 68 67 4,lmg 69 0 5 68 false,A1 70 5 69 13 5 4 68 false,Ak 71 68 70 4,AB 4 71 4]
abbrev xA:List LO:=[Ag 4 4]
abbrev AB5:LC:=.seq (.reg false AAE) (.seq (.reg false AAF) (.seq (.reg false AAG) (.seq (.seq (.reg false AAH) (.block 0 (.seq (.reg false AAJ) (.cond (AE 34) (.seq (.reg false AAK) .ret) (.seq (.reg false AAL) (.cond (AE 37) (.seq (.reg false AAM) .ret) (.seq (.reg false AAN) (.cond (AE 40) (.seq (.reg false wX) .ret) (.seq (.reg false wY) (.cond (AE 43) (.seq (.reg false wZ) .ret) (.seq (.reg false wI) (.cond (AE 49) (.seq (.reg false w0) .ret) (.seq (.reg false w6) (.cond (AE 58) (.seq (.reg false w7) .ret) (.seq (.reg false w8) (.cond (AE 61) (.seq (.reg false w9) .ret) .skip)))))))))))))))) (.seq (.reg false xA) .ret))))
theorem AB6:Bf E 71 72 [.tmp 4] AB5:=Bp Go.Proofs.Tryz.f71
noncomputable def Ep (a0:Int) (a1:Int):Option (Bool):=(if (a1 == 1)=true then some ((decide (a0≥48)) && (decide (a0≤57))) else (if (a1 == 2)=true then some ((decide (a0≥97)) && (decide (a0≤122))) else (if (a1 == 3)=true then some ((decide (a0≥65)) && (decide (a0≤90))) else (if (a1 == 4)=true then some (((decide (a0≥97)) && (decide (a0≤122))) || ((decide (a0≥65)) && (decide (a0≤90)))) else (if (a1 == 5)=true then some ((((decide (a0≥48)) && (decide (a0≤57))) || ((decide (a0≥97)) && (decide (a0≤122)))) || ((decide (a0≥65)) && (decide (a0≤90)))) else (if (a1 == 6)=true then some ((a0 == 32) || (a0 == 9)) else (if (a1 == 7)=true then some ((((a0 == 32) || (a0 == 9)) || (a0 == 10)) || (a0 == 13)) else some false)))))))
theorem Gg (a0:Int) (a1:Int):Ct E 71 [.s (.int .u8 a0),iv a1] (Ep a0 a1) (fun r:Bool=>bv r):=CN AB6 (by
 unfold Ep
 refine jS ⟨[V 0 (.s (.int .u8 a0)),V 1 (iv a1)],[],0⟩ ?_
 refine jS ⟨[V 0 (.s (.int .u8 a0)),V 1 (iv a1),V 5 (bv ((decide (a0≥48)) && (decide (a0≤57)))),V 6 (bv ((decide (a0≥97)) && (decide (a0≤122)))),V 7 (bv ((decide (a0≥65)) && (decide (a0≤90))))],[],0⟩ ?_
 refine jS ⟨[V 0 (.s (.int .u8 a0)),V 1 (iv a1),V 5 (bv ((decide (a0≥48)) && (decide (a0≤57)))),V 6 (bv ((decide (a0≥97)) && (decide (a0≤122)))),V 7 (bv ((decide (a0≥65)) && (decide (a0≤90)))),V 8 (bv ((a0 == 32) || (a0 == 9)))],[],0⟩ ?_
 refine Aj (jS ⟨[V 0 (.s (.int .u8 a0)),V 5 (bv ((decide (a0≥48)) && (decide (a0≤57)))),V 6 (bv ((decide (a0≥97)) && (decide (a0≤122)))),V 7 (bv ((decide (a0≥65)) && (decide (a0≤90)))),V 8 (bv ((a0 == 32) || (a0 == 9))),V 33 (iv a1)],[],0⟩ ?_)
 refine A4 (jS ⟨[V 0 (.s (.int .u8 a0)),V 5 (bv ((decide (a0≥48)) && (decide (a0≤57)))),V 6 (bv ((decide (a0≥97)) && (decide (a0≤122)))),V 7 (bv ((decide (a0≥65)) && (decide (a0≤90)))),V 8 (bv ((a0 == 32) || (a0 == 9))),V 33 (iv a1),V 34 (bv (a1 == 1))],[],0⟩ ?_)
 refine jIf ?_ ?_
 ·refine jS ⟨[V 4 (bv ((decide (a0≥48)) && (decide (a0≤57))))],[],0⟩ ?_
  exact Ae (BG (Ar (BO (bv ((decide (a0≥48)) && (decide (a0≤57)))))))
 refine jS ⟨[V 0 (.s (.int .u8 a0)),V 5 (bv ((decide (a0≥48)) && (decide (a0≤57)))),V 6 (bv ((decide (a0≥97)) && (decide (a0≤122)))),V 7 (bv ((decide (a0≥65)) && (decide (a0≤90)))),V 8 (bv ((a0 == 32) || (a0 == 9))),V 33 (iv a1),V 37 (bv (a1 == 2))],[],0⟩ ?_
 refine jIf ?_ ?_
 ·refine jS ⟨[V 4 (bv ((decide (a0≥97)) && (decide (a0≤122))))],[],0⟩ ?_
  exact Ae (BG (Ar (BO (bv ((decide (a0≥97)) && (decide (a0≤122)))))))
 refine jS ⟨[V 0 (.s (.int .u8 a0)),V 5 (bv ((decide (a0≥48)) && (decide (a0≤57)))),V 6 (bv ((decide (a0≥97)) && (decide (a0≤122)))),V 7 (bv ((decide (a0≥65)) && (decide (a0≤90)))),V 8 (bv ((a0 == 32) || (a0 == 9))),V 33 (iv a1),V 40 (bv (a1 == 3))],[],0⟩ ?_
 refine jIf ?_ ?_
 ·refine jS ⟨[V 4 (bv ((decide (a0≥65)) && (decide (a0≤90))))],[],0⟩ ?_
  exact Ae (BG (Ar (BO (bv ((decide (a0≥65)) && (decide (a0≤90)))))))
 refine jS ⟨[V 0 (.s (.int .u8 a0)),V 5 (bv ((decide (a0≥48)) && (decide (a0≤57)))),V 6 (bv ((decide (a0≥97)) && (decide (a0≤122)))),V 7 (bv ((decide (a0≥65)) && (decide (a0≤90)))),V 8 (bv ((a0 == 32) || (a0 == 9))),V 33 (iv a1),V 43 (bv (a1 == 4))],[],0⟩ ?_
 refine jIf ?_ ?_
 ·refine jS ⟨[V 4 (bv (((decide (a0≥97)) && (decide (a0≤122))) || ((decide (a0≥65)) && (decide (a0≤90)))))],[],0⟩ ?_
  exact Ae (BG (Ar (BO (bv (((decide (a0≥97)) && (decide (a0≤122))) || ((decide (a0≥65)) && (decide (a0≤90))))))))
 refine jS ⟨[V 0 (.s (.int .u8 a0)),V 5 (bv ((decide (a0≥48)) && (decide (a0≤57)))),V 6 (bv ((decide (a0≥97)) && (decide (a0≤122)))),V 7 (bv ((decide (a0≥65)) && (decide (a0≤90)))),V 8 (bv ((a0 == 32) || (a0 == 9))),V 33 (iv a1),V 49 (bv (a1 == 5))],[],0⟩ ?_
 refine jIf ?_ ?_
 ·refine jS ⟨[V 4 (bv ((((decide (a0≥48)) && (decide (a0≤57))) || ((decide (a0≥97)) && (decide (a0≤122)))) || ((decide (a0≥65)) && (decide (a0≤90)))))],[],0⟩ ?_
  exact Ae (BG (Ar (BO (bv ((((decide (a0≥48)) && (decide (a0≤57))) || ((decide (a0≥97)) && (decide (a0≤122)))) || ((decide (a0≥65)) && (decide (a0≤90))))))))
 refine jS ⟨[V 0 (.s (.int .u8 a0)),V 8 (bv ((a0 == 32) || (a0 == 9))),V 33 (iv a1),V 58 (bv (a1 == 6))],[],0⟩ ?_
 refine jIf ?_ ?_
 ·refine jS ⟨[V 4 (bv ((a0 == 32) || (a0 == 9)))],[],0⟩ ?_
  exact Ae (BG (Ar (BO (bv ((a0 == 32) || (a0 == 9))))))
 refine jS ⟨[V 0 (.s (.int .u8 a0)),V 8 (bv ((a0 == 32) || (a0 == 9))),V 61 (bv (a1 == 7))],[],0⟩ ?_
 refine jIf ?_ ?_
 ·refine jS ⟨[V 4 (bv ((((a0 == 32) || (a0 == 9)) || (a0 == 10)) || (a0 == 13)))],[],0⟩ ?_
  exact Ae (BG (Ar (BO (bv ((((a0 == 32) || (a0 == 9)) || (a0 == 10)) || (a0 == 13))))))
 refine Ah (BX (Ab (jS ⟨[V 4 (bv false)],[],0⟩ ?_)))
 exact Ae (BO (bv false)))
abbrev xB:List LO:=[Ap 6 0 3]
abbrev xC:List LO:=[lm 8 1 3,D0 9 3 8 0 3 4,lm 10 9 4,lmg 11 1 3 10 false,lmg 12 0 9 10 false,BF 13 #[AE 12] #[9] 3 10 false,lg 14 (.binOp .gtr 3 (AE 11) (AE 13) 3) 4 10 false,Ak 15 10 14 4]
abbrev xD:List LO:=[lm 16 1 3,AB 6 16 3]
abbrev xE:List LO:=[lm 17 0 9,Ai 18 #[AE 17] #[9] 3,lm 19 1 3,lo 20 (.binOp .sub 3 (AE 18) (AE 19) 3) 3,CG 21 0 3]
abbrev xF:List LO:=[Al 22 3 21 20 3 4]
abbrev xG:List LO:=[lm 23 21 3,AB 7 23 3]
abbrev xH:List LO:=[lm 24 0 9,lm 25 1 3,lm 26 7 3,Bk 27 3 25 26 3 3,lo 28 (.index 9 (AE 24) (AE 27)) 5,lm 29 2 3,AN 30 71 #[AE 28,AE 29] #[5,3] 4,BR 31 4 30 4]
abbrev xJ:List LO:=[lm 32 1 3,lm 33 7 3,Bk 34 3 32 33 3 3,AB 6 34 3]
abbrev xK:List LO:=[Af 35 3 21 1 3 3,lm 21 35 3]
abbrev rI:List LO:=[lm 36 0 9,Ai 37 #[AE 36] #[9] 3,AB 6 37 3]
abbrev AAO:LC:=.seq (.reg false xB) (.seq (.seq (.reg false xC) (.cond (AE 15) (.seq (.reg false xD) .ret) .skip)) (.seq (.seq (.reg false xE) (.block 0 (.loop (.seq (.reg false xF) (.seq (.cond (AE 22) .skip (.exit 0)) (.seq (.block 1 (.seq (.reg false xG) (.seq (.reg false xH) (.cond (AE 31) (.seq (.reg false xJ) .ret) .skip)))) (.reg false xK))))))) (.seq (.reg false rI) .ret)))
theorem AAP:Bf E 69 38 [.tmp 6] AAO:=Bp Go.Proofs.Tryz.f69
noncomputable def Kk (a0:Str) (a1:Int) (a2:Int):Int→Option (Step (Int) ((Int) ⊕ (Unit))):=fun x3=>(if (decide (x3 < (w64 ((List.length a0:Int) - a1))))=true then Option.bind (idx a0 (w64 (a1 + x3))) (fun x8=>Option.bind (Ep x8 a2) (fun x9=>(if (!x9)=true then some (Step.done (Sum.inl (w64 (a1 + x3)))) else some (Step.next (w64 (x3 + 1)))))) else some (Step.done (Sum.inr ())))
noncomputable def Dy (a0:Str) (a1:Int) (a2:Int):Option (Int):=(if ((decide (a1 < 0)) || (decide (a1 > (List.length a0:Int))))=true then some a1 else Option.bind (CD (Kk a0 a1 a2) 0) (fun y=>match y with | Sum.inl x7=>some x7 | Sum.inr _=>some (List.length a0:Int)))
theorem E2 (a0:Str) (a1:Int) (a2:Int):Ct E 69 [bs a0,iv a1,iv a2] (Dy a0 a1 a2) (fun r:Int=>iv r):=CN AAP (by
 unfold Dy
 refine jS ⟨[V 0 (bs a0),V 1 (iv a1),V 2 (iv a2)],[],0⟩ ?_
 refine Aj (jS ⟨[V 0 (bs a0),V 1 (iv a1),V 2 (iv a2),V 15 (bv ((decide (a1 < 0)) || (decide (a1 > (List.length a0:Int)))))],[],0⟩ ?_)
 refine jIf ?_ ?_
 ·refine jS ⟨[V 6 (iv a1)],[],0⟩ ?_
  exact Ae (Ar (BO (iv a1)))
 refine Ah (Ab (Aj (jS ⟨[V 0 (bs a0),V 1 (iv a1),V 2 (iv a2),V 20 (iv (w64 ((List.length a0:Int) - a1))),V 21 (iv 0)],[],0⟩ ?_)))
 refine A4 ?_
 refine BA (fun y=>match y with | Sum.inl x7=>⟨[V 6 (iv x7)],[],0⟩ | Sum.inr _=>⟨[V 0 (bs a0)],[],0⟩) (fun y=>match y with | Sum.inl x7=>.ret | Sum.inr _=>(.exit 0)) (C5 (fun x3=>⟨[V 0 (bs a0),V 1 (iv a1),V 2 (iv a2),V 20 (iv (w64 ((List.length a0:Int) - a1))),V 21 (iv x3)],[],0⟩) BV ?_) ?_
 ·intro x3
  unfold Kk
  refine jS ⟨[V 0 (bs a0),V 1 (iv a1),V 2 (iv a2),V 20 (iv (w64 ((List.length a0:Int) - a1))),V 21 (iv x3),V 22 (bv (decide (x3 < (w64 ((List.length a0:Int) - a1)))))],[],0⟩ ?_
  refine Aj ?_
  refine jIf ?_ ?_
  ·refine Ah (Ab (Aj (A4 (jS ⟨[V 0 (bs a0),V 1 (iv a1),V 2 (iv a2),V 7 (iv x3),V 20 (iv (w64 ((List.length a0:Int) - a1))),V 21 (iv x3)],[],0⟩ ?_))))
   refine jR (jG 0 4 ⟨[V 0 (bs a0),V 1 (iv a1),V 2 (iv a2),V 7 (iv x3),V 20 (iv (w64 ((List.length a0:Int) - a1))),V 21 (iv x3),V 24 (bs a0),V 27 (iv (w64 (a1 + x3)))],[],0⟩ ?_)
   refine A5 (i:=4) (mo:=idx a0 (w64 (a1 + x3))) rfl rfl rfl rfl (fun _ hc=>Bq (kk:=.i64) (by kernel_rfl) (by kernel_rfl) (by kernel_rfl) hc) (fun _=>rfl) ?_
   intro x8 h8
   refine jG 5 1 ⟨[V 0 (bs a0),V 1 (iv a1),V 2 (iv a2),V 7 (iv x3),V 20 (iv (w64 ((List.length a0:Int) - a1))),V 21 (iv x3),V 28 (.s (.int .u8 x8)),V 29 (iv a2)],[],0⟩ ?_
   refine jK 6 (Gg x8 a2) ?_
   intro x9 h9
   refine jG 7 1 ⟨[V 0 (bs a0),V 1 (iv a1),V 2 (iv a2),V 7 (iv x3),V 20 (iv (w64 ((List.length a0:Int) - a1))),V 21 (iv x3),V 31 (bv (!x9))],[],0⟩ ?_
   refine jN ?_
   refine jIf ?_ ?_
   ·refine jS ⟨[V 6 (iv (w64 (a1 + x3)))],[],0⟩ ?_
    exact Ae (BG (Ar (Bm rfl nofun BV)))
   refine Ah (BX (Ab (jT ⟨[V 0 (bs a0),V 1 (iv a1),V 2 (iv a2),V 20 (iv (w64 ((List.length a0:Int) - a1))),V 21 (iv (w64 (x3 + 1)))],[],0⟩ ?_)))
   exact C7 BV
  exact Cp (Cq (Bm rfl nofun BV))
 rintro (x7 | _)
 ·exact BG (Ar (BO (iv x7)))
 refine C6 (Ab (jS ⟨[V 6 (iv (List.length a0:Int))],[],0⟩ ?_))
 exact Ae (BO (iv (List.length a0:Int))))
abbrev V0:List LO:=[A8 4 #[] 9]
abbrev V1:List LO:=[lm 6 0 78,AH 7 6 0,AA 8 80 7 1 0,AF 9 3 8 3,AB 5 9 3]
abbrev V2:List LO:=[lm 10 0 78,lm 11 0 78,AH 12 11 0,AA 13 80 12 0 0,AF 14 9 13 9,lm 15 0 78,AH 16 15 0,AA 17 80 16 1 0,AF 18 3 17 3,lm 19 1 3,AN 20 69 #[AE 14,AE 18,AE 19] #[9,3,3] 3,AH 21 10 0,AA 22 80 21 1 0,AO 3 22 20 0]
abbrev V3:List LO:=[lm 23 0 78,AH 24 23 0,AA 25 80 24 0 0,AF 26 9 25 9,lm 27 5 3,lm 28 0 78,AH 29 28 0,AA 30 80 29 1 0,AF 31 3 30 3,lo 32 (.slice 9 (AE 26) (some (AE 27)) (some (AE 31)) none) 9,AB 4 32 9]
abbrev N8:LC:=.seq (.reg false V0) (.seq (.reg false V1) (.seq (.reg true V2) (.seq (.reg true V3) .ret)))
theorem XQ:Bf E 85 33 [.tmp 4] N8:=Bp Go.Proofs.Tryz.f85
abbrev XP (a0:Str) (a1:Int) (a2:Int) (a3:Int) (a4:Int) (r:Str × Int):CS:=⟨[V 4 (bs r.1)],[W 0 4 [bs a0,iv r.2,iv a2,iv a3]],1⟩
noncomputable def Ex (a0:Str) (a1:Int) (a2:Int) (a3:Int) (a4:Int):Option (Str × Int):=Option.bind (Dy a0 a1 a4) (fun x5=>Option.bind (E0 a0 a1 x5) (fun x6=>some (x6,x5)))
theorem Mw (a0:Str) (a1:Int) (a2:Int) (a3:Int) (a4:Int):CtM E 85 [pt 0 4,iv a4] [W 0 4 [bs a0,iv a1,iv a2,iv a3]] 1 (Ex a0 a1 a2 a3 a4) (fun r:Str × Int=>bs r.1) (fun r:Str × Int=>[W 0 4 [bs a0,iv r.2,iv a2,iv a3]]) 1:=B5 (N:=33) (L:=N8) XQ rfl (Nat.le_of_ble_eq_true rfl) (fun F hF=>by
 unfold Ex
 refine jS ⟨[V 0 (pt 0 4),V 1 (iv a4)],[W 0 4 [bs a0,iv a1,iv a2,iv a3]],1⟩ ?_
 refine jS ⟨[V 0 (pt 0 4),V 1 (iv a4),V 5 (iv a1)],[W 0 4 [bs a0,iv a1,iv a2,iv a3]],1⟩ ?_
 refine jR (jG 0 10 ⟨[V 0 (pt 0 4),V 5 (iv a1),V 10 (pt 0 4),V 14 (bs a0),V 18 (iv a1),V 19 (iv a4)],[W 0 4 [bs a0,iv a1,iv a2,iv a3]],1⟩ ?_)
 refine jK 10 (E2 a0 a1 a4) ?_
 intro x5 h5
 refine jG 11 3 ⟨[V 0 (pt 0 4),V 5 (iv a1)],[W 0 4 [bs a0,iv x5,iv a2,iv a3]],1⟩ ?_
 refine jN (jR (jG 0 9 ⟨[V 26 (bs a0),V 27 (iv a1),V 31 (iv x5)],[W 0 4 [bs a0,iv x5,iv a2,iv a3]],1⟩ ?_))
 refine A5 (i:=9) (mo:=E0 a0 a1 x5) rfl rfl rfl rfl (fun _ hc=>FP (by kernel_rfl) (by kernel_rfl) (by kernel_rfl) (by kernel_rfl) hc) (fun _=>rfl) ?_
 intro x6 h6
 refine jG 10 1 ⟨[V 4 (bs x6)],[W 0 4 [bs a0,iv x5,iv a2,iv a3]],1⟩ ?_
 exact jN (Ae (BY (XP a0 a1 a2 a3 a4 (x6,x5)) (.inr rfl) (wkR [(0,some 0)] (An hF (k:=1) rfl) (pc (hC 0) AD)))))
abbrev Rt:List LO:=[A8 2 #[] 9]
abbrev Ru:List LO:=[lm 3 0 78,AN 4 85 #[AE 3,.const (.int .i64 1)] #[78,3] 9,AN 5 86 #[AE 4] #[9] 9,AB 2 5 9]
abbrev LG:LC:=.seq (.reg false Rt) (.seq (.reg false Ru) .ret)
theorem TW:Bf E 79 6 [.tmp 2] LG:=Bp Go.Proofs.Tryz.f79
abbrev TV (a0:Str) (a1:Int) (a2:Int) (a3:Int) (r:Str × Int):CS:=⟨[V 2 (bs r.1)],[W 0 4 [bs a0,iv r.2,iv a2,iv a3]],1⟩
noncomputable def Cr (a0:Str) (a1:Int) (a2:Int) (a3:Int):Option (Str × Int):=Option.bind (Ex a0 a1 a2 a3 1) (fun (x6,x7)=>Option.bind (ES x6) (fun x8=>some (x8,x7)))
theorem EY (a0:Str) (a1:Int) (a2:Int) (a3:Int):CtM E 79 [pt 0 4] [W 0 4 [bs a0,iv a1,iv a2,iv a3]] 1 (Cr a0 a1 a2 a3) (fun r:Str × Int=>bs r.1) (fun r:Str × Int=>[W 0 4 [bs a0,iv r.2,iv a2,iv a3]]) 1:=B5 (N:=6) (L:=LG) TW rfl (Nat.le_of_ble_eq_true rfl) (fun F hF=>by
 unfold Cr
 refine jS ⟨[V 0 (pt 0 4)],[W 0 4 [bs a0,iv a1,iv a2,iv a3]],1⟩ ?_
 refine jR (jG 0 1 ⟨[V 3 (pt 0 4)],[W 0 4 [bs a0,iv a1,iv a2,iv a3]],1⟩ ?_)
 refine BC 1 [(0,some 0)] [(0,some 0)] (fun r:Str × Int=>[W 0 4 [bs a0,iv r.2,iv a2,iv a3]]) (fun r:Str × Int=>bs r.1) 1 (Mw a0 a1 a2 a3 1) (pc (hC 0) AD) (fun r=>(pc (.inr (hC 0)) AD)) ?_
 rintro⟨x6,x7⟩ hm2
 refine jK 2 (Gu x6) ?_
 intro x8 h8
 refine jG 3 1 ⟨[V 2 (bs x8)],[W 0 4 [bs a0,iv x7,iv a2,iv a3]],1⟩ ?_
 exact jN (Ae (BY (TV a0 a1 a2 a3 (x8,x7)) (.inr rfl) (wkR [(0,some 0)] (An hF (k:=1) rfl) (pc (hC 0) AD)))))
abbrev TY:List LO:=[A8 2 #[] 9]
abbrev TZ:List LO:=[lm 5 0 78,AH 6 5 0,AA 7 80 6 0 0,AF 8 9 7 9,lm 9 0 78,AH 10 9 0,AA 11 80 10 1 0,AF 12 3 11 3,AN 13 69 #[AE 8,AE 12,.const (.int .i64 1)] #[9,3,3] 3,AB 3 13 3]
abbrev Ta:List LO:=[lm 14 3 3,lm 15 0 78,AH 16 15 0,AA 17 80 16 1 0,AF 18 3 17 3,CV 19 3 14 18 3 4,lm 20 19 4,lmg 21 3 3 20 false,lmg 22 0 78 20 false,Ao 23 22 0 20 false,AM 24 80 23 0 0 20 false,Aa 25 9 24 9 20 false,BF 26 #[AE 25] #[9] 3 20 false,Bb 27 3 21 26 3 4 20 false,Ak 28 20 27 4,lm 29 28 4,lmg 30 0 78 29 false,Ao 31 30 0 29 false,AM 32 80 31 0 0 29 false,Aa 33 9 32 9 29 false,lmg 34 3 3 29 false,BQ 35 9 33 34 5 29 false,lg 36 (.binOp .neq 5 (AE 35) (.const (.int .u8 33)) 5) 4 29 false,Ak 37 29 36 4]
abbrev Tb:List LO:=[A8 2 #[48] 9]
abbrev Tc:List LO:=[lm 38 0 78,AN 39 79 #[AE 38] #[78] 9,AB 4 39 9]
abbrev Td:List LO:=[lm 40 0 78,AH 41 40 0,AA 42 80 41 1 0,AF 43 3 42 3,Af 44 3 43 1 3 3,AH 45 40 0,AA 46 80 45 1 0,AO 3 46 44 0]
abbrev Te:List LO:=[lm 47 4 9,AB 2 47 9]
abbrev L5:LC:=.seq (.reg false TY) (.seq (.reg true TZ) (.seq (.seq (.reg false Ta) (.cond (AE 37) (.seq (.reg false Tb) .ret) .skip)) (.seq (.reg false Tc) (.seq (.reg false Td) (.seq (.reg false Te) .ret)))))
theorem Up:Bf E 50 48 [.tmp 2] L5:=Bp Go.Proofs.Tryz.f50
abbrev L4 (a0:Str) (a1:Int) (a2:Int) (a3:Int) (r:Str × Int):CS:=⟨[V 2 (bs r.1)],[W 0 4 [bs a0,iv r.2,iv a2,iv a3]],1⟩
noncomputable def Ev (a0:Str) (a1:Int) (a2:Int) (a3:Int):Option (Str × Int):=Option.bind (Dy a0 a1 1) (fun x8=>Option.bind (if ((x8 == a1) || (x8 == (List.length a0:Int)))=true then some true else Option.bind (idx a0 x8) (fun x11=>some (x11 != 33)):Option (Bool)) (fun x10=>(if x10=true then some ([48],a1) else Option.bind (Cr a0 a1 a2 a3) (fun (x12,x13)=>some (x12,(w64 (x13 + 1)))))))
theorem TX (a0:Str) (a1:Int) (a2:Int) (a3:Int):CtM E 50 [pt 0 4] [W 0 4 [bs a0,iv a1,iv a2,iv a3]] 1 (Ev a0 a1 a2 a3) (fun r:Str × Int=>bs r.1) (fun r:Str × Int=>[W 0 4 [bs a0,iv r.2,iv a2,iv a3]]) 1:=B5 (N:=48) (L:=L5) Up rfl (Nat.le_of_ble_eq_true rfl) (fun F hF=>by
 unfold Ev
 refine jS ⟨[V 0 (pt 0 4)],[W 0 4 [bs a0,iv a1,iv a2,iv a3]],1⟩ ?_
 refine jR (jG 0 8 ⟨[V 0 (pt 0 4),V 8 (bs a0),V 12 (iv a1)],[W 0 4 [bs a0,iv a1,iv a2,iv a3]],1⟩ ?_)
 refine jK 8 (E2 a0 a1 1) ?_
 intro x8 h8
 refine jG 9 1 ⟨[V 0 (pt 0 4),V 3 (iv x8)],[W 0 4 [bs a0,iv a1,iv a2,iv a3]],1⟩ ?_
 refine jN (Aj (jR (jG 0 16 ⟨[V 0 (pt 0 4),V 3 (iv x8),V 29 (bv ((x8 == a1) || (x8 == (List.length a0:Int))))],[W 0 4 [bs a0,iv a1,iv a2,iv a3]],1⟩ ?_)))
 refine A2 16 8 (fun x10=>⟨[V 0 (pt 0 4),V 37 (bv x10)],[W 0 4 [bs a0,iv a1,iv a2,iv a3]],1⟩) ?_ ?_
 ·refine jSp 29 ?_ ?_
  ·refine jG 0 8 ⟨[V 0 (pt 0 4),V 37 (bv true)],[W 0 4 [bs a0,iv a1,iv a2,iv a3]],1⟩ ?_
   exact Ad rfl (AU rfl (wkR [(0,some 0)] (An hF (k:=1) rfl) (pc (hC 0) AD)))
  refine jG 0 5 ⟨[V 0 (pt 0 4),(29,.lit false),V 33 (bs a0),V 34 (iv x8)],[W 0 4 [bs a0,iv a1,iv a2,iv a3]],1⟩ ?_
  refine A5 (i:=5) (mo:=idx a0 x8) rfl rfl rfl rfl (fun _ hc=>Bq (kk:=.i64) (by kernel_rfl) (by kernel_rfl) (by kernel_rfl) hc) (fun _=>rfl) ?_
  intro x11 h11
  refine jG 6 2 ⟨[V 0 (pt 0 4),V 37 (bv (x11 != 33))],[W 0 4 [bs a0,iv a1,iv a2,iv a3]],1⟩ ?_
  exact Ad rfl (AU rfl (wkR [(0,some 0)] (An hF (k:=1) rfl) (pc (hC 0) AD)))
 intro x10
 refine jN ?_
 refine jIf ?_ ?_
 ·refine jS ⟨[V 2 (bs [48])],[W 0 4 [bs a0,iv a1,iv a2,iv a3]],1⟩ ?_
  exact Ae (Ar (BY (L4 a0 a1 a2 a3 ([48],a1)) (.inr rfl) (wkR [(0,some 0)] (An hF (k:=1) rfl) (pc (hC 0) AD))))
 refine Ah (Ab (jR (jG 0 1 ⟨[V 0 (pt 0 4),V 38 (pt 0 4)],[W 0 4 [bs a0,iv a1,iv a2,iv a3]],1⟩ ?_)))
 refine BC 1 [(0,some 0)] [(0,some 0)] (fun r:Str × Int=>[W 0 4 [bs a0,iv r.2,iv a2,iv a3]]) (fun r:Str × Int=>bs r.1) 1 (EY a0 a1 a2 a3) (pc (hC 0) AD) (fun r=>(pc (.inr (hC 0)) AD)) ?_
 rintro⟨x12,x13⟩ hm2
 refine jG 2 1 ⟨[V 0 (pt 0 4),V 4 (bs x12)],[W 0 4 [bs a0,iv x13,iv a2,iv a3]],1⟩ ?_
 refine jN (jS ⟨[V 4 (bs x12)],[W 0 4 [bs a0,iv (w64 (x13 + 1)),iv a2,iv a3]],1⟩ ?_)
 refine jS ⟨[V 2 (bs x12)],[W 0 4 [bs a0,iv (w64 (x13 + 1)),iv a2,iv a3]],1⟩ ?_
 exact Ae (BY (L4 a0 a1 a2 a3 (x12,(w64 (x13 + 1)))) (.inr rfl) (wkR [(0,some 0)] (An hF (k:=1) rfl) (pc (hC 0) AD))))
abbrev PO:List LO:=[Ag 4 4]
abbrev PP:List LO:=[lm 5 0 78,AH 6 5 0,AA 7 80 6 1 0,AF 8 3 7 3,lm 9 0 78,AH 10 9 0,AA 11 80 10 0 0,AF 12 9 11 9,Ai 13 #[AE 12] #[9] 3,Al 14 3 8 13 3 4,lm 15 14 4,lmg 16 0 78 15 true,Ao 17 16 0 15 true,AM 18 80 17 0 0 15 true,Aa 19 9 18 9 15 true,lmg 20 0 78 15 true,Ao 21 20 0 15 true,AM 22 80 21 1 0 15 true,Aa 23 3 22 3 15 true,BQ 24 9 19 23 5 15 true,lmg 25 1 3 15 true,A7 26 71 #[AE 24,AE 25] #[5,3] 4 15 true,AS 27 15 26 4,AB 4 27 4]
abbrev QY:LC:=.seq (.reg false PO) (.seq (.reg true PP) .ret)
theorem QZ:Bf E 84 28 [.tmp 4] QY:=Bp Go.Proofs.Tryz.f84
noncomputable def DN (a0:Str) (a1:Int) (a2:Int) (a3:Int) (a4:Int):Option (Bool):=Option.bind (if (decide (a1 < (List.length a0:Int)))=true then Option.bind (idx a0 a1) (fun x4=>Option.bind (Ep x4 a4) (fun x5=>some x5)) else some false:Option (Bool)) (fun x3=>some x3)
theorem Hs (a0:Str) (a1:Int) (a2:Int) (a3:Int) (a4:Int):Ct E 84 [.fptr [bs a0,iv a1,iv a2,iv a3] 0,iv a4] (DN a0 a1 a2 a3 a4) (fun r:Bool=>bv r):=CN QZ (by
 unfold DN
 refine jS ⟨[V 0 (.fptr [bs a0,iv a1,iv a2,iv a3] 0),V 1 (iv a4)],[],0⟩ ?_
 refine jR (jG 0 11 ⟨[V 0 (.fptr [bs a0,iv a1,iv a2,iv a3] 0),V 1 (iv a4),V 15 (bv (decide (a1 < (List.length a0:Int))))],[],0⟩ ?_)
 refine A2 11 12 (fun x3=>⟨[V 27 (bv x3)],[],0⟩) ?_ ?_
 ·refine jSp 15 ?_ ?_
  ·refine jG 0 8 ⟨[V 1 (iv a4),(15,.lit true),V 19 (bs a0),V 23 (iv a1)],[],0⟩ ?_
   refine A5 (i:=8) (mo:=idx a0 a1) rfl rfl rfl rfl (fun _ hc=>Bq (kk:=.i64) (by kernel_rfl) (by kernel_rfl) (by kernel_rfl) hc) (fun _=>rfl) ?_
   intro x4 h4
   refine jG 9 1 ⟨[(15,.lit true),V 24 (.s (.int .u8 x4)),V 25 (iv a4)],[],0⟩ ?_
   refine jK 10 (Gg x4 a4) ?_
   intro x5 h5
   refine jG 11 1 ⟨[V 27 (bv x5)],[],0⟩ ?_
   exact Ad rfl (AU rfl BV)
  refine jG 0 12 ⟨[V 27 (bv false)],[],0⟩ ?_
  exact Ad rfl (AU rfl BV)
 intro x3
 refine jG 23 1 ⟨[V 4 (bv x3)],[],0⟩ ?_
 exact jN (Ae (BO (bv x3))))
abbrev Ur:List LO:=[Ag 4 4]
abbrev Us:List LO:=[lm 14 0 78,AH 15 14 0,AA 16 80 15 2 0,AA 17 25 16 0 0,AF 18 23 17 23,BM 19 23 18 0 23 4,AB 13 19 4]
abbrev Ut:List LO:=[Ag 4 4]
abbrev Uu:List LO:=[lm 21 0 78,lm 22 1 3,AN 23 84 #[AE 21,AE 22] #[78,3] 4,AB 20 23 4]
abbrev Uv:List LO:=[Ed 4 4]
abbrev Uw:List LO:=[lm 25 0 78,AH 26 25 0,AA 27 80 26 1 0,AF 28 3 27 3,lm 29 0 78,AH 30 29 0,AA 31 80 30 0 0,AF 32 9 31 9,Ai 33 #[AE 32] #[9] 3,CV 34 3 28 33 3 4,AB 24 34 4]
abbrev Ux:List LO:=[lm 35 0 78,lm 36 0 78,AH 37 36 0,AA 38 80 37 1 0,AF 39 3 38 3,lo 40 (.build 25 #[(0,.const (.int .i64 11)),(1,AE 39)]) 25,AH 41 35 0,AA 42 80 41 2 0,AO 25 42 40 0]
abbrev Uy:List LO:=[lm 5 0 78,lm 6 0 78,AH 7 6 0,AA 8 80 7 1 0,AF 9 3 8 3,lo 10 (.build 25 #[(0,.const (.int .i64 10)),(1,AE 9)]) 25,AH 11 5 0,AA 12 80 11 2 0,AO 25 12 10 0]
abbrev Uz:List LO:=[Ag 4 4]
abbrev Mu:LC:=.seq (.reg false Ur) (.seq (.block 0 (.seq (.reg false Us) (.cond (AE 13) (.seq (.reg false Ut) .ret) (.seq (.reg false Uu) (.cond (AE 20) (.seq (.reg false Uv) .ret) (.seq (.reg true Uw) (.cond (AE 24) (.reg false Ux) (.reg false Uy)))))))) (.seq (.reg false Uz) .ret))
theorem Vz:Bf E 80 43 [.tmp 4] Mu:=Bp Go.Proofs.Tryz.f80
abbrev Mt (a0:Str) (a1:Int) (a2:Int) (a3:Int) (a4:Int) (r:Bool × Int × Int):CS:=⟨[V 4 (bv r.1)],[W 0 4 [bs a0,iv a1,iv r.2.1,iv r.2.2]],1⟩
noncomputable def EQ (a0:Str) (a1:Int) (a2:Int) (a3:Int) (a4:Int):Option (Bool × Int × Int):=Option.bind ((if (a2 != 0)=true then some (Sum.inl false) else Option.bind (DN a0 a1 a2 a3 a4) (fun x10=>(if x10=true then some (Sum.inl true) else (if (a1 == (List.length a0:Int))=true then some (Sum.inr 11) else some (Sum.inr 10))))):Option ((Bool) ⊕ (Int))) (fun y=>match y with | Sum.inl x8=>some (x8,a2,a3) | Sum.inr x9=>some (false,x9,a1))
theorem L9 (a0:Str) (a1:Int) (a2:Int) (a3:Int) (a4:Int):CtM E 80 [pt 0 4,iv a4] [W 0 4 [bs a0,iv a1,iv a2,iv a3]] 1 (EQ a0 a1 a2 a3 a4) (fun r:Bool × Int × Int=>bv r.1) (fun r:Bool × Int × Int=>[W 0 4 [bs a0,iv a1,iv r.2.1,iv r.2.2]]) 1:=B5 (N:=43) (L:=Mu) Vz rfl (Nat.le_of_ble_eq_true rfl) (fun F hF=>by
 unfold EQ
 refine jS ⟨[V 0 (pt 0 4),V 1 (iv a4)],[W 0 4 [bs a0,iv a1,iv a2,iv a3]],1⟩ ?_
 refine Aj ?_
 refine BA (fun y=>match y with | Sum.inl x8=>⟨[V 4 (bv x8)],[W 0 4 [bs a0,iv a1,iv a2,iv a3]],1⟩ | Sum.inr x9=>⟨[],[W 0 4 [bs a0,iv a1,iv x9,iv a1]],1⟩) (fun y=>match y with | Sum.inl x8=>.ret | Sum.inr x9=>.normal) ?_ ?_
 ·refine A4 (jS ⟨[V 0 (pt 0 4),V 1 (iv a4),V 13 (bv (a2 != 0))],[W 0 4 [bs a0,iv a1,iv a2,iv a3]],1⟩ ?_)
  refine jIf ?_ ?_
  ·refine jS ⟨[V 4 (bv false)],[W 0 4 [bs a0,iv a1,iv a2,iv a3]],1⟩ ?_
   exact Ae (BG (AU rfl (wkR [(0,some 0)] (An hF (k:=1) rfl) (pc (hC 0) AD))))
  refine jR (jG 0 2 ⟨[V 0 (pt 0 4),V 21 (pt 0 4),V 22 (iv a4)],[W 0 4 [bs a0,iv a1,iv a2,iv a3]],1⟩ ?_)
  refine By (i:=2) rfl rfl rfl rfl (vs:=[pt 0 4,iv a4]) (vs0:=[.fptr [bs a0,iv a1,iv a2,iv a3] 0,iv a4]) (b:=true) (by kernel_rfl) (by kernel_rfl) (AL (AP _) (AL (AP _) Ax)) (Hs a0 a1 a2 a3 a4) (fun _=>rfl) (fun _=>rfl) ?_
  intro x10 h10
  refine jG 3 1 ⟨[V 0 (pt 0 4),V 20 (bv x10)],[W 0 4 [bs a0,iv a1,iv a2,iv a3]],1⟩ ?_
  refine jN ?_
  refine jIf ?_ ?_
  ·refine jS ⟨[V 4 (bv true)],[W 0 4 [bs a0,iv a1,iv a2,iv a3]],1⟩ ?_
   exact Ae (BG (AU rfl (wkR [(0,some 0)] (An hF (k:=1) rfl) (pc (hC 0) AD))))
  refine jS ⟨[V 0 (pt 0 4),V 24 (bv (a1 == (List.length a0:Int)))],[W 0 4 [bs a0,iv a1,iv a2,iv a3]],1⟩ ?_
  refine jIf ?_ ?_
  ·refine jT ⟨[],[W 0 4 [bs a0,iv a1,iv 11,iv a1]],1⟩ ?_
   exact BX (AU rfl (wkR [(0,some 0)] (An hF (k:=1) rfl) (pc (hC 0) AD)))
  refine jT ⟨[],[W 0 4 [bs a0,iv a1,iv 10,iv a1]],1⟩ ?_
  exact BX (AU rfl (wkR [(0,some 0)] (An hF (k:=1) rfl) (pc (hC 0) AD)))
 rintro (x8 | x9)
 ·exact Ar (BY (Mt a0 a1 a2 a3 a4 (x8,a2,a3)) (.inr rfl) (wkR [(0,some 0)] (An hF (k:=1) rfl) (pc (hC 0) AD)))
 refine Ab (jS ⟨[V 4 (bv false)],[W 0 4 [bs a0,iv a1,iv x9,iv a1]],1⟩ ?_)
 exact Ae (BY (Mt a0 a1 a2 a3 a4 (false,x9,a1)) (.inr rfl) (wkR [(0,some 0)] (An hF (k:=1) rfl) (pc (hC 0) AD))))
abbrev Qb:List LO:=[Bd 2 (.const (.slice none 0 0)) 32]
abbrev Qc:List LO:=[Bd 3 (.const (.slice none 0 0)) 32]
abbrev Qd:List LO:=[lm 4 0 78,AN 5 80 #[AE 4,.const (.int .i64 1)] #[78,3] 4]
abbrev Qe:List LO:=[lm 6 3 32,lm 7 0 78,AN 8 79 #[AE 7] #[78] 9,lo 9 (.buildSlice 32 1 #[(0,AE 8)]) 32,DP 10 #[AE 6,AE 9] #[32,32] 32,AB 3 10 32]
abbrev Qf:List LO:=[lm 11 0 78,AH 12 11 0,AA 13 80 12 1 0,AF 14 3 13 3,Af 15 3 14 1 3 3,lm 16 0 78,AH 17 16 0,AA 18 80 17 0 0,AF 19 9 18 9,Ai 20 #[AE 19] #[9] 3,CW 21 3 15 20 3 4,lm 22 21 4,lmg 23 0 78 22 false,Ao 24 23 0 22 false,AM 25 80 24 0 0 22 false,Aa 26 9 25 9 22 false,lmg 27 0 78 22 false,Ao 28 27 0 22 false,AM 29 80 28 1 0 22 false,Aa 30 3 29 3 22 false,BQ 31 9 26 30 5 22 false,lg 32 (.binOp .neq 5 (AE 31) (.const (.int .u8 46)) 5) 4 22 false,Ak 33 22 32 4,lm 34 33 4,lmg 35 0 78 34 false,Ao 36 35 0 34 false,AM 37 80 36 0 0 34 false,Aa 38 9 37 9 34 false,lmg 39 0 78 34 false,Ao 40 39 0 34 false,AM 41 80 40 1 0 34 false,Aa 42 3 41 3 34 false,CL 43 3 42 1 3 3 34 false,BQ 44 9 38 43 5 34 false,A7 45 71 #[AE 44,.const (.int .i64 1)] #[5,3] 4 34 false,Ay 46 4 45 4 34 false,Ak 47 34 46 4]
abbrev Qg:List LO:=[lm 48 3 32,AB 2 48 32]
abbrev Qh:List LO:=[lm 49 0 78,AH 50 49 0,AA 51 80 50 1 0,AF 52 3 51 3,Af 53 3 52 1 3 3,AH 54 49 0,AA 55 80 54 1 0,AO 3 55 53 0]
abbrev Qi:List LO:=[lm 56 3 32,AB 2 56 32]
abbrev KM:LC:=.seq (.reg false Qb) (.seq (.reg false Qc) (.seq (.block 0 (.loop (.seq (.seq (.reg false Qd) (.cond (AE 5) .skip (.exit 0))) (.block 1 (.seq (.reg false Qe) (.seq (.seq (.reg true Qf) (.cond (AE 47) (.seq (.reg false Qg) .ret) .skip)) (.reg false Qh))))))) (.seq (.reg false Qi) .ret)))
theorem R8:Bf E 51 57 [.tmp 2] KM:=Bp Go.Proofs.Tryz.f51
noncomputable def B9 (a0:Str):(Int × Int × Int × List Str)→Option (Step (Int × Int × Int × List Str) ((List Str × Int × Int × Int) ⊕ (List Str × Int × Int × Int))):=fun (x54,x55,x56,x57)=>Option.bind (EQ a0 x54 x55 x56 1) (fun (x81,x82,x83)=>(if x81=true then Option.bind (Cr a0 x54 x82 x83) (fun (x84,x85)=>Option.bind (app 16 x57 [x84]) (fun x86=>Option.bind (if (decide ((w64 (x85 + 1))≥(List.length a0:Int)))=true then some true else Option.bind (idx a0 x85) (fun x89=>some (x89 != 46)):Option (Bool)) (fun x88=>Option.bind (if x88=true then some true else Option.bind (idx a0 (w64 (x85 + 1))) (fun x93=>Option.bind (Ep x93 1) (fun x94=>some (!x94))):Option (Bool)) (fun x92=>(if x92=true then some (Step.done (Sum.inl (x86,x85,x82,x83))) else some (Step.next ((w64 (x85 + 1)),x82,x83,x86))))))) else some (Step.done (Sum.inr (x57,x54,x82,x83)))))
abbrev KL (a0:Str) (a1:Int) (a2:Int) (a3:Int) (r:List Str × Int × Int × Int):CS:=⟨[V 2 (.osl 1 0 (List.length r.1) 1)],[W 0 4 [bs a0,iv r.2.1,iv r.2.2.1,iv r.2.2.2],(1,.rows 1 (List.map cS r.1))],2⟩
noncomputable def EA (a0:Str) (a1:Int) (a2:Int) (a3:Int):Option (List Str × Int × Int × Int):=Option.bind (CD (B9 a0) (a1,a2,a3,[])) (fun y=>match y with | Sum.inl (x73,x74,x75,x76)=>some (x73,x74,x75,x76) | Sum.inr (x77,x78,x79,x80)=>some (x77,x78,x79,x80))
theorem Qa (a0:Str) (a1:Int) (a2:Int) (a3:Int):CtM E 51 [pt 0 4] [W 0 4 [bs a0,iv a1,iv a2,iv a3]] 1 (EA a0 a1 a2 a3) (fun r:List Str × Int × Int × Int=>.osl 1 0 (List.length r.1) 1) (fun r:List Str × Int × Int × Int=>[W 0 4 [bs a0,iv r.2.1,iv r.2.2.1,iv r.2.2.2],(1,.rows 1 (List.map cS r.1))]) 2:=B5 (N:=57) (L:=KM) R8 rfl (Nat.le_of_ble_eq_true rfl) (fun F hF=>by
 unfold EA
 refine jS ⟨[V 0 (pt 0 4)],[W 0 4 [bs a0,iv a1,iv a2,iv a3]],1⟩ ?_
 refine jS ⟨[V 0 (pt 0 4),V 3 (AQ)],[W 0 4 [bs a0,iv a1,iv a2,iv a3]],1⟩ ?_
 refine Aj (A4 ?_)
 refine BA (fun y=>match y with | Sum.inl (x73,x74,x75,x76)=>⟨[V 2 (.osl 1 0 (List.length x73) 1)],[W 0 4 [bs a0,iv x74,iv x75,iv x76],(1,.rows 1 (List.map cS x73))],2⟩ | Sum.inr (x77,x78,x79,x80)=>⟨[V 3 (.osl 1 0 (List.length x77) 1)],[W 0 4 [bs a0,iv x78,iv x79,iv x80],(1,.rows 1 (List.map cS x77))],2⟩) (fun y=>match y with | Sum.inl (x73,x74,x75,x76)=>.ret | Sum.inr (x77,x78,x79,x80)=>(.exit 0)) (C5 (fun (x54,x55,x56,x57)=>⟨[V 0 (pt 0 4),V 3 (.osl 1 0 (List.length x57) 1)],[W 0 4 [bs a0,iv x54,iv x55,iv x56],(1,.rows 1 (List.map cS x57))],2⟩) (wkR [(0,some 0),(1,none)] (An hF (k:=1) rfl) (pc (hC 0) (pc hZ AD))) ?_) ?_
 ·rintro⟨x54,x55,x56,x57⟩
  unfold B9
  refine Aj (jR (jG 0 1 ⟨[V 0 (pt 0 4),V 3 (.osl 1 0 (List.length x57) 1),V 4 (pt 0 4)],[W 0 4 [bs a0,iv x54,iv x55,iv x56],(1,.rows 1 (List.map cS x57))],2⟩ ?_))
  refine BC 1 [(0,some 0)] [(0,some 0)] (fun r:Bool × Int × Int=>[W 0 4 [bs a0,iv x54,iv r.2.1,iv r.2.2],(1,.rows 1 (List.map cS x57))]) (fun r:Bool × Int × Int=>bv r.1) 2 (L9 a0 x54 x55 x56 1) (pc (hC 0) AD) (fun r=>(pc (.inr (hC 0)) (pc (.inl ⟨rfl,rfl⟩) AD))) ?_
  rintro⟨x81,x82,x83⟩ hm10
  refine jN ?_
  refine jIf ?_ ?_
  ·refine Ah (Ab (A4 (jR (jG 0 2 ⟨[V 0 (pt 0 4),V 6 (.osl 1 0 (List.length x57) 1),V 7 (pt 0 4)],[W 0 4 [bs a0,iv x54,iv x82,iv x83],(1,.rows 1 (List.map cS x57))],2⟩ ?_))))
   refine BC 2 [(0,some 0)] [(0,some 0)] (fun r:Str × Int=>[W 0 4 [bs a0,iv r.2,iv x82,iv x83],(1,.rows 1 (List.map cS x57))]) (fun r:Str × Int=>bs r.1) 2 (EY a0 x54 x82 x83) (pc (hC 0) AD) (fun r=>(pc (.inr (hC 0)) (pc (.inl ⟨rfl,rfl⟩) AD))) ?_
   rintro⟨x84,x85⟩ hm9
   refine jG 3 1 ⟨[V 0 (pt 0 4),V 6 (.osl 1 0 (List.length x57) 1),V 9 (.osl 2 0 (List.length [x84]) 1)],[W 0 4 [bs a0,iv x85,iv x82,iv x83],(1,.rows 1 (List.map cS x57)),(2,.rows 1 (List.map cS [x84]))],3⟩ ?_
   refine A5 (i:=4) (mo:=app 16 x57 [x84]) rfl rfl rfl rfl (fun _ hc=>LQ (u:=.osl 1 0 (List.length x57) 1) (w:=.osl 2 0 (List.length [x84]) 1) (e:=9) (td:=.slice 9) (by kernel_rfl) (by kernel_rfl) (by kernel_rfl) (by kernel_rfl) (.inl ⟨_,rfl⟩) (E5 (c:=cS) (sz:=1) (b:=16) (id:=1) (by kernel_rfl) (by kernel_rfl) (Oe (by kernel_rfl)) (List.cons_ne_nil _ _) hc)) (fun _=>rfl) ?_
   intro x86 h86
   refine jG 5 1 ⟨[V 0 (pt 0 4),V 3 (.osl 3 0 (List.length x86) 1)],[W 0 4 [bs a0,iv x85,iv x82,iv x83],(3,.rows 1 (List.map cS x86))],4⟩ ?_
   refine jN (Aj (jR (jG 0 12 ⟨[V 0 (pt 0 4),V 3 (.osl 3 0 (List.length x86) 1),V 22 (bv (decide ((w64 (x85 + 1))≥(List.length a0:Int))))],[W 0 4 [bs a0,iv x85,iv x82,iv x83],(3,.rows 1 (List.map cS x86))],4⟩ ?_)))
   refine A2 12 11 (fun x88=>⟨[V 0 (pt 0 4),V 3 (.osl 1 0 (List.length x86) 1),V 33 (bv x88)],[W 0 4 [bs a0,iv x85,iv x82,iv x83],(1,.rows 1 (List.map cS x86))],2⟩) ?_ ?_
   ·refine jSp 22 ?_ ?_
    ·refine jG 0 11 ⟨[V 0 (pt 0 4),V 3 (.osl 3 0 (List.length x86) 1),V 33 (bv true)],[W 0 4 [bs a0,iv x85,iv x82,iv x83],(3,.rows 1 (List.map cS x86))],4⟩ ?_
     exact Ad rfl (AU rfl (wkR [(0,some 0),(1,some 3)] (An hF (k:=1) rfl) (pc (hC 0) (pc (hL 3 (AY BU _)) AD))))
    refine jG 0 8 ⟨[V 0 (pt 0 4),V 3 (.osl 3 0 (List.length x86) 1),(22,.lit false),V 26 (bs a0),V 30 (iv x85)],[W 0 4 [bs a0,iv x85,iv x82,iv x83],(3,.rows 1 (List.map cS x86))],4⟩ ?_
    refine A5 (i:=8) (mo:=idx a0 x85) rfl rfl rfl rfl (fun _ hc=>Bq (kk:=.i64) (by kernel_rfl) (by kernel_rfl) (by kernel_rfl) hc) (fun _=>rfl) ?_
    intro x89 h89
    refine jG 9 2 ⟨[V 0 (pt 0 4),V 3 (.osl 3 0 (List.length x86) 1),V 33 (bv (x89 != 46))],[W 0 4 [bs a0,iv x85,iv x82,iv x83],(3,.rows 1 (List.map cS x86))],4⟩ ?_
    exact Ad rfl (AU rfl (wkR [(0,some 0),(1,some 3)] (An hF (k:=1) rfl) (pc (hC 0) (pc (hL 3 (AY BU _)) AD))))
   intro x88
   refine jG 23 1 ⟨[V 0 (pt 0 4),V 3 (.osl 1 0 (List.length x86) 1),V 34 (bv x88)],[W 0 4 [bs a0,iv x85,iv x82,iv x83],(1,.rows 1 (List.map cS x86))],2⟩ ?_
   refine A2 24 13 (fun x92=>⟨[V 0 (pt 0 4),V 3 (.osl 1 0 (List.length x86) 1),V 47 (bv x92)],[W 0 4 [bs a0,iv x85,iv x82,iv x83],(1,.rows 1 (List.map cS x86))],2⟩) ?_ ?_
   ·refine jSp 34 ?_ ?_
    ·refine jG 0 13 ⟨[V 0 (pt 0 4),V 3 (.osl 1 0 (List.length x86) 1),V 47 (bv true)],[W 0 4 [bs a0,iv x85,iv x82,iv x83],(1,.rows 1 (List.map cS x86))],2⟩ ?_
     exact Ad rfl (AU rfl (wkR [(0,some 0),(1,some 1)] (An hF (k:=1) rfl) (pc (hC 0) (pc (hL 1 (AY BU _)) AD))))
    refine jG 0 9 ⟨[V 0 (pt 0 4),V 3 (.osl 1 0 (List.length x86) 1),(34,.lit false),V 38 (bs a0),V 43 (iv (w64 (x85 + 1)))],[W 0 4 [bs a0,iv x85,iv x82,iv x83],(1,.rows 1 (List.map cS x86))],2⟩ ?_
    refine A5 (i:=9) (mo:=idx a0 (w64 (x85 + 1))) rfl rfl rfl rfl (fun _ hc=>Bq (kk:=.i64) (by kernel_rfl) (by kernel_rfl) (by kernel_rfl) hc) (fun _=>rfl) ?_
    intro x93 h93
    refine jK 10 (Gg x93 1) ?_
    intro x94 h94
    refine jG 11 2 ⟨[V 0 (pt 0 4),V 3 (.osl 1 0 (List.length x86) 1),V 47 (bv (!x94))],[W 0 4 [bs a0,iv x85,iv x82,iv x83],(1,.rows 1 (List.map cS x86))],2⟩ ?_
    exact Ad rfl (AU rfl (wkR [(0,some 0),(1,some 1)] (An hF (k:=1) rfl) (pc (hC 0) (pc (hL 1 (AY BU _)) AD))))
   intro x92
   refine jN ?_
   refine jIf ?_ ?_
   ·refine jS ⟨[V 2 (.osl 1 0 (List.length x86) 1)],[W 0 4 [bs a0,iv x85,iv x82,iv x83],(1,.rows 1 (List.map cS x86))],2⟩ ?_
    exact Ae (Ar (BG (Bm rfl nofun (wkR [(0,some 0),(1,some 1)] (An hF (k:=1) rfl) (pc (hC 0) (pc (hL 1 (AY BU _)) AD))))))
   refine Ah (Ab (jT ⟨[V 0 (pt 0 4),V 3 (.osl 1 0 (List.length x86) 1)],[W 0 4 [bs a0,iv (w64 (x85 + 1)),iv x82,iv x83],(1,.rows 1 (List.map cS x86))],2⟩ ?_))
   exact BX (C7 (wkR [(0,some 0),(1,some 1)] (An hF (k:=1) rfl) (pc (hC 0) (pc (hL 1 (AY BU _)) AD))))
  exact Cp (Cq (Bm rfl nofun (wkR [(0,some 0),(1,some 1)] (An hF (k:=1) rfl) (pc (hC 0) (pc (hL 1 (AY BU _)) AD)))))
 rintro (⟨x73,x74,x75,x76⟩ | ⟨x77,x78,x79,x80⟩)
 ·exact BG (Ar (BY (KL a0 a1 a2 a3 (x73,x74,x75,x76)) (.inr rfl) (wkR [(0,some 0),(1,some 1)] (An hF (k:=1) rfl) (pc (hC 0) (pc (hL 1 (AY BU _)) AD)))))
 refine C6 (Ab (jS ⟨[V 2 (.osl 1 0 (List.length x77) 1)],[W 0 4 [bs a0,iv x78,iv x79,iv x80],(1,.rows 1 (List.map cS x77))],2⟩ ?_))
 exact Ae (BY (KL a0 a1 a2 a3 (x77,x78,x79,x80)) (.inr rfl) (wkR [(0,some 0),(1,some 1)] (An hF (k:=1) rfl) (pc (hC 0) (pc (hL 1 (AY BU _)) AD)))))
abbrev eK:List LO:=[A8 2 #[] 9]
abbrev eL:List LO:=[lm 5 0 9,lo 6 (.convert 9 74 (AE 5)) 74,AB 3 6 74]
abbrev eM:List LO:=[Ap 4 0 3]
abbrev eN:List LO:=[lm 7 4 3,lm 8 3 74,Ai 9 #[AE 8] #[74] 3,Al 10 3 7 9 3 4]
abbrev eO:List LO:=[lm 13 3 74,lm 14 4 3,A6 15 74 13 14 0,AF 16 5 15 5,AN 17 45 #[AE 16,.const (.int .i64 3)] #[5,3] 4]
abbrev eP:List LO:=[lm 18 3 74,lm 19 4 3,lm 20 3 74,lm 21 4 3,A6 22 74 20 21 0,AF 23 5 22 5,lo 24 (.binOp .add 5 (AE 23) (.const (.int .u8 32)) 5) 5,A6 25 74 18 19 0,AO 5 25 24 0]
abbrev eQ:List LO:=[lm 11 4 3,Af 12 3 11 1 3 3,AB 4 12 3]
abbrev eR:List LO:=[lm 26 3 74,lo 27 (.convert 74 9 (AE 26)) 9,AB 2 27 9]
abbrev jZ:LC:=.seq (.reg false eK) (.seq (.reg false eL) (.seq (.seq (.reg false eM) (.block 0 (.loop (.seq (.seq (.reg false eN) (.cond (AE 10) .skip (.exit 0))) (.seq (.block 1 (.seq (.reg false eO) (.cond (AE 17) (.reg false eP) .skip))) (.reg false eQ)))))) (.seq (.reg false eR) .ret)))
theorem jI:Bf E 22 28 [.tmp 2] jZ:=Bp Go.Proofs.Tryz.f22
noncomputable def H9:(List Int × Int)→Option (Step (List Int × Int) (List Int)):=fun (x7,x8)=>(if (decide (x8 < (List.length x7:Int)))=true then Option.bind (Option.bind (ixl x7 x8) (fun x22=>Option.bind (MF x22 3) (fun x23=>(if x23=true then Option.bind (ixl x7 x8) (fun x24=>Option.bind (ixl x7 x8) (fun x25=>some (List.set x7 (Int.toNat x8) (IntKind.wrap .u8 (x24 + 32))))) else some x7))):Option (List Int)) (fun x21=>some (Step.next (x21,(w64 (x8 + 1))))) else some (Step.done x7))
noncomputable def Kd (a0:Str):Option (Str):=Option.bind (tob a0) (fun x1=>Option.bind (CD (H9) (x1,0)) (fun x16=>some (ofb x16)))
theorem eJ (a0:Str):Ct E 22 [bs a0] (Kd a0) (fun r:Str=>bs r):=CN jI (by
 unfold Kd
 refine jS ⟨[V 0 (bs a0)],[],0⟩ ?_
 refine jR (jG 0 1 ⟨[V 5 (bs a0)],[],0⟩ ?_)
 refine A5 (i:=1) (mo:=tob a0) rfl rfl rfl rfl (fun _ hc=>AAd (e:=5) (st:=.string) (by kernel_rfl) (by kernel_rfl) (by kernel_rfl) (by kernel_rfl) hc) (fun _=>rfl) ?_
 intro x1 h1
 refine jG 2 1 ⟨[V 3 (.osl 0 0 (List.length x1) 1)],[(0,.rows 1 (List.map cB x1))],1⟩ ?_
 refine jN (Aj (jS ⟨[V 3 (.osl 0 0 (List.length x1) 1),V 4 (iv 0)],[(0,.rows 1 (List.map cB x1))],1⟩ ?_))
 refine A4 ?_
 refine BA (fun x16=>⟨[V 3 (.osl 0 0 (List.length x16) 1)],[(0,.rows 1 (List.map cB x16))],1⟩) (fun x16=>(.exit 0)) (C5 (fun (x7,x8)=>⟨[V 3 (.osl 0 0 (List.length x7) 1),V 4 (iv x8)],[(0,.rows 1 (List.map cB x7))],1⟩) (wkR [(0,some 0)] (Am _) (pc (hL 0 (AY gY _)) AD)) ?_) ?_
 ·rintro⟨x7,x8⟩
  unfold H9
  refine Aj (jS ⟨[V 3 (.osl 0 0 (List.length x7) 1),V 4 (iv x8),V 10 (bv (decide (x8 < (List.length x7:Int))))],[(0,.rows 1 (List.map cB x7))],1⟩ ?_)
  refine jIf ?_ ?_
  ·refine Ah (Ab (Aj ?_))
   refine BA (fun x21=>⟨[V 3 (.osl 0 0 (List.length x21) 1),V 4 (iv x8)],[(0,.rows 1 (List.map cB x21))],1⟩) (fun x21=>.normal) ?_ ?_
   ·refine A4 (jR (jG 0 2 ⟨[V 3 (.osl 0 0 (List.length x7) 1),V 4 (iv x8),V 13 (.osl 0 0 (List.length x7) 1),V 14 (iv x8)],[(0,.rows 1 (List.map cB x7))],1⟩ ?_))
    refine A5 (i:=2) (mo:=ixl x7 x8) rfl rfl rfl rfl (fun _ hc=>Ns (sz:=1) (e:=5) (kk:=.i64) (id:=0) (by kernel_rfl) (by kernel_rfl) (by kernel_rfl) (by kernel_rfl) hc) (fun _=>rfl) ?_
    intro x22 h22
    refine GW (i:=3) (v:=.s (.int .u8 x22)) rfl rfl rfl rfl (aJ (l:=x7) (c:=cB) (id:=0) (k:=(Int.toNat x8)) (sz:=1) (off:=0) (a:=x22) (by kernel_rfl) (by kernel_rfl) (Rb h22).2.2 (by kernel_rfl)) rfl ?_
    refine jK 4 (SO x22 3) ?_
    intro x23 h23
    refine jN ?_
    refine jIf ?_ ?_
    ·refine CY (jG 0 4 ⟨[V 3 (.osl 0 0 (List.length x7) 1),V 4 (iv x8),V 18 (.osl 0 0 (List.length x7) 1),V 19 (iv x8),V 20 (.osl 0 0 (List.length x7) 1),V 21 (iv x8)],[(0,.rows 1 (List.map cB x7))],1⟩ ?_)
     refine A5 (i:=4) (mo:=ixl x7 x8) rfl rfl rfl rfl (fun _ hc=>Ns (sz:=1) (e:=5) (kk:=.i64) (id:=0) (by kernel_rfl) (by kernel_rfl) (by kernel_rfl) (by kernel_rfl) hc) (fun _=>rfl) ?_
     intro x24 h24
     refine GW (i:=5) (v:=.s (.int .u8 x24)) rfl rfl rfl rfl (aJ (l:=x7) (c:=cB) (id:=0) (k:=(Int.toNat x8)) (sz:=1) (off:=0) (a:=x24) (by kernel_rfl) (by kernel_rfl) (Rb h24).2.2 (by kernel_rfl)) rfl ?_
     refine jG 6 1 ⟨[V 3 (.osl 0 0 (List.length x7) 1),V 4 (iv x8),V 18 (.osl 0 0 (List.length x7) 1),V 19 (iv x8),V 24 (.s (.int .u8 (IntKind.wrap .u8 (x24 + 32))))],[(0,.rows 1 (List.map cB x7))],1⟩ ?_
     refine A5 (i:=7) (mo:=ixl x7 x8) rfl rfl rfl rfl (fun _ hc=>Ns (sz:=1) (e:=5) (kk:=.i64) (id:=0) (by kernel_rfl) (by kernel_rfl) (by kernel_rfl) (by kernel_rfl) hc) (fun _=>rfl) ?_
     intro x25 h25
     refine M6 (i:=8) [3,4] [0] (st1:=⟨[V 3 (.osl 0 0 (List.length (List.set x7 (Int.toNat x8) (IntKind.wrap .u8 (x24 + 32)))) 1),V 4 (iv x8)],[(0,.rows 1 (List.map cB (List.set x7 (Int.toNat x8) (IntKind.wrap .u8 (x24 + 32)))))],1⟩) rfl rfl rfl rfl (AAc (l:=x7) (c:=cB) (id:=0) (k:=(Int.toNat x8)) (sz:=1) (off:=0) (a:=x25) (a':=(IntKind.wrap .u8 (x24 + 32))) (w:=.s (.int .u8 (IntKind.wrap .u8 (x24 + 32)))) (cs:=[.s (.int .u8 (IntKind.wrap .u8 (x24 + 32)))]) (by kernel_rfl) (by kernel_rfl) (by kernel_rfl) (by kernel_rfl) (by kernel_rfl) (Rb h25).2.2 (Nat.le_of_ble_eq_true rfl) (by kernel_rfl)) (by simp only[List.length_set]; kernel_rfl) ?_
     exact Ad rfl (BX (AU rfl (wkR [(0,some 0)] (Am _) (pc (hL 0 (AY gY _)) AD))))
    exact Ah (BX (AU rfl (wkR [(0,some 0)] (Am _) (pc (hL 0 (AY gY _)) AD))))
   intro x21
   refine Ab (jT ⟨[V 3 (.osl 0 0 (List.length x21) 1),V 4 (iv (w64 (x8 + 1)))],[(0,.rows 1 (List.map cB x21))],1⟩ ?_)
   exact C7 (wkR [(0,some 0)] (Am _) (pc (hL 0 (AY gY _)) AD))
  exact Cp (Cq (Bm rfl nofun (wkR [(0,some 0)] (Am _) (pc (hL 0 (AY gY _)) AD))))
 intro x16
 refine C6 (Ab (jR (jG 0 1 ⟨[V 26 (.osl 0 0 (List.length x16) 1)],[(0,.rows 1 (List.map cB x16))],1⟩ ?_)))
 refine GW (i:=1) rfl rfl rfl rfl (lM (e:=5) (id:=0) (l:=x16) (by kernel_rfl) (by kernel_rfl) (by kernel_rfl) (by kernel_rfl) (by kernel_rfl)) rfl ?_
 refine jG 2 1 ⟨[V 2 (bs (ofb x16))],[],2⟩ ?_
 exact jN (Ae (BO (bs (ofb x16)))))
abbrev ZW:List LO:=[Ag 6 4]
abbrev ZX:List LO:=[lm 7 1 3,DH 8 3 7 0 3 4,lm 9 8 4,lmg 10 1 3 9 true,lmg 11 0 9 9 true,BF 12 #[AE 11] #[9] 3 9 true,lg 13 (.binOp .leq 3 (AE 10) (AE 12) 3) 4 9 true,AS 14 9 13 4,lm 15 14 4,lmg 16 0 9 15 true,BF 17 #[AE 16] #[9] 3 15 true,lmg 18 1 3 15 true,lg 19 (.binOp .sub 3 (AE 17) (AE 18) 3) 3 15 true,lmg 20 2 9 15 true,BF 21 #[AE 20] #[9] 3 15 true,lg 22 (.binOp .geq 3 (AE 19) (AE 21) 3) 4 15 true,AS 23 15 22 4,lm 24 23 4,lmg 25 0 9 24 true,lmg 26 1 3 24 true,lmg 27 1 3 24 true,lmg 28 2 9 24 true,BF 29 #[AE 28] #[9] 3 24 true,lg 30 (.binOp .add 3 (AE 27) (AE 29) 3) 3 24 true,lg 31 (.slice 9 (AE 25) (some (AE 26)) (some (AE 30)) none) 9 24 true,lmg 32 2 9 24 true,Bb 33 9 31 32 9 4 24 true,AS 34 24 33 4,AB 6 34 4]
abbrev eS:LC:=.seq (.reg false ZW) (.seq (.reg false ZX) .ret)
theorem eT:Bf E 78 35 [.tmp 6] eS:=Bp Go.Proofs.Tryz.f78
noncomputable def JA (a0:Str) (a1:Int) (a2:Str):Option (Bool):=Option.bind (if (((decide (a1≥0)) && (decide (a1≤(List.length a0:Int)))) && (decide ((w64 ((List.length a0:Int) - a1))≥(List.length a2:Int))))=true then Option.bind (E0 a0 a1 (w64 (a1 + (List.length a2:Int)))) (fun x3=>some (x3 == a2)) else some false:Option (Bool)) (fun x2=>some x2)
theorem ZV (a0:Str) (a1:Int) (a2:Str):Ct E 78 [bs a0,iv a1,bs a2] (JA a0 a1 a2) (fun r:Bool=>bv r):=CN eT (by
 unfold JA
 refine jS ⟨[V 0 (bs a0),V 1 (iv a1),V 2 (bs a2)],[],0⟩ ?_
 refine jR (jG 0 18 ⟨[V 0 (bs a0),V 1 (iv a1),V 2 (bs a2),V 24 (bv (((decide (a1≥0)) && (decide (a1≤(List.length a0:Int)))) && (decide ((w64 ((List.length a0:Int) - a1))≥(List.length a2:Int)))))],[],0⟩ ?_)
 refine A2 18 10 (fun x2=>⟨[V 34 (bv x2)],[],0⟩) ?_ ?_
 ·refine jSp 24 ?_ ?_
  ·refine jG 0 6 ⟨[V 2 (bs a2),(24,.lit true),V 25 (bs a0),V 26 (iv a1),V 30 (iv (w64 (a1 + (List.length a2:Int))))],[],0⟩ ?_
   refine A5 (i:=6) (mo:=E0 a0 a1 (w64 (a1 + (List.length a2:Int)))) rfl rfl rfl rfl (fun _ hc=>FP (by kernel_rfl) (by kernel_rfl) (by kernel_rfl) (by kernel_rfl) hc) (fun _=>rfl) ?_
   intro x3 h3
   refine jG 7 3 ⟨[V 34 (bv (x3 == a2))],[],0⟩ ?_
   exact Ad rfl (AU rfl BV)
  refine jG 0 10 ⟨[V 34 (bv false)],[],0⟩ ?_
  exact Ad rfl (AU rfl BV)
 intro x2
 refine jG 28 1 ⟨[V 6 (bv x2)],[],0⟩ ?_
 exact jN (Ae (BO (bv x2))))
abbrev kC:List LO:=[A8 6 #[] 9,Ag 7 4]
abbrev kD:List LO:=[A8 8 #[] 9]
abbrev kE:List LO:=[Ag 9 4]
abbrev kF:List LO:=[Ap 10 0 3]
abbrev kG:List LO:=[lm 11 10 3,lm 12 2 32,Ai 13 #[AE 12] #[32] 3,Al 14 3 11 13 3 4]
abbrev kH:List LO:=[lm 17 0 9,lm 18 1 3,lm 19 2 32,lm 20 10 3,A6 21 32 19 20 0,AF 22 9 21 9,AN 23 78 #[AE 17,AE 18,AE 22] #[9,3,9] 4,lm 24 23 4,lmg 25 9 4 24 true,Ay 26 4 25 4 24 true,lmg 27 26 4 24 true,lmg 28 2 32 27 false,lmg 29 10 3 27 false,lg 30 (.indexAddr 32 (AE 28) (AE 29)) 0 27 false,Aa 31 9 30 9 27 false,BF 32 #[AE 31] #[9] 3 27 false,lmg 33 8 9 27 false,BF 34 #[AE 33] #[9] 3 27 false,lg 35 (.binOp .gtr 3 (AE 32) (AE 34) 3) 4 27 false,FR 36 27 35 4 24 true,AS 37 24 36 4]
abbrev kJ:List LO:=[lm 38 2 32,lm 39 10 3,A6 40 32 38 39 0,AF 41 9 40 9,AB 8 41 9]
abbrev kK:List LO:=[Ed 9 4]
abbrev kL:List LO:=[lm 15 10 3,Af 16 3 15 1 3 3,AB 10 16 3]
abbrev eU:List LO:=[lm 42 8 9,lm 43 9 4,AB 6 42 9,AB 7 43 4]
abbrev rK:LC:=.seq (.reg false kC) (.seq (.reg false kD) (.seq (.reg false kE) (.seq (.seq (.reg false kF) (.block 0 (.loop (.seq (.seq (.reg false kG) (.cond (AE 14) .skip (.exit 0))) (.seq (.block 1 (.seq (.reg false kH) (.cond (AE 37) (.seq (.reg false kJ) (.reg false kK)) .skip))) (.reg false kL)))))) (.seq (.reg false eU) .ret))))
theorem rL:Bf E 48 44 [.tmp 6,.tmp 7] rK:=Bp Go.Proofs.Tryz.f48
noncomputable def J5 (a0:Str) (a1:Int) (a2:(List Str)):(Str × Bool × Int)→Option (Step (Str × Bool × Int) (Str × Bool)):=fun (x7,x8,x9)=>(if (decide (x9 < (List.length a2:Int)))=true then Option.bind (Option.bind (ixl a2 x9) (fun x31=>Option.bind (JA a0 a1 x31) (fun x32=>Option.bind (if x32=true then Option.bind (if (!x8)=true then some true else Option.bind (ixl a2 x9) (fun x38=>some (decide ((List.length x38:Int) > (List.length x7:Int)))):Option (Bool)) (fun x37=>some (true && x37)) else some false:Option (Bool)) (fun x35=>(if x35=true then Option.bind (ixl a2 x9) (fun x39=>some (x39,true)) else some (x7,x8))))):Option (Str × Bool)) (fun (x29,x30)=>some (Step.next (x29,x30,(w64 (x9 + 1))))) else some (Step.done (x7,x8)))
noncomputable def Jn (a0:Str) (a1:Int) (a2:(List Str)):Option (Str × Bool):=Option.bind (CD (J5 a0 a1 a2) ([],false,0)) (fun (x21,x22)=>some (x21,x22))
theorem kB (a0:Str) (a1:Int) (a2:(List Str)):Ct E 48 [bs a0,iv a1,.fsl 1 (List.map cS a2)] (Jn a0 a1 a2) (fun r:Str × Bool=>.tup [bs r.1,bv r.2]):=CN rL (by
 unfold Jn
 refine jS ⟨[V 0 (bs a0),V 1 (iv a1),V 2 (.fsl 1 (List.map cS a2))],[],0⟩ ?_
 refine jS ⟨[V 0 (bs a0),V 1 (iv a1),V 2 (.fsl 1 (List.map cS a2)),V 8 (bs [])],[],0⟩ ?_
 refine jS ⟨[V 0 (bs a0),V 1 (iv a1),V 2 (.fsl 1 (List.map cS a2)),V 8 (bs []),V 9 (bv false)],[],0⟩ ?_
 refine Aj (jS ⟨[V 0 (bs a0),V 1 (iv a1),V 2 (.fsl 1 (List.map cS a2)),V 8 (bs []),V 9 (bv false),V 10 (iv 0)],[],0⟩ ?_)
 refine A4 ?_
 refine BA (fun (x21,x22)=>⟨[V 8 (bs x21),V 9 (bv x22)],[],0⟩) (fun (x21,x22)=>(.exit 0)) (C5 (fun (x7,x8,x9)=>⟨[V 0 (bs a0),V 1 (iv a1),V 2 (.fsl 1 (List.map cS a2)),V 8 (bs x7),V 9 (bv x8),V 10 (iv x9)],[],0⟩) BV ?_) ?_
 ·rintro⟨x7,x8,x9⟩
  unfold J5
  refine Aj (jR (jG 0 4 ⟨[V 0 (bs a0),V 1 (iv a1),V 2 (.fsl 1 (List.map cS a2)),V 8 (bs x7),V 9 (bv x8),V 10 (iv x9),V 14 (bv (decide (x9 < (List.length (List.map cS a2):Int))))],[],0⟩ ?_))
  simp only[List.length_map]
  refine jN ?_
  refine jIf ?_ ?_
  ·refine Ah (Ab (Aj ?_))
   refine BA (fun (x29,x30)=>⟨[V 0 (bs a0),V 1 (iv a1),V 2 (.fsl 1 (List.map cS a2)),V 8 (bs x29),V 9 (bv x30),V 10 (iv x9)],[],0⟩) (fun (x29,x30)=>.normal) ?_ ?_
   ·refine A4 (jR (jG 0 4 ⟨[V 0 (bs a0),V 1 (iv a1),V 2 (.fsl 1 (List.map cS a2)),V 8 (bs x7),V 9 (bv x8),V 10 (iv x9),V 17 (bs a0),V 18 (iv a1),V 19 (.fsl 1 (List.map cS a2)),V 20 (iv x9)],[],0⟩ ?_))
    refine A5 (i:=4) (mo:=ixl a2 x9) rfl rfl rfl rfl (fun _ hc=>EV (c:=cS) (sz:=1) (e:=9) (kk:=.i64) (by kernel_rfl) (by kernel_rfl) (by kernel_rfl) (by kernel_rfl) hc) (fun _=>rfl) ?_
    intro x31 h31
    refine jG 5 1 ⟨[V 0 (bs a0),V 1 (iv a1),V 2 (.fsl 1 (List.map cS a2)),V 8 (bs x7),V 9 (bv x8),V 10 (iv x9),V 17 (bs a0),V 18 (iv a1),V 22 (bs x31)],[],0⟩ ?_
    refine jK 6 (ZV a0 a1 x31) ?_
    intro x32 h32
    refine jG 7 1 ⟨[V 0 (bs a0),V 1 (iv a1),V 2 (.fsl 1 (List.map cS a2)),V 8 (bs x7),V 9 (bv x8),V 10 (iv x9),V 24 (bv x32)],[],0⟩ ?_
    refine A2 8 13 (fun x35=>⟨[V 0 (bs a0),V 1 (iv a1),V 2 (.fsl 1 (List.map cS a2)),V 8 (bs x7),V 9 (bv x8),V 10 (iv x9),V 37 (bv x35)],[],0⟩) ?_ ?_
    ·refine jSp 24 ?_ ?_
     ·refine jG 0 3 ⟨[V 0 (bs a0),V 1 (iv a1),V 2 (.fsl 1 (List.map cS a2)),V 8 (bs x7),V 9 (bv x8),V 10 (iv x9),(24,.lit true),V 27 (bv (!x8))],[],0⟩ ?_
      refine A2 3 9 (fun x37=>⟨[V 0 (bs a0),V 1 (iv a1),V 2 (.fsl 1 (List.map cS a2)),V 8 (bs x7),V 9 (bv x8),V 10 (iv x9),V 24 (bv true),V 36 (bv x37)],[],0⟩) ?_ ?_
      ·refine jSp 27 ?_ ?_
       ·refine jG 0 9 ⟨[V 0 (bs a0),V 1 (iv a1),V 2 (.fsl 1 (List.map cS a2)),V 8 (bs x7),V 9 (bv x8),V 10 (iv x9),(24,.lit true),V 36 (bv true)],[],0⟩ ?_
        exact Ad rfl (AU rfl BV)
       refine jG 0 2 ⟨[V 0 (bs a0),V 1 (iv a1),V 2 (.fsl 1 (List.map cS a2)),V 8 (bs x7),V 9 (bv x8),V 10 (iv x9),(24,.lit true),(27,.lit false),V 28 (.fsl 1 (List.map cS a2)),V 29 (iv x9)],[],0⟩ ?_
       refine A5 (i:=2) (mo:=ixl a2 x9) rfl rfl rfl rfl (fun _ hc=>EV (c:=cS) (sz:=1) (e:=9) (kk:=.i64) (by kernel_rfl) (by kernel_rfl) (by kernel_rfl) (by kernel_rfl) hc) (fun _=>rfl) ?_
       intro x38 h38
       refine jG 3 6 ⟨[V 0 (bs a0),V 1 (iv a1),V 2 (.fsl 1 (List.map cS a2)),V 8 (bs x7),V 9 (bv x8),V 10 (iv x9),(24,.lit true),V 36 (bv (decide ((List.length x38:Int) > (List.length x7:Int))))],[],0⟩ ?_
       exact Ad rfl (AU rfl BV)
      intro x37
      refine jG 12 1 ⟨[V 0 (bs a0),V 1 (iv a1),V 2 (.fsl 1 (List.map cS a2)),V 8 (bs x7),V 9 (bv x8),V 10 (iv x9),V 37 (bv (true && x37))],[],0⟩ ?_
      exact Ad rfl (AU rfl BV)
     refine jG 0 13 ⟨[V 0 (bs a0),V 1 (iv a1),V 2 (.fsl 1 (List.map cS a2)),V 8 (bs x7),V 9 (bv x8),V 10 (iv x9),V 37 (bv false)],[],0⟩ ?_
     exact Ad rfl (AU rfl BV)
    intro x35
    refine jN ?_
    refine jIf ?_ ?_
    ·refine jR (jG 0 2 ⟨[V 0 (bs a0),V 1 (iv a1),V 2 (.fsl 1 (List.map cS a2)),V 10 (iv x9),V 38 (.fsl 1 (List.map cS a2)),V 39 (iv x9)],[],0⟩ ?_)
     refine A5 (i:=2) (mo:=ixl a2 x9) rfl rfl rfl rfl (fun _ hc=>EV (c:=cS) (sz:=1) (e:=9) (kk:=.i64) (by kernel_rfl) (by kernel_rfl) (by kernel_rfl) (by kernel_rfl) hc) (fun _=>rfl) ?_
     intro x39 h39
     refine jG 3 2 ⟨[V 0 (bs a0),V 1 (iv a1),V 2 (.fsl 1 (List.map cS a2)),V 8 (bs x39),V 10 (iv x9)],[],0⟩ ?_
     refine jN (jT ⟨[V 0 (bs a0),V 1 (iv a1),V 2 (.fsl 1 (List.map cS a2)),V 8 (bs x39),V 9 (bv true),V 10 (iv x9)],[],0⟩ ?_)
     exact BX (AU rfl BV)
    exact Ah (BX (AU rfl BV))
   rintro⟨x29,x30⟩
   refine Ab (jT ⟨[V 0 (bs a0),V 1 (iv a1),V 2 (.fsl 1 (List.map cS a2)),V 8 (bs x29),V 9 (bv x30),V 10 (iv (w64 (x9 + 1)))],[],0⟩ ?_)
   exact C7 BV
  exact Cp (Cq (Bm rfl nofun BV))
 rintro⟨x21,x22⟩
 refine C6 (Ab (jS ⟨[V 6 (bs x21),V 7 (bv x22)],[],0⟩ ?_))
 exact Ae (BO (.tup [bs x21,bv x22])))
abbrev kT:List LO:=[A8 2 #[] 9]
abbrev kU:List LO:=[lm 6 0 9,lo 7 (.convert 9 74 (AE 6)) 74,AB 3 7 74]
abbrev kV:List LO:=[lm 8 3 74,Ai 9 #[AE 8] #[74] 3,CG 10 0 3]
abbrev kX:List LO:=[Al 11 3 10 9 3 0]
abbrev kY:List LO:=[lm 12 10 3,A6 13 74 8 10 0,AF 14 5 13 5,AB 4 12 3,AB 5 14 5]
abbrev kZ:List LO:=[lm 15 5 5,AN 16 71 #[AE 15,.const (.int .i64 3)] #[5,3] 4]
abbrev kI:List LO:=[lm 17 3 74,lm 18 4 3,lm 19 5 5,lo 20 (.binOp .add 5 (AE 19) (.const (.int .u8 32)) 5) 5,A6 21 74 17 18 0,AO 5 21 20 0]
abbrev lA:List LO:=[Af 22 3 10 1 3 3,lm 10 22 3]
abbrev lB:List LO:=[lm 23 3 74,lo 24 (.convert 74 9 (AE 23)) 9,AB 2 24 9]
abbrev rY:LC:=.seq (.reg false kT) (.seq (.reg false kU) (.seq (.seq (.reg false kV) (.block 0 (.loop (.seq (.reg false kX) (.seq (.cond (AE 11) .skip (.exit 0)) (.seq (.block 1 (.seq (.reg false kY) (.seq (.reg false kZ) (.cond (AE 16) (.reg false kI) .skip)))) (.reg false lA))))))) (.seq (.reg false lB) .ret)))
theorem rZ:Bf E 49 25 [.tmp 2] rY:=Bp Go.Proofs.Tryz.f49
noncomputable def J7 (x1:List Int):(List Int × Int)→Option (Step (List Int × Int) (List Int)):=fun (x6,x7)=>(if (decide (x7 < (List.length x1:Int)))=true then Option.bind (Option.bind (ixl x6 x7) (fun x19=>Option.bind (Ep x19 3) (fun x20=>(if x20=true then Option.bind (ixl x6 x7) (fun x21=>some (List.set x6 (Int.toNat x7) (IntKind.wrap .u8 (x19 + 32)))) else some x6))):Option (List Int)) (fun x18=>some (Step.next (x18,(w64 (x7 + 1))))) else some (Step.done x6))
noncomputable def Gh (a0:Str):Option (Str):=Option.bind (tob a0) (fun x1=>Option.bind (CD (J7 x1) (x1,0)) (fun x14=>some (ofb x14)))
theorem J8 (a0:Str):Ct E 49 [bs a0] (Gh a0) (fun r:Str=>bs r):=CN rZ (by
 unfold Gh
 refine jS ⟨[V 0 (bs a0)],[],0⟩ ?_
 refine jR (jG 0 1 ⟨[V 6 (bs a0)],[],0⟩ ?_)
 refine A5 (i:=1) (mo:=tob a0) rfl rfl rfl rfl (fun _ hc=>AAd (e:=5) (st:=.string) (by kernel_rfl) (by kernel_rfl) (by kernel_rfl) (by kernel_rfl) hc) (fun _=>rfl) ?_
 intro x1 h1
 refine jG 2 1 ⟨[V 3 (.osl 0 0 (List.length x1) 1)],[(0,.rows 1 (List.map cB x1))],1⟩ ?_
 refine jN (Aj (jS ⟨[V 3 (.osl 0 0 (List.length x1) 1),V 8 (.osl 0 0 (List.length x1) 1),V 9 (iv (List.length x1:Int)),V 10 (iv 0)],[(0,.rows 1 (List.map cB x1))],1⟩ ?_))
 refine A4 ?_
 refine BA (fun x14=>⟨[V 3 (.osl 0 0 (List.length x14) 1)],[(0,.rows 1 (List.map cB x14))],1⟩) (fun x14=>(.exit 0)) (C5 (fun (x6,x7)=>⟨[V 3 (.osl 0 0 (List.length x6) 1),V 8 (.osl 0 0 (List.length x6) 1),V 9 (iv (List.length x1:Int)),V 10 (iv x7)],[(0,.rows 1 (List.map cB x6))],1⟩) (wkR [(0,some 0)] (Am _) (pc (hL 0 (AY gY _)) AD)) ?_) ?_
 ·rintro⟨x6,x7⟩
  unfold J7
  refine jS ⟨[V 3 (.osl 0 0 (List.length x6) 1),V 8 (.osl 0 0 (List.length x6) 1),V 9 (iv (List.length x1:Int)),V 10 (iv x7),V 11 (bv (decide (x7 < (List.length x1:Int))))],[(0,.rows 1 (List.map cB x6))],1⟩ ?_
  refine Aj ?_
  refine jIf ?_ ?_
  ·refine Ah (Ab (Aj ?_))
   refine BA (fun x18=>⟨[V 3 (.osl 0 0 (List.length x18) 1),V 8 (.osl 0 0 (List.length x18) 1),V 9 (iv (List.length x1:Int)),V 10 (iv x7)],[(0,.rows 1 (List.map cB x18))],1⟩) (fun x18=>.normal) ?_ ?_
   ·refine A4 (jR (jG 0 1 ⟨[V 3 (.osl 0 0 (List.length x6) 1),V 8 (.osl 0 0 (List.length x6) 1),V 9 (iv (List.length x1:Int)),V 10 (iv x7),V 12 (iv x7)],[(0,.rows 1 (List.map cB x6))],1⟩ ?_))
    refine A5 (i:=1) (mo:=ixl x6 x7) rfl rfl rfl rfl (fun _ hc=>Ns (sz:=1) (e:=5) (kk:=.i64) (id:=0) (by kernel_rfl) (by kernel_rfl) (by kernel_rfl) (by kernel_rfl) hc) (fun _=>rfl) ?_
    intro x19 h19
    refine GW (i:=2) (v:=.s (.int .u8 x19)) rfl rfl rfl rfl (aJ (l:=x6) (c:=cB) (id:=0) (k:=(Int.toNat x7)) (sz:=1) (off:=0) (a:=x19) (by kernel_rfl) (by kernel_rfl) (Rb h19).2.2 (by kernel_rfl)) rfl ?_
    refine jG 3 2 ⟨[V 3 (.osl 0 0 (List.length x6) 1),V 4 (iv x7),V 5 (.s (.int .u8 x19)),V 8 (.osl 0 0 (List.length x6) 1),V 9 (iv (List.length x1:Int)),V 10 (iv x7)],[(0,.rows 1 (List.map cB x6))],1⟩ ?_
    refine jN (jR (jG 0 1 ⟨[V 3 (.osl 0 0 (List.length x6) 1),V 4 (iv x7),V 5 (.s (.int .u8 x19)),V 8 (.osl 0 0 (List.length x6) 1),V 9 (iv (List.length x1:Int)),V 10 (iv x7),V 15 (.s (.int .u8 x19))],[(0,.rows 1 (List.map cB x6))],1⟩ ?_))
    refine jK 1 (Gg x19 3) ?_
    intro x20 h20
    refine jN ?_
    refine jIf ?_ ?_
    ·refine CY (jG 0 4 ⟨[V 3 (.osl 0 0 (List.length x6) 1),V 8 (.osl 0 0 (List.length x6) 1),V 9 (iv (List.length x1:Int)),V 10 (iv x7),V 17 (.osl 0 0 (List.length x6) 1),V 18 (iv x7),V 20 (.s (.int .u8 (IntKind.wrap .u8 (x19 + 32))))],[(0,.rows 1 (List.map cB x6))],1⟩ ?_)
     refine A5 (i:=4) (mo:=ixl x6 x7) rfl rfl rfl rfl (fun _ hc=>Ns (sz:=1) (e:=5) (kk:=.i64) (id:=0) (by kernel_rfl) (by kernel_rfl) (by kernel_rfl) (by kernel_rfl) hc) (fun _=>rfl) ?_
     intro x21 h21
     refine M6 (i:=5) [3,8,9,10] [0] (st1:=⟨[V 3 (.osl 0 0 (List.length (List.set x6 (Int.toNat x7) (IntKind.wrap .u8 (x19 + 32)))) 1),V 8 (.osl 0 0 (List.length (List.set x6 (Int.toNat x7) (IntKind.wrap .u8 (x19 + 32)))) 1),V 9 (iv (List.length x1:Int)),V 10 (iv x7)],[(0,.rows 1 (List.map cB (List.set x6 (Int.toNat x7) (IntKind.wrap .u8 (x19 + 32)))))],1⟩) rfl rfl rfl rfl (AAc (l:=x6) (c:=cB) (id:=0) (k:=(Int.toNat x7)) (sz:=1) (off:=0) (a:=x21) (a':=(IntKind.wrap .u8 (x19 + 32))) (w:=.s (.int .u8 (IntKind.wrap .u8 (x19 + 32)))) (cs:=[.s (.int .u8 (IntKind.wrap .u8 (x19 + 32)))]) (by kernel_rfl) (by kernel_rfl) (by kernel_rfl) (by kernel_rfl) (by kernel_rfl) (Rb h21).2.2 (Nat.le_of_ble_eq_true rfl) (by kernel_rfl)) (by simp only[List.length_set]; kernel_rfl) ?_
     exact Ad rfl (BX (AU rfl (wkR [(0,some 0)] (Am _) (pc (hL 0 (AY gY _)) AD))))
    exact Ah (BX (AU rfl (wkR [(0,some 0)] (Am _) (pc (hL 0 (AY gY _)) AD))))
   intro x18
   refine Ab (jT ⟨[V 3 (.osl 0 0 (List.length x18) 1),V 8 (.osl 0 0 (List.length x18) 1),V 9 (iv (List.length x1:Int)),V 10 (iv (w64 (x7 + 1)))],[(0,.rows 1 (List.map cB x18))],1⟩ ?_)
   exact C7 (wkR [(0,some 0)] (Am _) (pc (hL 0 (AY gY _)) AD))
  exact Cp (Cq (Bm rfl nofun (wkR [(0,some 0)] (Am _) (pc (hL 0 (AY gY _)) AD))))
 intro x14
 refine C6 (Ab (jR (jG 0 1 ⟨[V 23 (.osl 0 0 (List.length x14) 1)],[(0,.rows 1 (List.map cB x14))],1⟩ ?_)))
 refine GW (i:=1) rfl rfl rfl rfl (lM (e:=5) (id:=0) (l:=x14) (by kernel_rfl) (by kernel_rfl) (by kernel_rfl) (by kernel_rfl) (by kernel_rfl)) rfl ?_
 refine jG 2 1 ⟨[V 2 (bs (ofb x14))],[],2⟩ ?_
 exact jN (Ae (BO (bs (ofb x14)))))
abbrev Nk:List LO:=[Ag 4 4]
abbrev Nl:List LO:=[lm 5 0 9,Ai 6 #[AE 5] #[9] 3,lm 7 1 9,Ai 8 #[AE 7] #[9] 3,CW 9 3 6 8 3 4,lm 10 9 4,lmg 11 0 9 10 true,lmg 12 1 9 10 true,BF 13 #[AE 12] #[9] 3 10 true,lg 14 (.slice 9 (AE 11) none (some (AE 13)) none) 9 10 true,lmg 15 1 9 10 true,Bb 16 9 14 15 9 4 10 true,AS 17 10 16 4,AB 4 17 4]
abbrev Om:LC:=.seq (.reg false Nk) (.seq (.reg false Nl) .ret)
theorem On:Bf E 120 18 [.tmp 4] Om:=Bp Go.Proofs.Tryz.f120
noncomputable def EJ (a0:Str) (a1:Str):Option (Bool):=Option.bind (if (decide ((List.length a0:Int)≥(List.length a1:Int)))=true then Option.bind (E0 a0 0 (List.length a1:Int)) (fun x3=>some (x3 == a1)) else some false:Option (Bool)) (fun x2=>some x2)
theorem Nj (a0:Str) (a1:Str):Ct E 120 [bs a0,bs a1] (EJ a0 a1) (fun r:Bool=>bv r):=CN On (by
 unfold EJ
 refine jS ⟨[V 0 (bs a0),V 1 (bs a1)],[],0⟩ ?_
 refine jR (jG 0 6 ⟨[V 0 (bs a0),V 1 (bs a1),V 10 (bv (decide ((List.length a0:Int)≥(List.length a1:Int))))],[],0⟩ ?_)
 refine A2 6 7 (fun x2=>⟨[V 17 (bv x2)],[],0⟩) ?_ ?_
 ·refine jSp 10 ?_ ?_
  ·refine jG 0 3 ⟨[V 1 (bs a1),(10,.lit true),V 11 (bs a0),V 13 (iv (List.length a1:Int))],[],0⟩ ?_
   refine A5 (i:=3) (mo:=E0 a0 0 (List.length a1:Int)) rfl rfl rfl rfl (fun _ hc=>FP (by kernel_rfl) (by kernel_rfl) (by kernel_rfl) (by kernel_rfl) hc) (fun _=>rfl) ?_
   intro x3 h3
   refine jG 4 3 ⟨[V 17 (bv (x3 == a1))],[],0⟩ ?_
   exact Ad rfl (AU rfl BV)
  refine jG 0 7 ⟨[V 17 (bv false)],[],0⟩ ?_
  exact Ad rfl (AU rfl BV)
 intro x2
 refine jG 13 1 ⟨[V 4 (bv x2)],[],0⟩ ?_
 exact jN (Ae (BO (bv x2))))
abbrev Sn:List LO:=[Ag 4 4]
abbrev So:List LO:=[lm 5 0 9,lm 6 1 9,AN 7 120 #[AE 5,AE 6] #[9,9] 4,AB 4 7 4]
abbrev Tx:LC:=.seq (.reg false Sn) (.seq (.reg false So) .ret)
theorem Ty:Bf E 99 8 [.tmp 4] Tx:=Bp Go.Proofs.Tryz.f99
noncomputable def Eb (a0:Str) (a1:Str):Option (Bool):=Option.bind (EJ a0 a1) (fun x1=>some x1)
theorem Sm (a0:Str) (a1:Str):Ct E 99 [bs a0,bs a1] (Eb a0 a1) (fun r:Bool=>bv r):=CN Ty (by
 unfold Eb
 refine jS ⟨[V 0 (bs a0),V 1 (bs a1)],[],0⟩ ?_
 refine jR (jG 0 2 ⟨[V 5 (bs a0),V 6 (bs a1)],[],0⟩ ?_)
 refine jK 2 (Nj a0 a1) ?_
 intro x1 h1
 refine jG 3 1 ⟨[V 4 (bv x1)],[],0⟩ ?_
 exact jN (Ae (BO (bv x1))))
abbrev sE:List LO:=[A8 6 #[] 9,Ag 7 4]
abbrev sF:List LO:=[A8 8 #[] 9,Ag 9 4]
abbrev sG:List LO:=[lm 12 1 3,D0 13 3 12 0 3 4,lm 14 13 4,lmg 15 1 3 14 false,lmg 16 0 9 14 false,BF 17 #[AE 16] #[9] 3 14 false,lg 18 (.binOp .gtr 3 (AE 15) (AE 17) 3) 4 14 false,Ak 19 14 18 4]
abbrev sH:List LO:=[A8 6 #[] 9,Ag 7 4]
abbrev sJ:List LO:=[lm 20 2 32,Ai 21 #[AE 20] #[32] 3,CG 22 0 3]
abbrev sK:List LO:=[Al 23 3 22 21 3 0]
abbrev sL:List LO:=[A6 24 32 20 22 0,AF 25 9 24 9,AB 11 25 9]
abbrev sM:List LO:=[lm 26 0 9,lm 27 1 3,lo 28 (.slice 9 (AE 26) (some (AE 27)) none none) 9,lm 29 11 9,AN 30 99 #[AE 28,AE 29] #[9,9] 4,lm 31 30 4,lmg 32 9 4 31 true,Ay 33 4 32 4 31 true,lmg 34 33 4 31 true,lmg 35 11 9 34 false,BF 36 #[AE 35] #[9] 3 34 false,lmg 37 8 9 34 false,BF 38 #[AE 37] #[9] 3 34 false,lg 39 (.binOp .gtr 3 (AE 36) (AE 38) 3) 4 34 false,FR 40 34 39 4 31 true,AS 41 31 40 4]
abbrev sN:List LO:=[lm 42 11 9,AB 8 42 9,Ed 9 4]
abbrev lC:List LO:=[Af 43 3 22 1 3 3,lm 22 43 3]
abbrev lD:List LO:=[lm 44 8 9,lm 45 9 4,AB 6 44 9,AB 7 45 4]
abbrev xN:LC:=.seq (.reg false sE) (.seq (.reg false sF) (.seq (.seq (.reg false sG) (.cond (AE 19) (.seq (.reg false sH) .ret) .skip)) (.seq (.seq (.reg false sJ) (.block 0 (.loop (.seq (.reg false sK) (.seq (.cond (AE 23) .skip (.exit 0)) (.seq (.block 1 (.seq (.reg false sL) (.seq (.reg false sM) (.cond (AE 41) (.reg false sN) .skip)))) (.reg false lC))))))) (.seq (.reg false lD) .ret))))
theorem xO:Bf E 70 46 [.tmp 6,.tmp 7] xN:=Bp Go.Proofs.Tryz.f70
noncomputable def Li (a0:Str) (a1:Int) (a2:(List Str)):(Str × Bool × Int)→Option (Step (Str × Bool × Int) (Str × Bool)):=fun (x6,x7,x8)=>(if (decide (x8 < (List.length a2:Int)))=true then Option.bind (Option.bind (ixl a2 x8) (fun x24=>Option.bind (E0 a0 a1 (List.length a0:Int)) (fun x25=>Option.bind (Eb x25 x24) (fun x26=>(if (x26 && ((!x7) || (decide ((List.length x24:Int) > (List.length x6:Int)))))=true then some (x24,true) else some (x6,x7))))):Option (Str × Bool)) (fun (x22,x23)=>some (Step.next (x22,x23,(w64 (x8 + 1))))) else some (Step.done (x6,x7)))
noncomputable def Gv (a0:Str) (a1:Int) (a2:(List Str)):Option (Str × Bool):=(if ((decide (a1 < 0)) || (decide (a1 > (List.length a0:Int))))=true then some ([],false) else Option.bind (CD (Li a0 a1 a2) ([],false,0)) (fun (x17,x18)=>some (x17,x18)))
theorem QH (a0:Str) (a1:Int) (a2:(List Str)):Ct E 70 [bs a0,iv a1,.fsl 1 (List.map cS a2)] (Gv a0 a1 a2) (fun r:Str × Bool=>.tup [bs r.1,bv r.2]):=CN xO (by
 unfold Gv
 refine jS ⟨[V 0 (bs a0),V 1 (iv a1),V 2 (.fsl 1 (List.map cS a2))],[],0⟩ ?_
 refine jS ⟨[V 0 (bs a0),V 1 (iv a1),V 2 (.fsl 1 (List.map cS a2)),V 8 (bs []),V 9 (bv false)],[],0⟩ ?_
 refine Aj (jS ⟨[V 0 (bs a0),V 1 (iv a1),V 2 (.fsl 1 (List.map cS a2)),V 8 (bs []),V 9 (bv false),V 19 (bv ((decide (a1 < 0)) || (decide (a1 > (List.length a0:Int)))))],[],0⟩ ?_)
 refine jIf ?_ ?_
 ·refine jS ⟨[V 6 (bs []),V 7 (bv false)],[],0⟩ ?_
  exact Ae (Ar (BO (.tup [bs [],bv false])))
 refine Ah (Ab (Aj (jR (jG 0 3 ⟨[V 0 (bs a0),V 1 (iv a1),V 8 (bs []),V 9 (bv false),V 20 (.fsl 1 (List.map cS a2)),V 21 (iv (List.length (List.map cS a2):Int)),V 22 (iv 0)],[],0⟩ ?_))))
 simp only[List.length_map]
 refine jN (A4 ?_)
 refine BA (fun (x17,x18)=>⟨[V 8 (bs x17),V 9 (bv x18)],[],0⟩) (fun (x17,x18)=>(.exit 0)) (C5 (fun (x6,x7,x8)=>⟨[V 0 (bs a0),V 1 (iv a1),V 8 (bs x6),V 9 (bv x7),V 20 (.fsl 1 (List.map cS a2)),V 21 (iv (List.length a2:Int)),V 22 (iv x8)],[],0⟩) BV ?_) ?_
 ·rintro⟨x6,x7,x8⟩
  unfold Li
  refine jS ⟨[V 0 (bs a0),V 1 (iv a1),V 8 (bs x6),V 9 (bv x7),V 20 (.fsl 1 (List.map cS a2)),V 21 (iv (List.length a2:Int)),V 22 (iv x8),V 23 (bv (decide (x8 < (List.length a2:Int))))],[],0⟩ ?_
  refine Aj ?_
  refine jIf ?_ ?_
  ·refine Ah (Ab (Aj ?_))
   refine BA (fun (x22,x23)=>⟨[V 0 (bs a0),V 1 (iv a1),V 8 (bs x22),V 9 (bv x23),V 20 (.fsl 1 (List.map cS a2)),V 21 (iv (List.length a2:Int)),V 22 (iv x8)],[],0⟩) (fun (x22,x23)=>.normal) ?_ ?_
   ·refine A4 (jR ?_)
    refine A5 (i:=0) (mo:=ixl a2 x8) rfl rfl rfl rfl (fun _ hc=>EV (c:=cS) (sz:=1) (e:=9) (kk:=.i64) (by kernel_rfl) (by kernel_rfl) (by kernel_rfl) (by kernel_rfl) hc) (fun _=>rfl) ?_
    intro x24 h24
    refine jG 1 2 ⟨[V 0 (bs a0),V 1 (iv a1),V 8 (bs x6),V 9 (bv x7),V 11 (bs x24),V 20 (.fsl 1 (List.map cS a2)),V 21 (iv (List.length a2:Int)),V 22 (iv x8)],[],0⟩ ?_
    refine jN (jR (jG 0 2 ⟨[V 0 (bs a0),V 1 (iv a1),V 8 (bs x6),V 9 (bv x7),V 11 (bs x24),V 20 (.fsl 1 (List.map cS a2)),V 21 (iv (List.length a2:Int)),V 22 (iv x8),V 26 (bs a0),V 27 (iv a1)],[],0⟩ ?_))
    refine A5 (i:=2) (mo:=E0 a0 a1 (List.length a0:Int)) rfl rfl rfl rfl (fun _ hc=>FP (by kernel_rfl) (by kernel_rfl) (by kernel_rfl) (by kernel_rfl) hc) (fun _=>rfl) ?_
    intro x25 h25
    refine jG 3 1 ⟨[V 0 (bs a0),V 1 (iv a1),V 8 (bs x6),V 9 (bv x7),V 11 (bs x24),V 20 (.fsl 1 (List.map cS a2)),V 21 (iv (List.length a2:Int)),V 22 (iv x8),V 28 (bs x25),V 29 (bs x24)],[],0⟩ ?_
    refine jK 4 (Sm x25 x24) ?_
    intro x26 h26
    refine jG 5 11 ⟨[V 0 (bs a0),V 1 (iv a1),V 8 (bs x6),V 9 (bv x7),V 11 (bs x24),V 20 (.fsl 1 (List.map cS a2)),V 21 (iv (List.length a2:Int)),V 22 (iv x8),V 41 (bv (x26 && ((!x7) || (decide ((List.length x24:Int) > (List.length x6:Int))))))],[],0⟩ ?_
    refine jN ?_
    refine jIf ?_ ?_
    ·refine jT ⟨[V 0 (bs a0),V 1 (iv a1),V 8 (bs x24),V 9 (bv true),V 20 (.fsl 1 (List.map cS a2)),V 21 (iv (List.length a2:Int)),V 22 (iv x8)],[],0⟩ ?_
     exact BX (AU rfl BV)
    exact Ah (BX (AU rfl BV))
   rintro⟨x22,x23⟩
   refine Ab (jT ⟨[V 0 (bs a0),V 1 (iv a1),V 8 (bs x22),V 9 (bv x23),V 20 (.fsl 1 (List.map cS a2)),V 21 (iv (List.length a2:Int)),V 22 (iv (w64 (x8 + 1)))],[],0⟩ ?_)
   exact C7 BV
  exact Cp (Cq (Bm rfl nofun BV))
 rintro⟨x17,x18⟩
 refine C6 (Ab (jS ⟨[V 6 (bs x17),V 7 (bv x18)],[],0⟩ ?_))
 exact Ae (BO (.tup [bs x17,bv x18])))
abbrev vA:List LO:=[Ag 2 4]
abbrev vB:List LO:=[lm 3 0 5,Bt 4 5 3 45 5 4,lm 5 4 4,lmg 6 0 5 5 false,A1 7 5 6 95 5 4 5 false,Ak 8 5 7 4,lm 9 8 4,lmg 10 0 5 9 false,A1 11 5 10 46 5 4 9 false,Ak 12 9 11 4,AB 2 12 4]
abbrev zV:LC:=.seq (.reg false vA) (.seq (.reg false vB) .ret)
theorem zW:Bf E 108 13 [.tmp 2] zV:=Bp Go.Proofs.Tryz.f108
noncomputable def Rr (a0:Int):Option (Bool):=some (((a0 == 45) || (a0 == 95)) || (a0 == 46))
theorem u9 (a0:Int):Ct E 108 [.s (.int .u8 a0)] (Rr a0) (fun r:Bool=>bv r):=CN zW (by
 unfold Rr
 refine jS ⟨[V 0 (.s (.int .u8 a0))],[],0⟩ ?_
 refine jS ⟨[V 2 (bv (((a0 == 45) || (a0 == 95)) || (a0 == 46)))],[],0⟩ ?_
 exact Ae (BO (bv (((a0 == 45) || (a0 == 95)) || (a0 == 46)))))
abbrev L7:List LO:=[Ag 2 4]
abbrev L8:List LO:=[lm 3 0 78,AH 4 3 0,AA 5 80 4 1 0,AF 6 3 5 3,lm 7 0 78,AH 8 7 0,AA 9 80 8 0 0,AF 10 9 9 9,Ai 11 #[AE 10] #[9] 3,Al 12 3 6 11 3 4,lm 13 12 4,lmg 14 0 78 13 true,Ao 15 14 0 13 true,AM 16 80 15 0 0 13 true,Aa 17 9 16 9 13 true,lmg 18 0 78 13 true,Ao 19 18 0 13 true,AM 20 80 19 1 0 13 true,Aa 21 3 20 3 13 true,BQ 22 9 17 21 5 13 true,A7 23 108 #[AE 22] #[5] 4 13 true,AS 24 13 23 4,AB 2 24 4]
abbrev MO:LC:=.seq (.reg false L7) (.seq (.reg true L8) .ret)
theorem MP:Bf E 83 25 [.tmp 2] MO:=Bp Go.Proofs.Tryz.f83
noncomputable def CE (a0:Str) (a1:Int) (a2:Int) (a3:Int):Option (Bool):=Option.bind (if (decide (a1 < (List.length a0:Int)))=true then Option.bind (idx a0 a1) (fun x4=>Option.bind (Rr x4) (fun x5=>some x5)) else some false:Option (Bool)) (fun x3=>some x3)
theorem D9 (a0:Str) (a1:Int) (a2:Int) (a3:Int):Ct E 83 [.fptr [bs a0,iv a1,iv a2,iv a3] 0] (CE a0 a1 a2 a3) (fun r:Bool=>bv r):=CN MP (by
 unfold CE
 refine jS ⟨[V 0 (.fptr [bs a0,iv a1,iv a2,iv a3] 0)],[],0⟩ ?_
 refine jR (jG 0 11 ⟨[V 0 (.fptr [bs a0,iv a1,iv a2,iv a3] 0),V 13 (bv (decide (a1 < (List.length a0:Int))))],[],0⟩ ?_)
 refine A2 11 11 (fun x3=>⟨[V 24 (bv x3)],[],0⟩) ?_ ?_
 ·refine jSp 13 ?_ ?_
  ·refine jG 0 8 ⟨[(13,.lit true),V 17 (bs a0),V 21 (iv a1)],[],0⟩ ?_
   refine A5 (i:=8) (mo:=idx a0 a1) rfl rfl rfl rfl (fun _ hc=>Bq (kk:=.i64) (by kernel_rfl) (by kernel_rfl) (by kernel_rfl) hc) (fun _=>rfl) ?_
   intro x4 h4
   refine jK 9 (u9 x4) ?_
   intro x5 h5
   refine jG 10 1 ⟨[V 24 (bv x5)],[],0⟩ ?_
   exact Ad rfl (AU rfl BV)
  refine jG 0 11 ⟨[V 24 (bv false)],[],0⟩ ?_
  exact Ad rfl (AU rfl BV)
 intro x3
 refine jG 22 1 ⟨[V 2 (bv x3)],[],0⟩ ?_
 exact jN (Ae (BO (bv x3))))
abbrev RI:List LO:=[A8 2 #[] 9]
abbrev R3:List LO:=[lm 3 0 78,AN 4 83 #[AE 3] #[78] 4,lm 5 4 4,lmg 6 0 78 5 true,Ao 7 6 0 5 true,AM 8 80 7 1 0 5 true,Aa 9 3 8 3 5 true,CL 10 3 9 1 3 3 5 true,lmg 11 0 78 5 true,Ao 12 11 0 5 true,AM 13 80 12 0 0 5 true,Aa 14 9 13 9 5 true,BF 15 #[AE 14] #[9] 3 5 true,lg 16 (.binOp .lss 3 (AE 10) (AE 15) 3) 4 5 true,AS 17 5 16 4,lm 18 17 4,lmg 19 0 78 18 true,Ao 20 19 0 18 true,AM 21 80 20 0 0 18 true,Aa 22 9 21 9 18 true,lmg 23 0 78 18 true,Ao 24 23 0 18 true,AM 25 80 24 1 0 18 true,Aa 26 3 25 3 18 true,CL 27 3 26 1 3 3 18 true,BQ 28 9 22 27 5 18 true,A7 29 71 #[AE 28,.const (.int .i64 1)] #[5,3] 4 18 true,AS 30 18 29 4]
abbrev R4:List LO:=[lm 31 0 78,AH 32 31 0,AA 33 80 32 1 0,AF 34 3 33 3,Af 35 3 34 1 3 3,AH 36 31 0,AA 37 80 36 1 0,AO 3 37 35 0]
abbrev R5:List LO:=[lm 38 0 78,AN 39 84 #[AE 38,.const (.int .i64 1)] #[78,3] 4]
abbrev R6:List LO:=[lm 40 0 78,AN 41 79 #[AE 40] #[78] 9,AB 2 41 9]
abbrev R7:List LO:=[A8 2 #[48] 9]
abbrev LJ:LC:=.seq (.reg false RI) (.seq (.seq (.reg true R3) (.cond (AE 30) (.reg false R4) .skip)) (.seq (.seq (.reg false R5) (.cond (AE 39) (.seq (.reg false R6) .ret) .skip)) (.seq (.reg false R7) .ret)))
theorem Tp:Bf E 54 42 [.tmp 2] LJ:=Bp Go.Proofs.Tryz.f54
abbrev LH (a0:Str) (a1:Int) (a2:Int) (a3:Int) (r:Str × Int):CS:=⟨[V 2 (bs r.1)],[W 0 4 [bs a0,iv r.2,iv a2,iv a3]],1⟩
noncomputable def Ca (a0:Str) (a1:Int) (a2:Int) (a3:Int):Option (Str × Int):=Option.bind (Option.bind (CE a0 a1 a2 a3) (fun x16=>Option.bind (if (x16 && (decide ((w64 (a1 + 1)) < (List.length a0:Int))))=true then Option.bind (idx a0 (w64 (a1 + 1))) (fun x20=>Option.bind (Ep x20 1) (fun x21=>some x21)) else some false:Option (Bool)) (fun x19=>(if x19=true then some (w64 (a1 + 1)) else some a1))):Option (Int)) (fun x15=>Option.bind (DN a0 x15 a2 a3 1) (fun x22=>(if x22=true then Option.bind (Cr a0 x15 a2 a3) (fun (x23,x24)=>some (x23,x24)) else some ([48],x15))))
theorem GZ (a0:Str) (a1:Int) (a2:Int) (a3:Int):CtM E 54 [pt 0 4] [W 0 4 [bs a0,iv a1,iv a2,iv a3]] 1 (Ca a0 a1 a2 a3) (fun r:Str × Int=>bs r.1) (fun r:Str × Int=>[W 0 4 [bs a0,iv r.2,iv a2,iv a3]]) 1:=B5 (N:=42) (L:=LJ) Tp rfl (Nat.le_of_ble_eq_true rfl) (fun F hF=>by
 unfold Ca
 refine jS ⟨[V 0 (pt 0 4)],[W 0 4 [bs a0,iv a1,iv a2,iv a3]],1⟩ ?_
 refine Aj ?_
 refine BA (fun x15=>⟨[V 0 (pt 0 4)],[W 0 4 [bs a0,iv x15,iv a2,iv a3]],1⟩) (fun x15=>.normal) ?_ ?_
 ·refine jR (jG 0 1 ⟨[V 0 (pt 0 4),V 3 (pt 0 4)],[W 0 4 [bs a0,iv a1,iv a2,iv a3]],1⟩ ?_)
  refine By (i:=1) rfl rfl rfl rfl (vs:=[pt 0 4]) (vs0:=[.fptr [bs a0,iv a1,iv a2,iv a3] 0]) (b:=true) (by kernel_rfl) (by kernel_rfl) (AL (AP _) Ax) (D9 a0 a1 a2 a3) (fun _=>rfl) (fun _=>rfl) ?_
  intro x16 h16
  refine jG 2 14 ⟨[V 0 (pt 0 4),V 18 (bv (x16 && (decide ((w64 (a1 + 1)) < (List.length a0:Int)))))],[W 0 4 [bs a0,iv a1,iv a2,iv a3]],1⟩ ?_
  refine A2 16 12 (fun x19=>⟨[V 0 (pt 0 4),V 30 (bv x19)],[W 0 4 [bs a0,iv a1,iv a2,iv a3]],1⟩) ?_ ?_
  ·refine jSp 18 ?_ ?_
   ·refine jG 0 9 ⟨[V 0 (pt 0 4),(18,.lit true),V 22 (bs a0),V 27 (iv (w64 (a1 + 1)))],[W 0 4 [bs a0,iv a1,iv a2,iv a3]],1⟩ ?_
    refine A5 (i:=9) (mo:=idx a0 (w64 (a1 + 1))) rfl rfl rfl rfl (fun _ hc=>Bq (kk:=.i64) (by kernel_rfl) (by kernel_rfl) (by kernel_rfl) hc) (fun _=>rfl) ?_
    intro x20 h20
    refine jK 10 (Gg x20 1) ?_
    intro x21 h21
    refine jG 11 1 ⟨[V 0 (pt 0 4),V 30 (bv x21)],[W 0 4 [bs a0,iv a1,iv a2,iv a3]],1⟩ ?_
    exact Ad rfl (AU rfl (wkR [(0,some 0)] (An hF (k:=1) rfl) (pc (hC 0) AD)))
   refine jG 0 12 ⟨[V 0 (pt 0 4),V 30 (bv false)],[W 0 4 [bs a0,iv a1,iv a2,iv a3]],1⟩ ?_
   exact Ad rfl (AU rfl (wkR [(0,some 0)] (An hF (k:=1) rfl) (pc (hC 0) AD)))
  intro x19
  refine jN ?_
  refine jIf ?_ ?_
  ·refine jT ⟨[V 0 (pt 0 4)],[W 0 4 [bs a0,iv (w64 (a1 + 1)),iv a2,iv a3]],1⟩ ?_
   exact AU rfl (wkR [(0,some 0)] (An hF (k:=1) rfl) (pc (hC 0) AD))
  exact Ah (AU rfl (wkR [(0,some 0)] (An hF (k:=1) rfl) (pc (hC 0) AD)))
 intro x15
 refine Ab (Aj (jR (jG 0 1 ⟨[V 0 (pt 0 4),V 38 (pt 0 4)],[W 0 4 [bs a0,iv x15,iv a2,iv a3]],1⟩ ?_)))
 refine By (i:=1) rfl rfl rfl rfl (vs:=[pt 0 4,iv 1]) (vs0:=[.fptr [bs a0,iv x15,iv a2,iv a3] 0,iv 1]) (b:=true) (by kernel_rfl) (by kernel_rfl) (AL (AP _) (AL (AP _) Ax)) (Hs a0 x15 a2 a3 1) (fun _=>rfl) (fun _=>rfl) ?_
 intro x22 h22
 refine jN ?_
 refine jIf ?_ ?_
 ·refine jR (jG 0 1 ⟨[V 40 (pt 0 4)],[W 0 4 [bs a0,iv x15,iv a2,iv a3]],1⟩ ?_)
  refine BC 1 [(0,some 0)] [(0,some 0)] (fun r:Str × Int=>[W 0 4 [bs a0,iv r.2,iv a2,iv a3]]) (fun r:Str × Int=>bs r.1) 1 (EY a0 x15 a2 a3) (pc (hC 0) AD) (fun r=>(pc (.inr (hC 0)) AD)) ?_
  rintro⟨x23,x24⟩ hm2
  refine jG 2 1 ⟨[V 2 (bs x23)],[W 0 4 [bs a0,iv x24,iv a2,iv a3]],1⟩ ?_
  exact jN (Ae (Ar (BY (LH a0 a1 a2 a3 (x23,x24)) (.inr rfl) (wkR [(0,some 0)] (An hF (k:=1) rfl) (pc (hC 0) AD)))))
 refine Ah (Ab (jS ⟨[V 2 (bs [48])],[W 0 4 [bs a0,iv x15,iv a2,iv a3]],1⟩ ?_))
 exact Ae (BY (LH a0 a1 a2 a3 ([48],x15)) (.inr rfl) (wkR [(0,some 0)] (An hF (k:=1) rfl) (pc (hC 0) AD))))
abbrev Tr:List LO:=[BT 1 78 0 0,Bd 2 (.const .nilFunc) 97]
abbrev Ts:List LO:=[lo 3 (.makeFunc (Fn.func 103) #[] #[AE 1]) 96,AB 2 3 97]
abbrev MA:LC:=.seq (.reg false Tr) (.seq (.reg false Ts) .ret)
theorem U7:Bf E 81 4 [.tmp 2] MA:=Bp Go.Proofs.Tryz.f81
abbrev U6 (a0:Str) (a1:Int) (a2:Int) (a3:Int) (r:Unit):CS:=⟨[V 2 (.fn 103 [pt 1 1])],[W 0 4 [bs a0,iv a1,iv a2,iv a3],W 1 1 [pt 0 4]],2⟩
noncomputable def Gq (a0:Str) (a1:Int) (a2:Int) (a3:Int):Option (Unit):=some ()
theorem Tq (a0:Str) (a1:Int) (a2:Int) (a3:Int):CtM E 81 [pt 0 4] [W 0 4 [bs a0,iv a1,iv a2,iv a3]] 1 (Gq a0 a1 a2 a3) (fun r:Unit=>.fn 103 [pt 1 1]) (fun r:Unit=>[W 0 4 [bs a0,iv a1,iv a2,iv a3],W 1 1 [pt 0 4]]) 2:=B5 (N:=4) (L:=MA) U7 rfl (Nat.le_of_ble_eq_true rfl) (fun F hF=>by
 unfold Gq
 refine jS ⟨[V 1 (pt 1 1)],[W 0 4 [bs a0,iv a1,iv a2,iv a3],W 1 1 [pt 0 4]],2⟩ ?_
 refine jS ⟨[V 2 (.fn 103 [pt 1 1])],[W 0 4 [bs a0,iv a1,iv a2,iv a3],W 1 1 [pt 0 4]],2⟩ ?_
 exact Ae (BY (U6 a0 a1 a2 a3 ()) (.inr rfl) (wkR [(0,some 0),(1,some 1)] (An hF (k:=1) rfl) (pc (hC 0) (pc (hC 1) AD)))))
abbrev NG:List LO:=[AF 3 78 1 78,AN 4 83 #[AE 3] #[78] 4,lm 5 4 4,lmg 6 0 76 5 true,Aa 7 78 1 78 5 true,Ao 8 7 0 5 true,AM 9 80 8 1 0 5 true,Aa 10 3 9 3 5 true,CL 11 3 10 1 3 3 5 true,lg 12 (.call ⟨.value (AE 6),#[AE 11],#[3]⟩) 4 5 true,Ay 13 4 12 4 5 true,AS 14 5 13 4]
abbrev NH:List LO:=[lm 15 0 76,AF 16 78 1 78,AH 17 16 0,AA 18 80 17 1 0,AF 19 3 18 3,lo 20 (.call ⟨.value (AE 15),#[AE 19],#[3]⟩) 4]
abbrev N9:LC:=.seq (.seq (.reg false NG) (.cond (AE 14) .ret .skip)) (.reg false NH)
theorem OA:Bf E 103 21 [] N9:=Bp Go.Proofs.Tryz.f103
abbrev U8:List LO:=[BT 2 78 0 0,BT 3 32 1 0,BH 4 9 0,BH 5 4 0]
abbrev U9:List LO:=[AF 9 78 2 78,AH 10 9 0,AA 11 80 10 2 0,AA 12 25 11 0 0,AF 13 23 12 23,BM 14 23 13 0 23 4]
abbrev VA:List LO:=[ln (.store 9 (AE 4) (.const (.string ⟨#[]⟩))) 0,ln (.store 4 (AE 5) (.const (.bool false))) 0]
abbrev VB:List LO:=[AF 15 78 2 78,AN 16 81 #[AE 15] #[78] 97]
abbrev VC:List LO:=[AB 6 17 3]
abbrev VD:List LO:=[AF 19 78 2 78,AH 20 19 0,AA 21 80 20 0 0,AF 22 9 21 9,lm 23 6 3,AF 24 32 3 32,AN 25 70 #[AE 22,AE 23,AE 24] #[9,3,32] 58,lm 18 25 58,Aq 26 18 0 9,Aq 27 18 1 4,AB 7 26 9,AB 8 27 4]
abbrev VE:List LO:=[lm 28 8 4]
abbrev VF:List LO:=[AF 29 78 2 78,lm 30 6 3,lm 31 7 9,Ai 32 #[AE 31] #[9] 3,Bk 33 3 30 32 3 3,AH 34 29 0,AA 35 80 34 1 0,AO 3 35 33 0]
abbrev VG:List LO:=[lm 36 7 9,AO 9 4 36 0,Ds 4 5 0]
noncomputable def E8:Code:=EE (G0 Go.Proofs.Tryz.f52) [1,1,0,1,0,0]
theorem Hu:GX E E8=some (.reg false VC):=by kernel_rfl
noncomputable def E9:Code:=EE (G0 Go.Proofs.Tryz.f52) [1,1,0,1,0,1]
theorem Hv:GX E E9=some (.block 1 (.seq (.reg true VD) (.seq (.reg false VE) (.cond (.tmp 28) (.seq (.reg false VF) (.seq (.reg false VG) .ret)) .skip)))):=by kernel_rfl
abbrev Tt:List LO:=[ln (.store 9 (AE 4) (.const (.string ⟨#[]⟩))) 0,ln (.store 4 (AE 5) (.const (.bool false))) 0]
noncomputable abbrev Mx:LC:=.seq (.reg false U8) (.seq (.seq (.reg false U9) (.cond (.tmp 14) (.seq (.reg false VA) .ret) .skip)) (.seq (.seq (.reg false VB) (.block 0 (.rng (.tmp 16) [17] E8 E9))) (.seq (.reg false Tt) .ret)))
theorem V4:Bf E 52 37 [.cell 4 9,.cell 5 4] Mx:=Bp Go.Proofs.Tryz.f52
noncomputable abbrev Av (q:LoopState) (p:Option Code):C0:=.loop { state:=q,pending:=p,tmps:=tl 37 [V 2 (pt 2 1),V 3 (pt 3 1),V 4 (pt 4 1),V 5 (pt 5 1),V 16 (.fn 103 [pt 6 1])] none,params:=[17],assign:=E8,body:=E9 }
abbrev F9 (a0:Str) (a1:Int) (a2:Int) (a3:Int) (a4:List Str) (r:Str × Bool × Int):CS:=⟨[V 4 (pt 2 1),V 5 (pt 3 1)],[W 0 4 [bs a0,iv r.2.2,iv a2,iv a3],(1,.rows 1 (List.map cS a4)),W 2 1 [bs r.1],W 3 1 [bv r.2.1]],4⟩
noncomputable def CO (a0:Str) (a1:Int) (a2:Int) (a3:Int) (a4:List Str):Option (Str × Bool × Int):=(if (a2 != 0)=true then some ([],false,a1) else Option.bind (Gq a0 a1 a2 a3) (fun _=>Option.bind (CE a0 a1 a2 a3) (fun x13=>Option.bind (if x13=true then Option.bind (Option.bind (Gv a0 (w64 (a1 + 1)) a4) (fun x22=>(if x22.2=true then some (Sum.inl ((w64 ((w64 (a1 + 1)) + (List.length x22.1:Int))),x22.1)) else some (Sum.inr ()))):Option ((Int × Str) ⊕ (Unit))) (fun y=>match y with | Sum.inl (x20,x21)=>some (Sum.inl (x20,x21)) | Sum.inr _=>some (Sum.inr ())) else some (Sum.inr ()):Option ((Int × Str) ⊕ (Unit))) (fun y=>match y with | Sum.inl (x17,x18)=>some (x18,true,x17) | Sum.inr _=>Option.bind (Option.bind (Gv a0 a1 a4) (fun x26=>(if x26.2=true then some (Sum.inl ((w64 (a1 + (List.length x26.1:Int))),x26.1)) else some (Sum.inr ()))):Option ((Int × Str) ⊕ (Unit))) (fun y=>match y with | Sum.inl (x24,x25)=>some (x25,true,x24) | Sum.inr _=>some ([],false,a1))))))
theorem HS (a0:Str) (a1:Int) (a2:Int) (a3:Int) (a4:List Str):CtM E 52 [pt 0 4,.osl 1 0 (List.length a4) 1] [W 0 4 [bs a0,iv a1,iv a2,iv a3],(1,.rows 1 (List.map cS a4))] 2 (CO a0 a1 a2 a3 a4) (fun r:Str × Bool × Int=>.tup [bs r.1,bv r.2.1]) (fun r:Str × Bool × Int=>[W 0 4 [bs a0,iv r.2.2,iv a2,iv a3],(1,.rows 1 (List.map cS a4))]) 4:=B5 (N:=37) (L:=Mx) V4 rfl (Nat.le_of_ble_eq_true rfl) (fun F hF=>by
 unfold CO
 refine jS ⟨[V 2 (pt 2 1),V 3 (pt 3 1),V 4 (pt 4 1),V 5 (pt 5 1)],[W 0 4 [bs a0,iv a1,iv a2,iv a3],(1,.rows 1 (List.map cS a4)),W 2 1 [pt 0 4],W 3 1 [.osl 1 0 (List.length a4) 1],W 4 1 [bs []],W 5 1 [bv false]],6⟩ ?_
 refine Aj (jS ⟨[V 2 (pt 2 1),V 3 (pt 3 1),V 4 (pt 4 1),V 5 (pt 5 1),V 14 (bv (a2 != 0))],[W 0 4 [bs a0,iv a1,iv a2,iv a3],(1,.rows 1 (List.map cS a4)),W 2 1 [pt 0 4],W 3 1 [.osl 1 0 (List.length a4) 1],W 4 1 [bs []],W 5 1 [bv false]],6⟩ ?_)
 refine jIf ?_ ?_
 ·refine jS ⟨[V 4 (pt 4 1),V 5 (pt 5 1)],[W 0 4 [bs a0,iv a1,iv a2,iv a3],(1,.rows 1 (List.map cS a4)),W 4 1 [bs []],W 5 1 [bv false]],6⟩ ?_
  exact Ae (Ar (BY (F9 a0 a1 a2 a3 a4 ([],false,a1)) (.inr rfl) (wkR [(0,some 0),(1,some 1),(2,some 4),(3,some 5)] (An hF (k:=2) rfl) (pc (hC 0) (pc (hL 1 (AY BU _)) (pc (hC 4) (pc (hC 5) AD)))))))
 refine Ah (Ab (Aj (jR (jG 0 1 ⟨[V 2 (pt 2 1),V 3 (pt 3 1),V 4 (pt 4 1),V 5 (pt 5 1),V 15 (pt 0 4)],[W 0 4 [bs a0,iv a1,iv a2,iv a3],(1,.rows 1 (List.map cS a4)),W 2 1 [pt 0 4],W 3 1 [.osl 1 0 (List.length a4) 1],W 4 1 [bs []],W 5 1 [bv false]],6⟩ ?_))))
 refine BC 1 [(0,some 0)] [(0,some 0),(6,some 1)] (fun r:Unit=>[W 0 4 [bs a0,iv a1,iv a2,iv a3],(1,.rows 1 (List.map cS a4)),W 2 1 [pt 0 4],W 3 1 [.osl 1 0 (List.length a4) 1],W 4 1 [bs []],W 5 1 [bv false],W 6 1 [pt 0 4]]) (fun r:Unit=>.fn 103 [pt 6 1]) 7 (Tq a0 a1 a2 a3) (pc (hC 0) AD) (fun r=>(pc (.inr (hC 0)) (pc (.inl ⟨rfl,rfl⟩) (pc (.inl ⟨rfl,rfl⟩) (pc (.inl ⟨rfl,rfl⟩) (pc (.inl ⟨rfl,rfl⟩) (pc (.inl ⟨rfl,rfl⟩) (pc (.inr (hC 1)) AD)))))))) ?_
 rintro⟨⟩ hm9
 refine jN (A4 ?_)
 refine AAk [2,3,4,5,16] [0,1,2,3,4,5,6] (st1:=⟨[V 2 (pt 2 1),V 3 (pt 3 1),V 4 (pt 4 1),V 5 (pt 5 1),V 16 (.fn 103 [pt 6 1])],[W 0 4 [bs a0,iv a1,iv a2,iv a3],(1,.rows 1 (List.map cS a4)),W 2 1 [pt 0 4],W 3 1 [.osl 1 0 (List.length a4) 1],W 4 1 [bs []],W 5 1 [bv false],W 6 1 [pt 0 4]],7⟩) (by kernel_rfl) ?_
 refine AC5 (g:=103) (caps:=[pt 6 1]) (by kernel_rfl) OA (Nat.le_of_ble_eq_true rfl) ?_
 intro F5 hc5
 refine Aj (jR (jG 0 1 ⟨[V 0 (.yld 7),V 1 (pt 6 1),V 3 (pt 0 4)],[W 0 4 [bs a0,iv a1,iv a2,iv a3],(1,.rows 1 (List.map cS a4)),W 2 1 [pt 0 4],W 3 1 [.osl 1 0 (List.length a4) 1],W 4 1 [bs []],W 5 1 [bv false],W 6 1 [pt 0 4],(7,Av .ready none)],8⟩ ?_))
 refine By (i:=1) rfl rfl rfl rfl (vs:=[pt 0 4]) (vs0:=[.fptr [bs a0,iv a1,iv a2,iv a3] 0]) (b:=true) (by kernel_rfl) (by kernel_rfl) (AL (AP _) Ax) (D9 a0 a1 a2 a3) (fun _=>rfl) (fun _=>rfl) ?_
 intro x13 h13
 refine jG 2 1 ⟨[V 0 (.yld 7),V 1 (pt 6 1),V 5 (bv x13)],[W 0 4 [bs a0,iv a1,iv a2,iv a3],(1,.rows 1 (List.map cS a4)),W 2 1 [pt 0 4],W 3 1 [.osl 1 0 (List.length a4) 1],W 4 1 [bs []],W 5 1 [bv false],W 6 1 [pt 0 4],(7,Av .ready none)],8⟩ ?_
 refine A2 3 9 (fun y=>match y with | Sum.inl (x17,x18)=>⟨[V 0 (.yld 7),V 1 (pt 6 1),V 14 (bv true)],[W 0 4 [bs a0,iv x17,iv a2,iv a3],(1,.rows 1 (List.map cS a4)),W 2 1 [pt 0 4],W 3 1 [.osl 1 0 (List.length a4) 1],W 4 1 [bs x18],W 5 1 [bv true],W 6 1 [pt 0 4],(7,Av .done (some .ret))],8⟩ | Sum.inr _=>⟨[V 0 (.yld 7),V 1 (pt 6 1),V 14 (bv false)],[W 0 4 [bs a0,iv a1,iv a2,iv a3],(1,.rows 1 (List.map cS a4)),W 2 1 [pt 0 4],W 3 1 [.osl 1 0 (List.length a4) 1],W 4 1 [bs []],W 5 1 [bv false],W 6 1 [pt 0 4],(7,Av .ready none)],8⟩) ?_ ?_
 ·refine jSp 5 ?_ ?_
  ·refine jG 0 6 ⟨[V 0 (.yld 7),V 1 (pt 6 1),(5,.lit true),V 6 (.yld 7),V 11 (iv (w64 (a1 + 1)))],[W 0 4 [bs a0,iv a1,iv a2,iv a3],(1,.rows 1 (List.map cS a4)),W 2 1 [pt 0 4],W 3 1 [.osl 1 0 (List.length a4) 1],W 4 1 [bs []],W 5 1 [bv false],W 6 1 [pt 0 4],(7,Av .ready none)],8⟩ ?_
   refine b6 (i:=6) (l:=7) (Nc:=37) (Kc:=[V 2 (pt 2 1),V 3 (pt 3 1),V 4 (pt 4 1),V 5 (pt 5 1),V 16 (.fn 103 [pt 6 1])]) (ps:=[17]) (vs:=[iv (w64 (a1 + 1))]) (fun y=>match y with | Sum.inl (x20,x21)=>⟨[],[W 0 4 [bs a0,iv x20,iv a2,iv a3],(1,.rows 1 (List.map cS a4)),W 2 1 [pt 0 4],W 3 1 [.osl 1 0 (List.length a4) 1],W 4 1 [bs x21],W 5 1 [bv true],W 6 1 [pt 0 4],(7,Av .busy none)],8⟩ | Sum.inr _=>⟨[],[W 0 4 [bs a0,iv a1,iv a2,iv a3],(1,.rows 1 (List.map cS a4)),W 2 1 [pt 0 4],W 3 1 [.osl 1 0 (List.length a4) 1],W 4 1 [bs []],W 5 1 [bv false],W 6 1 [pt 0 4],(7,Av .busy none)],8⟩) (fun y=>match y with | Sum.inl (x20,x21)=>.ret | Sum.inr _=>.normal) [0,1,5,12] [0,1,2,3,4,5,6,7] (after:=(fun y=>match y with | Sum.inl (x20,x21)=>⟨[V 0 (.yld 7),V 1 (pt 6 1),(5,.lit true),V 12 (bv false)],[W 0 4 [bs a0,iv x20,iv a2,iv a3],(1,.rows 1 (List.map cS a4)),W 2 1 [pt 0 4],W 3 1 [.osl 1 0 (List.length a4) 1],W 4 1 [bs x21],W 5 1 [bv true],W 6 1 [pt 0 4],(7,Av .done (some .ret))],8⟩ | Sum.inr _=>⟨[V 0 (.yld 7),V 1 (pt 6 1),(5,.lit true),V 12 (bv true)],[W 0 4 [bs a0,iv a1,iv a2,iv a3],(1,.rows 1 (List.map cS a4)),W 2 1 [pt 0 4],W 3 1 [.osl 1 0 (List.length a4) 1],W 4 1 [bs []],W 5 1 [bv false],W 6 1 [pt 0 4],(7,Av .ready none)],8⟩)) rfl rfl Hu Hv (by kernel_rfl) (by kernel_rfl) (sI hc5 rfl) rfl (by kernel_rfl) rfl ?_ (by rintro (⟨x20,x21⟩ | _) <;> exact⟨none,by kernel_rfl⟩) (by rintro (⟨x20,x21⟩ | _) <;> kernel_rfl) ?_
   ·intro F7 hy7
    refine jT ⟨[V 2 (pt 2 1),V 3 (pt 3 1),V 4 (pt 4 1),V 5 (pt 5 1),V 6 (iv (w64 (a1 + 1)))],[W 0 4 [bs a0,iv a1,iv a2,iv a3],(1,.rows 1 (List.map cS a4)),W 2 1 [pt 0 4],W 3 1 [.osl 1 0 (List.length a4) 1],W 4 1 [bs []],W 5 1 [bv false],W 6 1 [pt 0 4],(7,Av .ready none)],8⟩ ?_
    refine zB hy7 rfl ?_
    refine A4 (jR (jG 0 6 ⟨[V 2 (pt 2 1),V 4 (pt 4 1),V 5 (pt 5 1),V 6 (iv (w64 (a1 + 1))),V 22 (bs a0),V 23 (iv (w64 (a1 + 1))),V 24 (.osl 1 0 (List.length a4) 1)],[W 0 4 [bs a0,iv a1,iv a2,iv a3],(1,.rows 1 (List.map cS a4)),W 2 1 [pt 0 4],W 3 1 [.osl 1 0 (List.length a4) 1],W 4 1 [bs []],W 5 1 [bv false],W 6 1 [pt 0 4],(7,Av .busy none)],8⟩ ?_))
    refine By (i:=6) rfl rfl rfl rfl (vs:=[bs a0,iv (w64 (a1 + 1)),.osl 1 0 (List.length a4) 1]) (by kernel_rfl) (AR rfl (AR rfl (AR (EI oD (by kernel_rfl)) (BL _)))) (AL (AP _) (AL (AP _) (AL (AP _) Ax))) (QH a0 (w64 (a1 + 1)) a4) (fun _=>rfl) (fun _=>rfl) ?_
    intro x22 h22
    refine jG 7 5 ⟨[V 2 (pt 2 1),V 4 (pt 4 1),V 5 (pt 5 1),V 6 (iv (w64 (a1 + 1))),V 7 (bs x22.1),V 8 (bv x22.2)],[W 0 4 [bs a0,iv a1,iv a2,iv a3],(1,.rows 1 (List.map cS a4)),W 2 1 [pt 0 4],W 3 1 [.osl 1 0 (List.length a4) 1],W 4 1 [bs []],W 5 1 [bv false],W 6 1 [pt 0 4],(7,Av .busy none)],8⟩ ?_
    refine jN (jS ⟨[V 2 (pt 2 1),V 4 (pt 4 1),V 5 (pt 5 1),V 6 (iv (w64 (a1 + 1))),V 7 (bs x22.1),V 28 (bv x22.2)],[W 0 4 [bs a0,iv a1,iv a2,iv a3],(1,.rows 1 (List.map cS a4)),W 2 1 [pt 0 4],W 3 1 [.osl 1 0 (List.length a4) 1],W 4 1 [bs []],W 5 1 [bv false],W 6 1 [pt 0 4],(7,Av .busy none)],8⟩ ?_)
    refine jIf ?_ ?_
    ·refine jS ⟨[V 4 (pt 4 1),V 5 (pt 5 1),V 7 (bs x22.1)],[W 0 4 [bs a0,iv (w64 ((w64 (a1 + 1)) + (List.length x22.1:Int))),iv a2,iv a3],(1,.rows 1 (List.map cS a4)),W 2 1 [pt 0 4],W 3 1 [.osl 1 0 (List.length a4) 1],W 4 1 [bs []],W 5 1 [bv false],W 6 1 [pt 0 4],(7,Av .busy none)],8⟩ ?_
     refine jS ⟨[],[W 0 4 [bs a0,iv (w64 ((w64 (a1 + 1)) + (List.length x22.1:Int))),iv a2,iv a3],(1,.rows 1 (List.map cS a4)),W 2 1 [pt 0 4],W 3 1 [.osl 1 0 (List.length a4) 1],W 4 1 [bs x22.1],W 5 1 [bv true],W 6 1 [pt 0 4],(7,Av .busy none)],8⟩ ?_
     exact Ae (BG (AU rfl (wkR [(0,some 0),(1,some 1),(2,some 2),(3,some 3),(4,some 4),(5,some 5),(6,some 6),(7,some 7)] (An hy7.2 (k:=8) rfl) (pc (hC 0) (pc (hL 1 (AY BU _)) (pc (hC 2) (pc (hC 3) (pc (hC 4) (pc (hC 5) (pc (hC 6) (pc (.inr (.inr (.inl ⟨7,_,_,rfl,rfl,rfl,by kernel_rfl⟩))) AD)))))))))))
    exact Ah (BX (AU rfl (wkR [(0,some 0),(1,some 1),(2,some 2),(3,some 3),(4,some 4),(5,some 5),(6,some 6),(7,some 7)] (An hy7.2 (k:=8) rfl) (pc (hC 0) (pc (hL 1 (AY BU _)) (pc (hC 2) (pc (hC 3) (pc (hC 4) (pc (hC 5) (pc (hC 6) (pc (.inr (.inr (.inl ⟨7,_,_,rfl,rfl,rfl,by kernel_rfl⟩))) AD)))))))))))
   rintro (⟨x20,x21⟩ | _)
   ·refine jG 7 2 ⟨[V 0 (.yld 7),V 1 (pt 6 1),V 14 (bv true)],[W 0 4 [bs a0,iv x20,iv a2,iv a3],(1,.rows 1 (List.map cS a4)),W 2 1 [pt 0 4],W 3 1 [.osl 1 0 (List.length a4) 1],W 4 1 [bs x21],W 5 1 [bv true],W 6 1 [pt 0 4],(7,Av .done (some .ret))],8⟩ ?_
    exact Ad rfl (AU rfl (wkR [(0,some 0),(1,some 1),(2,some 2),(3,some 3),(4,some 4),(5,some 5),(6,some 6),(7,some 7)] (An hc5.2.2 (k:=8) rfl) (pc (hC 0) (pc (hL 1 (AY BU _)) (pc (hC 2) (pc (hC 3) (pc (hC 4) (pc (hC 5) (pc (hC 6) (pc (.inr (.inr (.inl ⟨7,_,_,rfl,rfl,rfl,by kernel_rfl⟩))) AD))))))))))
   refine jG 7 2 ⟨[V 0 (.yld 7),V 1 (pt 6 1),V 14 (bv false)],[W 0 4 [bs a0,iv a1,iv a2,iv a3],(1,.rows 1 (List.map cS a4)),W 2 1 [pt 0 4],W 3 1 [.osl 1 0 (List.length a4) 1],W 4 1 [bs []],W 5 1 [bv false],W 6 1 [pt 0 4],(7,Av .ready none)],8⟩ ?_
   exact Ad rfl (AU rfl (wkR [(0,some 0),(1,some 1),(2,some 2),(3,some 3),(4,some 4),(5,some 5),(6,some 6),(7,some 7)] (An hc5.2.2 (k:=8) rfl) (pc (hC 0) (pc (hL 1 (AY BU _)) (pc (hC 2) (pc (hC 3) (pc (hC 4) (pc (hC 5) (pc (hC 6) (pc (.inr (.inr (.inl ⟨7,_,_,rfl,rfl,rfl,by kernel_rfl⟩))) AD))))))))))
  refine jG 0 9 ⟨[V 0 (.yld 7),V 1 (pt 6 1),V 14 (bv false)],[W 0 4 [bs a0,iv a1,iv a2,iv a3],(1,.rows 1 (List.map cS a4)),W 2 1 [pt 0 4],W 3 1 [.osl 1 0 (List.length a4) 1],W 4 1 [bs []],W 5 1 [bv false],W 6 1 [pt 0 4],(7,Av .ready none)],8⟩ ?_
  exact Ad rfl (AU rfl (wkR [(0,some 0),(1,some 1),(2,some 2),(3,some 3),(4,some 4),(5,some 5),(6,some 6),(7,some 7)] (An hc5.2.2 (k:=8) rfl) (pc (hC 0) (pc (hL 1 (AY BU _)) (pc (hC 2) (pc (hC 3) (pc (hC 4) (pc (hC 5) (pc (hC 6) (pc (.inr (.inr (.inl ⟨7,_,_,rfl,rfl,rfl,by kernel_rfl⟩))) AD))))))))))
 rintro (⟨x17,x18⟩ | _)
 ·refine jN ?_
  refine Re (c:=true) (by kernel_rfl) ?_
  refine Ae (Ar ?_)
  refine WI hc5 (.inr rfl) rfl nofun rfl ?_
  exact BG (Ar (BY (F9 a0 a1 a2 a3 a4 (x18,true,x17)) (.inr rfl) (wkR [(0,some 0),(1,some 1),(2,some 4),(3,some 5)] (An hF (k:=2) rfl) (pc (hC 0) (pc (hL 1 (AY BU _)) (pc (hC 4) (pc (hC 5) AD)))))))
 refine jN ?_
 refine Re (c:=false) (by kernel_rfl) ?_
 refine Ah (Ab (CY (jG 0 5 ⟨[V 15 (.yld 7),V 19 (iv a1)],[W 0 4 [bs a0,iv a1,iv a2,iv a3],(1,.rows 1 (List.map cS a4)),W 2 1 [pt 0 4],W 3 1 [.osl 1 0 (List.length a4) 1],W 4 1 [bs []],W 5 1 [bv false],W 6 1 [pt 0 4],(7,Av .ready none)],8⟩ ?_)))
 refine b6 (i:=5) (l:=7) (Nc:=37) (Kc:=[V 2 (pt 2 1),V 3 (pt 3 1),V 4 (pt 4 1),V 5 (pt 5 1),V 16 (.fn 103 [pt 6 1])]) (ps:=[17]) (vs:=[iv a1]) (fun y=>match y with | Sum.inl (x24,x25)=>⟨[],[W 0 4 [bs a0,iv x24,iv a2,iv a3],(1,.rows 1 (List.map cS a4)),W 2 1 [pt 0 4],W 3 1 [.osl 1 0 (List.length a4) 1],W 4 1 [bs x25],W 5 1 [bv true],W 6 1 [pt 0 4],(7,Av .busy none)],8⟩ | Sum.inr _=>⟨[],[W 0 4 [bs a0,iv a1,iv a2,iv a3],(1,.rows 1 (List.map cS a4)),W 2 1 [pt 0 4],W 3 1 [.osl 1 0 (List.length a4) 1],W 4 1 [bs []],W 5 1 [bv false],W 6 1 [pt 0 4],(7,Av .busy none)],8⟩) (fun y=>match y with | Sum.inl (x24,x25)=>.ret | Sum.inr _=>.normal) [20] [0,1,2,3,4,5,6,7] (after:=(fun y=>match y with | Sum.inl (x24,x25)=>⟨[V 20 (bv false)],[W 0 4 [bs a0,iv x24,iv a2,iv a3],(1,.rows 1 (List.map cS a4)),W 2 1 [pt 0 4],W 3 1 [.osl 1 0 (List.length a4) 1],W 4 1 [bs x25],W 5 1 [bv true],W 6 1 [pt 0 4],(7,Av .done (some .ret))],8⟩ | Sum.inr _=>⟨[V 20 (bv true)],[W 0 4 [bs a0,iv a1,iv a2,iv a3],(1,.rows 1 (List.map cS a4)),W 2 1 [pt 0 4],W 3 1 [.osl 1 0 (List.length a4) 1],W 4 1 [bs []],W 5 1 [bv false],W 6 1 [pt 0 4],(7,Av .ready none)],8⟩)) rfl rfl Hu Hv (by kernel_rfl) (by kernel_rfl) (sI hc5 rfl) rfl (by kernel_rfl) rfl ?_ (by rintro (⟨x24,x25⟩ | _) <;> exact⟨none,by kernel_rfl⟩) (by rintro (⟨x24,x25⟩ | _) <;> kernel_rfl) ?_
 ·intro F8 hy8
  refine jT ⟨[V 2 (pt 2 1),V 3 (pt 3 1),V 4 (pt 4 1),V 5 (pt 5 1),V 6 (iv a1)],[W 0 4 [bs a0,iv a1,iv a2,iv a3],(1,.rows 1 (List.map cS a4)),W 2 1 [pt 0 4],W 3 1 [.osl 1 0 (List.length a4) 1],W 4 1 [bs []],W 5 1 [bv false],W 6 1 [pt 0 4],(7,Av .ready none)],8⟩ ?_
  refine zB hy8 rfl ?_
  refine A4 (jR (jG 0 6 ⟨[V 2 (pt 2 1),V 4 (pt 4 1),V 5 (pt 5 1),V 6 (iv a1),V 22 (bs a0),V 23 (iv a1),V 24 (.osl 1 0 (List.length a4) 1)],[W 0 4 [bs a0,iv a1,iv a2,iv a3],(1,.rows 1 (List.map cS a4)),W 2 1 [pt 0 4],W 3 1 [.osl 1 0 (List.length a4) 1],W 4 1 [bs []],W 5 1 [bv false],W 6 1 [pt 0 4],(7,Av .busy none)],8⟩ ?_))
  refine By (i:=6) rfl rfl rfl rfl (vs:=[bs a0,iv a1,.osl 1 0 (List.length a4) 1]) (by kernel_rfl) (AR rfl (AR rfl (AR (EI oD (by kernel_rfl)) (BL _)))) (AL (AP _) (AL (AP _) (AL (AP _) Ax))) (QH a0 a1 a4) (fun _=>rfl) (fun _=>rfl) ?_
  intro x26 h26
  refine jG 7 5 ⟨[V 2 (pt 2 1),V 4 (pt 4 1),V 5 (pt 5 1),V 6 (iv a1),V 7 (bs x26.1),V 8 (bv x26.2)],[W 0 4 [bs a0,iv a1,iv a2,iv a3],(1,.rows 1 (List.map cS a4)),W 2 1 [pt 0 4],W 3 1 [.osl 1 0 (List.length a4) 1],W 4 1 [bs []],W 5 1 [bv false],W 6 1 [pt 0 4],(7,Av .busy none)],8⟩ ?_
  refine jN (jS ⟨[V 2 (pt 2 1),V 4 (pt 4 1),V 5 (pt 5 1),V 6 (iv a1),V 7 (bs x26.1),V 28 (bv x26.2)],[W 0 4 [bs a0,iv a1,iv a2,iv a3],(1,.rows 1 (List.map cS a4)),W 2 1 [pt 0 4],W 3 1 [.osl 1 0 (List.length a4) 1],W 4 1 [bs []],W 5 1 [bv false],W 6 1 [pt 0 4],(7,Av .busy none)],8⟩ ?_)
  refine jIf ?_ ?_
  ·refine jS ⟨[V 4 (pt 4 1),V 5 (pt 5 1),V 7 (bs x26.1)],[W 0 4 [bs a0,iv (w64 (a1 + (List.length x26.1:Int))),iv a2,iv a3],(1,.rows 1 (List.map cS a4)),W 2 1 [pt 0 4],W 3 1 [.osl 1 0 (List.length a4) 1],W 4 1 [bs []],W 5 1 [bv false],W 6 1 [pt 0 4],(7,Av .busy none)],8⟩ ?_
   refine jS ⟨[],[W 0 4 [bs a0,iv (w64 (a1 + (List.length x26.1:Int))),iv a2,iv a3],(1,.rows 1 (List.map cS a4)),W 2 1 [pt 0 4],W 3 1 [.osl 1 0 (List.length a4) 1],W 4 1 [bs x26.1],W 5 1 [bv true],W 6 1 [pt 0 4],(7,Av .busy none)],8⟩ ?_
   exact Ae (BG (AU rfl (wkR [(0,some 0),(1,some 1),(2,some 2),(3,some 3),(4,some 4),(5,some 5),(6,some 6),(7,some 7)] (An hy8.2 (k:=8) rfl) (pc (hC 0) (pc (hL 1 (AY BU _)) (pc (hC 2) (pc (hC 3) (pc (hC 4) (pc (hC 5) (pc (hC 6) (pc (.inr (.inr (.inl ⟨7,_,_,rfl,rfl,rfl,by kernel_rfl⟩))) AD)))))))))))
  exact Ah (BX (AU rfl (wkR [(0,some 0),(1,some 1),(2,some 2),(3,some 3),(4,some 4),(5,some 5),(6,some 6),(7,some 7)] (An hy8.2 (k:=8) rfl) (pc (hC 0) (pc (hL 1 (AY BU _)) (pc (hC 2) (pc (hC 3) (pc (hC 4) (pc (hC 5) (pc (hC 6) (pc (.inr (.inr (.inl ⟨7,_,_,rfl,rfl,rfl,by kernel_rfl⟩))) AD)))))))))))
 rintro (⟨x24,x25⟩ | _)
 ·refine Ad rfl ?_
  refine WI hc5 (.inl rfl) rfl nofun rfl ?_
  exact BG (Ar (BY (F9 a0 a1 a2 a3 a4 (x25,true,x24)) (.inr rfl) (wkR [(0,some 0),(1,some 1),(2,some 4),(3,some 5)] (An hF (k:=2) rfl) (pc (hC 0) (pc (hL 1 (AY BU _)) (pc (hC 4) (pc (hC 5) AD)))))))
 refine Ad rfl ?_
 refine WI hc5 (.inl rfl) rfl nofun rfl ?_
 refine BX (Ab (jS ⟨[V 4 (pt 4 1),V 5 (pt 5 1)],[W 0 4 [bs a0,iv a1,iv a2,iv a3],(1,.rows 1 (List.map cS a4)),W 4 1 [bs []],W 5 1 [bv false]],8⟩ ?_))
 exact Ae (BY (F9 a0 a1 a2 a3 a4 ([],false,a1)) (.inr rfl) (wkR [(0,some 0),(1,some 1),(2,some 4),(3,some 5)] (An hF (k:=2) rfl) (pc (hC 0) (pc (hL 1 (AY BU _)) (pc (hC 4) (pc (hC 5) AD)))))))
abbrev Tg:List LO:=[Bd 2 (.const (.slice none 0 0)) 32]
abbrev Th:List LO:=[Bd 3 (.const (.slice none 0 0)) 32]
abbrev Ti:List LO:=[lm 5 0 78,AH 6 5 0,AA 7 80 6 1 0,AF 8 3 7 3,lm 9 0 78,AH 10 9 0,AA 11 80 10 0 0,AF 12 9 11 9,Ai 13 #[AE 12] #[9] 3,CW 14 3 8 13 3 4,lm 15 14 4,lmg 16 0 78 15 false,Ao 17 16 0 15 false,AM 18 80 17 0 0 15 false,Aa 19 9 18 9 15 false,lmg 20 0 78 15 false,Ao 21 20 0 15 false,AM 22 80 21 1 0 15 false,Aa 23 3 22 3 15 false,BQ 24 9 19 23 5 15 false,lg 25 (.binOp .neq 5 (AE 24) (.const (.int .u8 43)) 5) 4 15 false,Ak 26 15 25 4]
abbrev Tj:List LO:=[Bd 2 (.const (.slice none 0 0)) 32]
abbrev Tk:List LO:=[lm 27 0 78,AH 28 27 0,AA 29 80 28 1 0,AF 30 3 29 3,Af 31 3 30 1 3 3,AH 32 27 0,AA 33 80 32 1 0,AO 3 33 31 0]
abbrev Tl:List LO:=[lm 34 0 78,AN 35 80 #[AE 34,.const (.int .i64 5)] #[78,3] 4]
abbrev Tm:List LO:=[lm 36 0 78,AN 37 85 #[AE 36,.const (.int .i64 5)] #[78,3] 9,AB 4 37 9]
abbrev Tn:List LO:=[lm 38 4 9,AN 39 69 #[AE 38,.const (.int .i64 0),.const (.int .i64 1)] #[9,3,3] 3,lm 40 4 9,Ai 41 #[AE 40] #[9] 3,CV 42 3 39 41 3 4]
abbrev To:List LO:=[lm 43 4 9,AN 44 86 #[AE 43] #[9] 9,AB 4 44 9]
abbrev Rv:List LO:=[lm 45 3 32,lm 46 4 9,lo 47 (.buildSlice 32 1 #[(0,AE 46)]) 32,DP 48 #[AE 45,AE 47] #[32,32] 32,AB 3 48 32]
abbrev Rw:List LO:=[lm 49 0 78,AN 50 83 #[AE 49] #[78] 4,BR 51 4 50 4,lm 52 51 4,lmg 53 0 78 52 false,Ao 54 53 0 52 false,AM 55 80 54 1 0 52 false,Aa 56 3 55 3 52 false,CL 57 3 56 1 3 3 52 false,lmg 58 0 78 52 false,Ao 59 58 0 52 false,AM 60 80 59 0 0 52 false,Aa 61 9 60 9 52 false,BF 62 #[AE 61] #[9] 3 52 false,lg 63 (.binOp .geq 3 (AE 57) (AE 62) 3) 4 52 false,Ak 64 52 63 4,lm 65 64 4,lmg 66 0 78 65 false,Ao 67 66 0 65 false,AM 68 80 67 0 0 65 false,Aa 69 9 68 9 65 false,lmg 70 0 78 65 false,Ao 71 70 0 65 false,AM 72 80 71 1 0 65 false,Aa 73 3 72 3 65 false,CL 74 3 73 1 3 3 65 false,BQ 75 9 69 74 5 65 false,A7 76 71 #[AE 75,.const (.int .i64 5)] #[5,3] 4 65 false,Ay 77 4 76 4 65 false,Ak 78 65 77 4]
abbrev Rx:List LO:=[lm 79 3 32,AB 2 79 32]
abbrev Ry:List LO:=[lm 80 0 78,AH 81 80 0,AA 82 80 81 1 0,AF 83 3 82 3,Af 84 3 83 1 3 3,AH 85 80 0,AA 86 80 85 1 0,AO 3 86 84 0]
abbrev Rz:List LO:=[lm 87 3 32,AB 2 87 32]
abbrev L6:LC:=.seq (.reg false Tg) (.seq (.reg false Th) (.seq (.seq (.reg true Ti) (.cond (AE 26) (.seq (.reg false Tj) .ret) .skip)) (.seq (.reg false Tk) (.seq (.block 0 (.loop (.seq (.seq (.reg false Tl) (.cond (AE 35) .skip (.exit 0))) (.block 1 (.seq (.reg false Tm) (.seq (.seq (.reg false Tn) (.cond (AE 42) (.reg false To) .skip)) (.seq (.reg false Rv) (.seq (.seq (.reg true Rw) (.cond (AE 78) (.seq (.reg false Rx) .ret) .skip)) (.reg false Ry))))))))) (.seq (.reg false Rz) .ret)))))
theorem Uq:Bf E 56 88 [.tmp 2] L6:=Bp Go.Proofs.Tryz.f56
noncomputable def Cl (a0:Str):(Int × Int × Int × List Str)→Option (Step (Int × Int × Int × List Str) ((List Str × Int × Int × Int) ⊕ (List Str × Int × Int × Int))):=fun (x65,x66,x67,x68)=>Option.bind (EQ a0 x65 x66 x67 5) (fun (x94,x95,x96)=>(if x94=true then Option.bind (Ex a0 x65 x95 x96 5) (fun (x97,x98)=>Option.bind (Option.bind (Dy x97 0 1) (fun x102=>(if (x102 == (List.length x97:Int))=true then Option.bind (ES x97) (fun x103=>some x103) else some x97)):Option (Str)) (fun x101=>Option.bind (app 16 x68 [x101]) (fun x104=>Option.bind (CE a0 x98 x95 x96) (fun x105=>Option.bind (if ((!x105) || (decide ((w64 (x98 + 1))≥(List.length a0:Int))))=true then some true else Option.bind (idx a0 (w64 (x98 + 1))) (fun x109=>Option.bind (Ep x109 5) (fun x110=>some (!x110))):Option (Bool)) (fun x108=>(if x108=true then some (Step.done (Sum.inl (x104,x98,x95,x96))) else some (Step.next ((w64 (x98 + 1)),x95,x96,x104)))))))) else some (Step.done (Sum.inr (x68,x65,x95,x96)))))
abbrev HR (a0:Str) (a1:Int) (a2:Int) (a3:Int) (r:List Str × Int × Int × Int):CS:=⟨[V 2 (.osl 1 0 (List.length r.1) 1)],[W 0 4 [bs a0,iv r.2.1,iv r.2.2.1,iv r.2.2.2],(1,.rows 1 (List.map cS r.1))],2⟩
noncomputable def Ew (a0:Str) (a1:Int) (a2:Int) (a3:Int):Option (List Str × Int × Int × Int):=Option.bind (if (decide (a1≥(List.length a0:Int)))=true then some true else Option.bind (idx a0 a1) (fun x51=>some (x51 != 43)):Option (Bool)) (fun x50=>(if x50=true then some ([],a1,a2,a3) else Option.bind (CD (Cl a0) ((w64 (a1 + 1)),a2,a3,[])) (fun y=>match y with | Sum.inl (x86,x87,x88,x89)=>some (x86,x87,x88,x89) | Sum.inr (x90,x91,x92,x93)=>some (x90,x91,x92,x93))))
theorem Tf (a0:Str) (a1:Int) (a2:Int) (a3:Int):CtM E 56 [pt 0 4] [W 0 4 [bs a0,iv a1,iv a2,iv a3]] 1 (Ew a0 a1 a2 a3) (fun r:List Str × Int × Int × Int=>.osl 1 0 (List.length r.1) 1) (fun r:List Str × Int × Int × Int=>[W 0 4 [bs a0,iv r.2.1,iv r.2.2.1,iv r.2.2.2],(1,.rows 1 (List.map cS r.1))]) 2:=B5 (N:=88) (L:=L6) Uq rfl (Nat.le_of_ble_eq_true rfl) (fun F hF=>by
 unfold Ew
 refine jS ⟨[V 0 (pt 0 4)],[W 0 4 [bs a0,iv a1,iv a2,iv a3]],1⟩ ?_
 refine jS ⟨[V 0 (pt 0 4),V 3 (AQ)],[W 0 4 [bs a0,iv a1,iv a2,iv a3]],1⟩ ?_
 refine Aj (jR (jG 0 11 ⟨[V 0 (pt 0 4),V 3 (AQ),V 15 (bv (decide (a1≥(List.length a0:Int))))],[W 0 4 [bs a0,iv a1,iv a2,iv a3]],1⟩ ?_))
 refine A2 11 11 (fun x50=>⟨[V 0 (pt 0 4),V 3 (AQ),V 26 (bv x50)],[W 0 4 [bs a0,iv a1,iv a2,iv a3]],1⟩) ?_ ?_
 ·refine jSp 15 ?_ ?_
  ·refine jG 0 11 ⟨[V 0 (pt 0 4),V 3 (AQ),V 26 (bv true)],[W 0 4 [bs a0,iv a1,iv a2,iv a3]],1⟩ ?_
   exact Ad rfl (AU rfl (wkR [(0,some 0)] (An hF (k:=1) rfl) (pc (hC 0) AD)))
  refine jG 0 8 ⟨[V 0 (pt 0 4),V 3 (AQ),(15,.lit false),V 19 (bs a0),V 23 (iv a1)],[W 0 4 [bs a0,iv a1,iv a2,iv a3]],1⟩ ?_
  refine A5 (i:=8) (mo:=idx a0 a1) rfl rfl rfl rfl (fun _ hc=>Bq (kk:=.i64) (by kernel_rfl) (by kernel_rfl) (by kernel_rfl) hc) (fun _=>rfl) ?_
  intro x51 h51
  refine jG 9 2 ⟨[V 0 (pt 0 4),V 3 (AQ),V 26 (bv (x51 != 43))],[W 0 4 [bs a0,iv a1,iv a2,iv a3]],1⟩ ?_
  exact Ad rfl (AU rfl (wkR [(0,some 0)] (An hF (k:=1) rfl) (pc (hC 0) AD)))
 intro x50
 refine jN ?_
 refine jIf ?_ ?_
 ·refine jS ⟨[V 2 (AQ)],[W 0 4 [bs a0,iv a1,iv a2,iv a3]],1⟩ ?_
  exact Ae (Ar (BY (HR a0 a1 a2 a3 ([],a1,a2,a3)) (.inr rfl) (wkR [(0,some 0),(1,none)] (An hF (k:=1) rfl) (pc (hC 0) (pc hZ AD)))))
 refine Ah (Ab (jS ⟨[V 0 (pt 0 4),V 3 (AQ)],[W 0 4 [bs a0,iv (w64 (a1 + 1)),iv a2,iv a3]],1⟩ ?_))
 refine Aj (A4 ?_)
 refine BA (fun y=>match y with | Sum.inl (x86,x87,x88,x89)=>⟨[V 2 (.osl 1 0 (List.length x86) 1)],[W 0 4 [bs a0,iv x87,iv x88,iv x89],(1,.rows 1 (List.map cS x86))],2⟩ | Sum.inr (x90,x91,x92,x93)=>⟨[V 3 (.osl 1 0 (List.length x90) 1)],[W 0 4 [bs a0,iv x91,iv x92,iv x93],(1,.rows 1 (List.map cS x90))],2⟩) (fun y=>match y with | Sum.inl (x86,x87,x88,x89)=>.ret | Sum.inr (x90,x91,x92,x93)=>(.exit 0)) (C5 (fun (x65,x66,x67,x68)=>⟨[V 0 (pt 0 4),V 3 (.osl 1 0 (List.length x68) 1)],[W 0 4 [bs a0,iv x65,iv x66,iv x67],(1,.rows 1 (List.map cS x68))],2⟩) (wkR [(0,some 0),(1,none)] (An hF (k:=1) rfl) (pc (hC 0) (pc hZ AD))) ?_) ?_
 ·rintro⟨x65,x66,x67,x68⟩
  unfold Cl
  refine Aj (jR (jG 0 1 ⟨[V 0 (pt 0 4),V 3 (.osl 1 0 (List.length x68) 1),V 34 (pt 0 4)],[W 0 4 [bs a0,iv x65,iv x66,iv x67],(1,.rows 1 (List.map cS x68))],2⟩ ?_))
  refine BC 1 [(0,some 0)] [(0,some 0)] (fun r:Bool × Int × Int=>[W 0 4 [bs a0,iv x65,iv r.2.1,iv r.2.2],(1,.rows 1 (List.map cS x68))]) (fun r:Bool × Int × Int=>bv r.1) 2 (L9 a0 x65 x66 x67 5) (pc (hC 0) AD) (fun r=>(pc (.inr (hC 0)) (pc (.inl ⟨rfl,rfl⟩) AD))) ?_
  rintro⟨x94,x95,x96⟩ hm10
  refine jN ?_
  refine jIf ?_ ?_
  ·refine Ah (Ab (A4 (jR (jG 0 1 ⟨[V 0 (pt 0 4),V 3 (.osl 1 0 (List.length x68) 1),V 36 (pt 0 4)],[W 0 4 [bs a0,iv x65,iv x95,iv x96],(1,.rows 1 (List.map cS x68))],2⟩ ?_))))
   refine BC 1 [(0,some 0)] [(0,some 0)] (fun r:Str × Int=>[W 0 4 [bs a0,iv r.2,iv x95,iv x96],(1,.rows 1 (List.map cS x68))]) (fun r:Str × Int=>bs r.1) 2 (Mw a0 x65 x95 x96 5) (pc (hC 0) AD) (fun r=>(pc (.inr (hC 0)) (pc (.inl ⟨rfl,rfl⟩) AD))) ?_
   rintro⟨x97,x98⟩ hm9
   refine jG 2 1 ⟨[V 0 (pt 0 4),V 3 (.osl 1 0 (List.length x68) 1),V 4 (bs x97)],[W 0 4 [bs a0,iv x98,iv x95,iv x96],(1,.rows 1 (List.map cS x68))],2⟩ ?_
   refine jN (Aj ?_)
   refine BA (fun x101=>⟨[V 0 (pt 0 4),V 3 (.osl 1 0 (List.length x68) 1),V 4 (bs x101)],[W 0 4 [bs a0,iv x98,iv x95,iv x96],(1,.rows 1 (List.map cS x68))],2⟩) (fun x101=>.normal) ?_ ?_
   ·refine jR (jG 0 1 ⟨[V 0 (pt 0 4),V 3 (.osl 1 0 (List.length x68) 1),V 4 (bs x97),V 38 (bs x97)],[W 0 4 [bs a0,iv x98,iv x95,iv x96],(1,.rows 1 (List.map cS x68))],2⟩ ?_)
    refine jK 1 (E2 x97 0 1) ?_
    intro x102 h102
    refine jG 2 3 ⟨[V 0 (pt 0 4),V 3 (.osl 1 0 (List.length x68) 1),V 4 (bs x97),V 42 (bv (x102 == (List.length x97:Int)))],[W 0 4 [bs a0,iv x98,iv x95,iv x96],(1,.rows 1 (List.map cS x68))],2⟩ ?_
    refine jN ?_
    refine jIf ?_ ?_
    ·refine CY (jG 0 1 ⟨[V 0 (pt 0 4),V 3 (.osl 1 0 (List.length x68) 1),V 43 (bs x97)],[W 0 4 [bs a0,iv x98,iv x95,iv x96],(1,.rows 1 (List.map cS x68))],2⟩ ?_)
     refine jK 1 (Gu x97) ?_
     intro x103 h103
     refine jG 2 1 ⟨[V 0 (pt 0 4),V 3 (.osl 1 0 (List.length x68) 1),V 4 (bs x103)],[W 0 4 [bs a0,iv x98,iv x95,iv x96],(1,.rows 1 (List.map cS x68))],2⟩ ?_
     exact Ad rfl (AU rfl (wkR [(0,some 0),(1,some 1)] (An hF (k:=1) rfl) (pc (hC 0) (pc (hL 1 (AY BU _)) AD))))
    exact Ah (AU rfl (wkR [(0,some 0),(1,some 1)] (An hF (k:=1) rfl) (pc (hC 0) (pc (hL 1 (AY BU _)) AD))))
   intro x101
   refine Ab (jR (jG 0 3 ⟨[V 0 (pt 0 4),V 45 (.osl 1 0 (List.length x68) 1),V 47 (.osl 2 0 (List.length [x101]) 1)],[W 0 4 [bs a0,iv x98,iv x95,iv x96],(1,.rows 1 (List.map cS x68)),(2,.rows 1 (List.map cS [x101]))],3⟩ ?_))
   refine A5 (i:=3) (mo:=app 16 x68 [x101]) rfl rfl rfl rfl (fun _ hc=>LQ (u:=.osl 1 0 (List.length x68) 1) (w:=.osl 2 0 (List.length [x101]) 1) (e:=9) (td:=.slice 9) (by kernel_rfl) (by kernel_rfl) (by kernel_rfl) (by kernel_rfl) (.inl ⟨_,rfl⟩) (E5 (c:=cS) (sz:=1) (b:=16) (id:=1) (by kernel_rfl) (by kernel_rfl) (Oe (by kernel_rfl)) (List.cons_ne_nil _ _) hc)) (fun _=>rfl) ?_
   intro x104 h104
   refine jG 4 1 ⟨[V 0 (pt 0 4),V 3 (.osl 3 0 (List.length x104) 1)],[W 0 4 [bs a0,iv x98,iv x95,iv x96],(3,.rows 1 (List.map cS x104))],4⟩ ?_
   refine jN (Aj (jR (jG 0 1 ⟨[V 0 (pt 0 4),V 3 (.osl 3 0 (List.length x104) 1),V 49 (pt 0 4)],[W 0 4 [bs a0,iv x98,iv x95,iv x96],(3,.rows 1 (List.map cS x104))],4⟩ ?_)))
   refine By (i:=1) rfl rfl rfl rfl (vs:=[pt 0 4]) (vs0:=[.fptr [bs a0,iv x98,iv x95,iv x96] 0]) (b:=true) (by kernel_rfl) (by kernel_rfl) (AL (AP _) Ax) (D9 a0 x98 x95 x96) (fun _=>rfl) (fun _=>rfl) ?_
   intro x105 h105
   refine jG 2 15 ⟨[V 0 (pt 0 4),V 3 (.osl 3 0 (List.length x104) 1),V 65 (bv ((!x105) || (decide ((w64 (x98 + 1))≥(List.length a0:Int)))))],[W 0 4 [bs a0,iv x98,iv x95,iv x96],(3,.rows 1 (List.map cS x104))],4⟩ ?_
   refine A2 17 13 (fun x108=>⟨[V 0 (pt 0 4),V 3 (.osl 1 0 (List.length x104) 1),V 78 (bv x108)],[W 0 4 [bs a0,iv x98,iv x95,iv x96],(1,.rows 1 (List.map cS x104))],2⟩) ?_ ?_
   ·refine jSp 65 ?_ ?_
    ·refine jG 0 13 ⟨[V 0 (pt 0 4),V 3 (.osl 3 0 (List.length x104) 1),V 78 (bv true)],[W 0 4 [bs a0,iv x98,iv x95,iv x96],(3,.rows 1 (List.map cS x104))],4⟩ ?_
     exact Ad rfl (AU rfl (wkR [(0,some 0),(1,some 3)] (An hF (k:=1) rfl) (pc (hC 0) (pc (hL 3 (AY BU _)) AD))))
    refine jG 0 9 ⟨[V 0 (pt 0 4),V 3 (.osl 3 0 (List.length x104) 1),(65,.lit false),V 69 (bs a0),V 74 (iv (w64 (x98 + 1)))],[W 0 4 [bs a0,iv x98,iv x95,iv x96],(3,.rows 1 (List.map cS x104))],4⟩ ?_
    refine A5 (i:=9) (mo:=idx a0 (w64 (x98 + 1))) rfl rfl rfl rfl (fun _ hc=>Bq (kk:=.i64) (by kernel_rfl) (by kernel_rfl) (by kernel_rfl) hc) (fun _=>rfl) ?_
    intro x109 h109
    refine jK 10 (Gg x109 5) ?_
    intro x110 h110
    refine jG 11 2 ⟨[V 0 (pt 0 4),V 3 (.osl 3 0 (List.length x104) 1),V 78 (bv (!x110))],[W 0 4 [bs a0,iv x98,iv x95,iv x96],(3,.rows 1 (List.map cS x104))],4⟩ ?_
    exact Ad rfl (AU rfl (wkR [(0,some 0),(1,some 3)] (An hF (k:=1) rfl) (pc (hC 0) (pc (hL 3 (AY BU _)) AD))))
   intro x108
   refine jN ?_
   refine jIf ?_ ?_
   ·refine jS ⟨[V 2 (.osl 1 0 (List.length x104) 1)],[W 0 4 [bs a0,iv x98,iv x95,iv x96],(1,.rows 1 (List.map cS x104))],2⟩ ?_
    exact Ae (Ar (BG (Bm rfl nofun (wkR [(0,some 0),(1,some 1)] (An hF (k:=1) rfl) (pc (hC 0) (pc (hL 1 (AY BU _)) AD))))))
   refine Ah (Ab (jT ⟨[V 0 (pt 0 4),V 3 (.osl 1 0 (List.length x104) 1)],[W 0 4 [bs a0,iv (w64 (x98 + 1)),iv x95,iv x96],(1,.rows 1 (List.map cS x104))],2⟩ ?_))
   exact BX (C7 (wkR [(0,some 0),(1,some 1)] (An hF (k:=1) rfl) (pc (hC 0) (pc (hL 1 (AY BU _)) AD))))
  exact Cp (Cq (Bm rfl nofun (wkR [(0,some 0),(1,some 1)] (An hF (k:=1) rfl) (pc (hC 0) (pc (hL 1 (AY BU _)) AD)))))
 rintro (⟨x86,x87,x88,x89⟩ | ⟨x90,x91,x92,x93⟩)
 ·exact BG (Ar (BY (HR a0 a1 a2 a3 (x86,x87,x88,x89)) (.inr rfl) (wkR [(0,some 0),(1,some 1)] (An hF (k:=1) rfl) (pc (hC 0) (pc (hL 1 (AY BU _)) AD)))))
 refine C6 (Ab (jS ⟨[V 2 (.osl 1 0 (List.length x90) 1)],[W 0 4 [bs a0,iv x91,iv x92,iv x93],(1,.rows 1 (List.map cS x90))],2⟩ ?_))
 exact Ae (BY (HR a0 a1 a2 a3 (x90,x91,x92,x93)) (.inr rfl) (wkR [(0,some 0),(1,some 1)] (An hF (k:=1) rfl) (pc (hC 0) (pc (hL 1 (AY BU _)) AD)))))
abbrev U0:List LO:=[lm 6 0 78,AH 7 6 0,AA 8 80 7 1 0,AF 9 3 8 3,Af 10 3 9 1 3 3,lm 11 0 78,AH 12 11 0,AA 13 80 12 0 0,AF 14 9 13 9,Ai 15 #[AE 14] #[9] 3,Al 16 3 10 15 3 4,lm 17 16 4,lmg 18 0 78 17 true,Ao 19 18 0 17 true,AM 20 80 19 0 0 17 true,Aa 21 9 20 9 17 true,lmg 22 0 78 17 true,Ao 23 22 0 17 true,AM 24 80 23 1 0 17 true,Aa 25 3 24 3 17 true,BQ 26 9 21 25 5 17 true,A1 27 5 26 45 5 4 17 true,AS 28 17 27 4,lm 29 28 4,lmg 30 0 78 29 true,Ao 31 30 0 29 true,AM 32 80 31 0 0 29 true,Aa 33 9 32 9 29 true,lmg 34 0 78 29 true,Ao 35 34 0 29 true,AM 36 80 35 1 0 29 true,Aa 37 3 36 3 29 true,CL 38 3 37 1 3 3 29 true,BQ 39 9 33 38 5 29 true,A7 40 71 #[AE 39,.const (.int .i64 1)] #[5,3] 4 29 true,AS 41 29 40 4]
abbrev U1:List LO:=[lm 42 0 78,AH 43 42 0,AA 44 80 43 1 0,AF 45 3 44 3,Af 46 3 45 1 3 3,AH 47 42 0,AA 48 80 47 1 0,AO 3 48 46 0]
abbrev U2:List LO:=[lm 49 1 83,lm 50 1 83,lm 51 0 78,AN 52 79 #[AE 51] #[78] 9,AH 53 49 0,AA 54 34 53 4 0,Ds 4 54 0,AH 55 50 0,AA 56 34 55 5 0,AO 9 56 52 0]
abbrev U3:List LO:=[lm 58 0 78,lo 59 (.buildSlice 32 3 #[(0,.const (.string ⟨#[112,111,115,116]⟩)),(1,.const (.string ⟨#[114,101,118]⟩)),(2,.const (.string ⟨#[114]⟩))]) 32,AN 60 52 #[AE 58,AE 59] #[78,32] 58,lm 57 60 58,Aq 61 57 0 9,Aq 62 57 1 4,AB 4 61 9,AB 5 62 4]
abbrev U4:List LO:=[lm 63 5 4]
abbrev U5:List LO:=[lm 64 1 83,lm 65 1 83,lm 66 0 78,AN 67 54 #[AE 66] #[78] 9,AH 68 64 0,AA 69 34 68 4 0,Ds 4 69 0,AH 70 65 0,AA 71 34 70 5 0,AO 9 71 67 0]
abbrev Mv:LC:=.seq (.seq (.reg true U0) (.cond (AE 41) (.seq (.reg false U1) (.seq (.reg false U2) .ret)) .skip)) (.seq (.reg false U3) (.seq (.reg false U4) (.cond (AE 63) (.reg false U5) .skip)))
theorem VI:Bf E 55 72 [] Mv:=Bp Go.Proofs.Tryz.f55
abbrev Ht (a0:Str) (a1:Int) (a2:Int) (a3:Int) (a4:Str) (a5:List Str) (a6:Int) (a7:Str) (a8:Bool) (a9:Str) (a10:Bool) (a11:Str) (a12:List Str) (r:Int × Bool × Str):CS:=⟨[],[W 0 4 [bs a0,iv r.1,iv a2,iv a3],W 1 9 [bs a4,.osl 2 0 (List.length a5) 1,.s (.int .u8 a6),bs a7,bv r.2.1,bs r.2.2,bv a10,bs a11,.osl 3 0 (List.length a12) 1],(2,.rows 1 (List.map cS a5)),(3,.rows 1 (List.map cS a12))],4⟩
noncomputable def FS (a0:Str) (a1:Int) (a2:Int) (a3:Int) (a4:Str) (a5:List Str) (a6:Int) (a7:Str) (a8:Bool) (a9:Str) (a10:Bool) (a11:Str) (a12:List Str):Option (Int × Bool × Str):=Option.bind (if (decide ((w64 (a1 + 1)) < (List.length a0:Int)))=true then Option.bind (idx a0 a1) (fun x18=>some (x18 == 45)) else some false:Option (Bool)) (fun x17=>Option.bind (if x17=true then Option.bind (idx a0 (w64 (a1 + 1))) (fun x22=>Option.bind (Ep x22 1) (fun x23=>some x23)) else some false:Option (Bool)) (fun x21=>(if x21=true then Option.bind (Cr a0 (w64 (a1 + 1)) a2 a3) (fun (x24,x25)=>some (x25,true,x24)) else Option.bind (CO a0 a1 a2 a3 ([[112,111,115,116],[114,101,118],[114]])) (fun (x26,x27,x28)=>(if x27=true then Option.bind (Ca a0 x28 a2 a3) (fun (x29,x30)=>some (x30,true,x29)) else some (x28,a8,a9))))))
theorem UI (a0:Str) (a1:Int) (a2:Int) (a3:Int) (a4:Str) (a5:List Str) (a6:Int) (a7:Str) (a8:Bool) (a9:Str) (a10:Bool) (a11:Str) (a12:List Str):CtM E 55 [pt 0 4,pt 1 9] [W 0 4 [bs a0,iv a1,iv a2,iv a3],W 1 9 [bs a4,.osl 2 0 (List.length a5) 1,.s (.int .u8 a6),bs a7,bv a8,bs a9,bv a10,bs a11,.osl 3 0 (List.length a12) 1],(2,.rows 1 (List.map cS a5)),(3,.rows 1 (List.map cS a12))] 4 (FS a0 a1 a2 a3 a4 a5 a6 a7 a8 a9 a10 a11 a12) (fun r:Int × Bool × Str=>.tup []) (fun r:Int × Bool × Str=>[W 0 4 [bs a0,iv r.1,iv a2,iv a3],W 1 9 [bs a4,.osl 2 0 (List.length a5) 1,.s (.int .u8 a6),bs a7,bv r.2.1,bs r.2.2,bv a10,bs a11,.osl 3 0 (List.length a12) 1],(2,.rows 1 (List.map cS a5)),(3,.rows 1 (List.map cS a12))]) 4:=B5 (N:=72) (L:=Mv) VI rfl (Nat.le_of_ble_eq_true rfl) (fun F hF=>by
 unfold FS
 refine Aj (jR (jG 0 12 ⟨[V 0 (pt 0 4),V 1 (pt 1 9),V 17 (bv (decide ((w64 (a1 + 1)) < (List.length a0:Int))))],[W 0 4 [bs a0,iv a1,iv a2,iv a3],W 1 9 [bs a4,.osl 2 0 (List.length a5) 1,.s (.int .u8 a6),bs a7,bv a8,bs a9,bv a10,bs a11,.osl 3 0 (List.length a12) 1],(2,.rows 1 (List.map cS a5)),(3,.rows 1 (List.map cS a12))],4⟩ ?_))
 refine A2 12 11 (fun x17=>⟨[V 0 (pt 0 4),V 1 (pt 1 9),V 28 (bv x17)],[W 0 4 [bs a0,iv a1,iv a2,iv a3],W 1 9 [bs a4,.osl 2 0 (List.length a5) 1,.s (.int .u8 a6),bs a7,bv a8,bs a9,bv a10,bs a11,.osl 3 0 (List.length a12) 1],(2,.rows 1 (List.map cS a5)),(3,.rows 1 (List.map cS a12))],4⟩) ?_ ?_
 ·refine jSp 17 ?_ ?_
  ·refine jG 0 8 ⟨[V 0 (pt 0 4),V 1 (pt 1 9),(17,.lit true),V 21 (bs a0),V 25 (iv a1)],[W 0 4 [bs a0,iv a1,iv a2,iv a3],W 1 9 [bs a4,.osl 2 0 (List.length a5) 1,.s (.int .u8 a6),bs a7,bv a8,bs a9,bv a10,bs a11,.osl 3 0 (List.length a12) 1],(2,.rows 1 (List.map cS a5)),(3,.rows 1 (List.map cS a12))],4⟩ ?_
   refine A5 (i:=8) (mo:=idx a0 a1) rfl rfl rfl rfl (fun _ hc=>Bq (kk:=.i64) (by kernel_rfl) (by kernel_rfl) (by kernel_rfl) hc) (fun _=>rfl) ?_
   intro x18 h18
   refine jG 9 2 ⟨[V 0 (pt 0 4),V 1 (pt 1 9),V 28 (bv (x18 == 45))],[W 0 4 [bs a0,iv a1,iv a2,iv a3],W 1 9 [bs a4,.osl 2 0 (List.length a5) 1,.s (.int .u8 a6),bs a7,bv a8,bs a9,bv a10,bs a11,.osl 3 0 (List.length a12) 1],(2,.rows 1 (List.map cS a5)),(3,.rows 1 (List.map cS a12))],4⟩ ?_
   exact Ad rfl (AU rfl (wkR [(0,some 0),(1,some 1),(2,some 2),(3,some 3)] (An hF (k:=4) rfl) (pc (hC 0) (pc (hC 1) (pc (hL 2 (AY BU _)) (pc (hL 3 (AY BU _)) AD))))))
  refine jG 0 11 ⟨[V 0 (pt 0 4),V 1 (pt 1 9),V 28 (bv false)],[W 0 4 [bs a0,iv a1,iv a2,iv a3],W 1 9 [bs a4,.osl 2 0 (List.length a5) 1,.s (.int .u8 a6),bs a7,bv a8,bs a9,bv a10,bs a11,.osl 3 0 (List.length a12) 1],(2,.rows 1 (List.map cS a5)),(3,.rows 1 (List.map cS a12))],4⟩ ?_
  exact Ad rfl (AU rfl (wkR [(0,some 0),(1,some 1),(2,some 2),(3,some 3)] (An hF (k:=4) rfl) (pc (hC 0) (pc (hC 1) (pc (hL 2 (AY BU _)) (pc (hL 3 (AY BU _)) AD))))))
 intro x17
 refine jG 23 1 ⟨[V 0 (pt 0 4),V 1 (pt 1 9),V 29 (bv x17)],[W 0 4 [bs a0,iv a1,iv a2,iv a3],W 1 9 [bs a4,.osl 2 0 (List.length a5) 1,.s (.int .u8 a6),bs a7,bv a8,bs a9,bv a10,bs a11,.osl 3 0 (List.length a12) 1],(2,.rows 1 (List.map cS a5)),(3,.rows 1 (List.map cS a12))],4⟩ ?_
 refine A2 24 12 (fun x21=>⟨[V 0 (pt 0 4),V 1 (pt 1 9),V 41 (bv x21)],[W 0 4 [bs a0,iv a1,iv a2,iv a3],W 1 9 [bs a4,.osl 2 0 (List.length a5) 1,.s (.int .u8 a6),bs a7,bv a8,bs a9,bv a10,bs a11,.osl 3 0 (List.length a12) 1],(2,.rows 1 (List.map cS a5)),(3,.rows 1 (List.map cS a12))],4⟩) ?_ ?_
 ·refine jSp 29 ?_ ?_
  ·refine jG 0 9 ⟨[V 0 (pt 0 4),V 1 (pt 1 9),(29,.lit true),V 33 (bs a0),V 38 (iv (w64 (a1 + 1)))],[W 0 4 [bs a0,iv a1,iv a2,iv a3],W 1 9 [bs a4,.osl 2 0 (List.length a5) 1,.s (.int .u8 a6),bs a7,bv a8,bs a9,bv a10,bs a11,.osl 3 0 (List.length a12) 1],(2,.rows 1 (List.map cS a5)),(3,.rows 1 (List.map cS a12))],4⟩ ?_
   refine A5 (i:=9) (mo:=idx a0 (w64 (a1 + 1))) rfl rfl rfl rfl (fun _ hc=>Bq (kk:=.i64) (by kernel_rfl) (by kernel_rfl) (by kernel_rfl) hc) (fun _=>rfl) ?_
   intro x22 h22
   refine jK 10 (Gg x22 1) ?_
   intro x23 h23
   refine jG 11 1 ⟨[V 0 (pt 0 4),V 1 (pt 1 9),V 41 (bv x23)],[W 0 4 [bs a0,iv a1,iv a2,iv a3],W 1 9 [bs a4,.osl 2 0 (List.length a5) 1,.s (.int .u8 a6),bs a7,bv a8,bs a9,bv a10,bs a11,.osl 3 0 (List.length a12) 1],(2,.rows 1 (List.map cS a5)),(3,.rows 1 (List.map cS a12))],4⟩ ?_
   exact Ad rfl (AU rfl (wkR [(0,some 0),(1,some 1),(2,some 2),(3,some 3)] (An hF (k:=4) rfl) (pc (hC 0) (pc (hC 1) (pc (hL 2 (AY BU _)) (pc (hL 3 (AY BU _)) AD))))))
  refine jG 0 12 ⟨[V 0 (pt 0 4),V 1 (pt 1 9),V 41 (bv false)],[W 0 4 [bs a0,iv a1,iv a2,iv a3],W 1 9 [bs a4,.osl 2 0 (List.length a5) 1,.s (.int .u8 a6),bs a7,bv a8,bs a9,bv a10,bs a11,.osl 3 0 (List.length a12) 1],(2,.rows 1 (List.map cS a5)),(3,.rows 1 (List.map cS a12))],4⟩ ?_
  exact Ad rfl (AU rfl (wkR [(0,some 0),(1,some 1),(2,some 2),(3,some 3)] (An hF (k:=4) rfl) (pc (hC 0) (pc (hC 1) (pc (hL 2 (AY BU _)) (pc (hL 3 (AY BU _)) AD))))))
 intro x21
 refine jN ?_
 refine jIf ?_ ?_
 ·refine jS ⟨[V 0 (pt 0 4),V 1 (pt 1 9)],[W 0 4 [bs a0,iv (w64 (a1 + 1)),iv a2,iv a3],W 1 9 [bs a4,.osl 2 0 (List.length a5) 1,.s (.int .u8 a6),bs a7,bv a8,bs a9,bv a10,bs a11,.osl 3 0 (List.length a12) 1],(2,.rows 1 (List.map cS a5)),(3,.rows 1 (List.map cS a12))],4⟩ ?_
  refine jR (jG 0 3 ⟨[V 49 (pt 1 9),V 50 (pt 1 9),V 51 (pt 0 4)],[W 0 4 [bs a0,iv (w64 (a1 + 1)),iv a2,iv a3],W 1 9 [bs a4,.osl 2 0 (List.length a5) 1,.s (.int .u8 a6),bs a7,bv a8,bs a9,bv a10,bs a11,.osl 3 0 (List.length a12) 1],(2,.rows 1 (List.map cS a5)),(3,.rows 1 (List.map cS a12))],4⟩ ?_)
  refine BC 3 [(0,some 0)] [(0,some 0)] (fun r:Str × Int=>[W 0 4 [bs a0,iv r.2,iv a2,iv a3],W 1 9 [bs a4,.osl 2 0 (List.length a5) 1,.s (.int .u8 a6),bs a7,bv a8,bs a9,bv a10,bs a11,.osl 3 0 (List.length a12) 1],(2,.rows 1 (List.map cS a5)),(3,.rows 1 (List.map cS a12))]) (fun r:Str × Int=>bs r.1) 4 (EY a0 (w64 (a1 + 1)) a2 a3) (pc (hC 0) AD) (fun r=>(pc (.inr (hC 0)) (pc (.inl ⟨rfl,rfl⟩) (pc (.inl ⟨rfl,rfl⟩) (pc (.inl ⟨rfl,rfl⟩) AD))))) ?_
  rintro⟨x24,x25⟩ hm4
  refine jG 4 6 ⟨[],[W 0 4 [bs a0,iv x25,iv a2,iv a3],W 1 9 [bs a4,.osl 2 0 (List.length a5) 1,.s (.int .u8 a6),bs a7,bv true,bs x24,bv a10,bs a11,.osl 3 0 (List.length a12) 1],(2,.rows 1 (List.map cS a5)),(3,.rows 1 (List.map cS a12))],4⟩ ?_
  exact jN (Ae (Ar (BY (Ht a0 a1 a2 a3 a4 a5 a6 a7 a8 a9 a10 a11 a12 (x25,true,x24)) (.inr rfl) (wkR [(0,some 0),(1,some 1),(2,some 2),(3,some 3)] (An hF (k:=4) rfl) (pc (hC 0) (pc (hC 1) (pc (hL 2 (AY BU _)) (pc (hL 3 (AY BU _)) AD))))))))
 refine Ah (Ab (jR (jG 0 2 ⟨[V 0 (pt 0 4),V 1 (pt 1 9),V 58 (pt 0 4),V 59 (.osl 4 0 (List.length ([[112,111,115,116],[114,101,118],[114]])) 1)],[W 0 4 [bs a0,iv a1,iv a2,iv a3],W 1 9 [bs a4,.osl 2 0 (List.length a5) 1,.s (.int .u8 a6),bs a7,bv a8,bs a9,bv a10,bs a11,.osl 3 0 (List.length a12) 1],(2,.rows 1 (List.map cS a5)),(3,.rows 1 (List.map cS a12)),(4,.rows 1 (List.map cS ([[112,111,115,116],[114,101,118],[114]])))],5⟩ ?_)))
 refine BC 2 [(0,some 0),(1,some 4)] [(0,some 0),(4,some 1)] (fun r:Str × Bool × Int=>[W 0 4 [bs a0,iv r.2.2,iv a2,iv a3],W 1 9 [bs a4,.osl 2 0 (List.length a5) 1,.s (.int .u8 a6),bs a7,bv a8,bs a9,bv a10,bs a11,.osl 3 0 (List.length a12) 1],(2,.rows 1 (List.map cS a5)),(3,.rows 1 (List.map cS a12)),(4,.rows 1 (List.map cS ([[112,111,115,116],[114,101,118],[114]])))]) (fun r:Str × Bool × Int=>.tup [bs r.1,bv r.2.1]) 7 (HS a0 a1 a2 a3 ([[112,111,115,116],[114,101,118],[114]])) (pc (hC 0) (pc (hL 4 (AY BU _)) AD)) (fun r=>(pc (.inr (hC 0)) (pc (.inl ⟨rfl,rfl⟩) (pc (.inl ⟨rfl,rfl⟩) (pc (.inl ⟨rfl,rfl⟩) (pc (.inr (hL 1 (AY BU _))) AD)))))) ?_
 rintro⟨x26,x27,x28⟩ hm6
 refine jG 3 5 ⟨[V 0 (pt 0 4),V 1 (pt 1 9),V 5 (bv x27)],[W 0 4 [bs a0,iv x28,iv a2,iv a3],W 1 9 [bs a4,.osl 2 0 (List.length a5) 1,.s (.int .u8 a6),bs a7,bv a8,bs a9,bv a10,bs a11,.osl 3 0 (List.length a12) 1],(2,.rows 1 (List.map cS a5)),(3,.rows 1 (List.map cS a12))],7⟩ ?_
 refine jN (jS ⟨[V 0 (pt 0 4),V 1 (pt 1 9),V 63 (bv x27)],[W 0 4 [bs a0,iv x28,iv a2,iv a3],W 1 9 [bs a4,.osl 2 0 (List.length a5) 1,.s (.int .u8 a6),bs a7,bv a8,bs a9,bv a10,bs a11,.osl 3 0 (List.length a12) 1],(2,.rows 1 (List.map cS a5)),(3,.rows 1 (List.map cS a12))],7⟩ ?_)
 refine jIf ?_ ?_
 ·refine CY (jG 0 3 ⟨[V 64 (pt 1 9),V 65 (pt 1 9),V 66 (pt 0 4)],[W 0 4 [bs a0,iv x28,iv a2,iv a3],W 1 9 [bs a4,.osl 2 0 (List.length a5) 1,.s (.int .u8 a6),bs a7,bv a8,bs a9,bv a10,bs a11,.osl 3 0 (List.length a12) 1],(2,.rows 1 (List.map cS a5)),(3,.rows 1 (List.map cS a12))],7⟩ ?_)
  refine BC 3 [(0,some 0)] [(0,some 0)] (fun r:Str × Int=>[W 0 4 [bs a0,iv r.2,iv a2,iv a3],W 1 9 [bs a4,.osl 2 0 (List.length a5) 1,.s (.int .u8 a6),bs a7,bv a8,bs a9,bv a10,bs a11,.osl 3 0 (List.length a12) 1],(2,.rows 1 (List.map cS a5)),(3,.rows 1 (List.map cS a12))]) (fun r:Str × Int=>bs r.1) 7 (GZ a0 x28 a2 a3) (pc (hC 0) AD) (fun r=>(pc (.inr (hC 0)) (pc (.inl ⟨rfl,rfl⟩) (pc (.inl ⟨rfl,rfl⟩) (pc (.inl ⟨rfl,rfl⟩) AD))))) ?_
  rintro⟨x29,x30⟩ hm5
  refine jG 4 6 ⟨[],[W 0 4 [bs a0,iv x30,iv a2,iv a3],W 1 9 [bs a4,.osl 2 0 (List.length a5) 1,.s (.int .u8 a6),bs a7,bv true,bs x29,bv a10,bs a11,.osl 3 0 (List.length a12) 1],(2,.rows 1 (List.map cS a5)),(3,.rows 1 (List.map cS a12))],7⟩ ?_
  exact Ad rfl (BY (Ht a0 a1 a2 a3 a4 a5 a6 a7 a8 a9 a10 a11 a12 (x30,true,x29)) (.inl rfl) (wkR [(0,some 0),(1,some 1),(2,some 2),(3,some 3)] (An hF (k:=4) rfl) (pc (hC 0) (pc (hC 1) (pc (hL 2 (AY BU _)) (pc (hL 3 (AY BU _)) AD))))))
 exact Ah (BY (Ht a0 a1 a2 a3 a4 a5 a6 a7 a8 a9 a10 a11 a12 (x28,a8,a9)) (.inl rfl) (wkR [(0,some 0),(1,some 1),(2,some 2),(3,some 3)] (An hF (k:=4) rfl) (pc (hC 0) (pc (hC 1) (pc (hL 2 (AY BU _)) (pc (hL 3 (AY BU _)) AD)))))))
abbrev pJ:List LO:=[BH 2 34 0,BH 3 25 0]
abbrev pK:List LO:=[lm 10 0 9,Ai 11 #[AE 10] #[9] 3,DJ 12 3 11 64 3 4]
abbrev pL:List LO:=[lo 13 (.build 34 #[]) 34,lo 14 (.build 25 #[(0,.const (.int .i64 12)),(1,.const (.int .i64 64))]) 25,AO 34 2 13 0,AO 25 3 14 0]
abbrev pM:List LO:=[lm 15 0 9,AN 16 49 #[AE 15] #[9] 9,lo 17 (.build 80 #[(0,AE 16)]) 80,BT 18 80 17 78,AB 4 18 78]
abbrev pN:List LO:=[lm 19 4 78,AH 20 19 0,AA 21 80 20 1 0,AF 22 3 21 3,lm 23 4 78,AH 24 23 0,AA 25 80 24 0 0,AF 26 9 25 9,Ai 27 #[AE 26] #[9] 3,Al 28 3 22 27 3 4,lm 29 28 4,lmg 30 4 78 29 true,Ao 31 30 0 29 true,AM 32 80 31 0 0 29 true,Aa 33 9 32 9 29 true,lg 34 (.index 9 (AE 33) (.const (.int .i64 0))) 5 29 true,A1 35 5 34 118 5 4 29 true,AS 36 29 35 4]
abbrev pO:List LO:=[lm 37 4 78,AH 38 37 0,AA 39 80 38 1 0,AF 40 3 39 3,Af 41 3 40 1 3 3,AH 42 37 0,AA 43 80 42 1 0,AO 3 43 41 0]
abbrev pP:List LO:=[BH 5 34 0]
abbrev pQ:List LO:=[lm 44 4 78,AN 45 50 #[AE 44] #[78] 9,AA 46 34 5 0 0,AO 9 46 45 0]
abbrev pR:List LO:=[lm 47 4 78,AN 48 51 #[AE 47] #[78] 32,AA 49 34 5 1 0,AO 32 49 48 0]
abbrev hY:List LO:=[lm 51 4 78,lo 52 (.buildSlice 32 8 #[(0,.const (.string ⟨#[97,108,112,104,97]⟩)),(1,.const (.string ⟨#[97]⟩)),(2,.const (.string ⟨#[98,101,116,97]⟩)),(3,.const (.string ⟨#[98]⟩)),(4,.const (.string ⟨#[112,114,101,118,105,101,119]⟩)),(5,.const (.string ⟨#[112,114,101]⟩)),(6,.const (.string ⟨#[99]⟩)),(7,.const (.string ⟨#[114,99]⟩))]) 32,AN 53 52 #[AE 51,AE 52] #[78,32] 58,lm 50 53 58,Aq 54 50 0 9,Aq 55 50 1 4,AB 6 54 9,AB 7 55 4]
abbrev iA:List LO:=[lm 56 7 4]
abbrev iB:List LO:=[lm 57 6 9,lo 58 (.index 9 (AE 57) (.const (.int .i64 0))) 5,AA 59 34 5 2 0,AO 5 59 58 0]
abbrev iC:List LO:=[lm 60 6 9,lo 61 (.slice 9 (AE 60) none (some (.const (.int .i64 1))) none) 9,AN 62 53 #[AE 61,.const (.string ⟨#[99,112,114]⟩)] #[9,9] 4]
abbrev iD:List LO:=[AA 63 34 5 2 0,ln (.store 5 (AE 63) (.const (.int .u8 114))) 0]
abbrev iE:List LO:=[lm 64 4 78,AN 65 54 #[AE 64] #[78] 9,AA 66 34 5 3 0,AO 9 66 65 0]
abbrev iF:List LO:=[lm 67 4 78,AH 68 67 0,AA 69 80 68 2 0,AA 70 25 69 0 0,AF 71 23 70 23,Aw 72 23 71 0 23 4]
abbrev iG:List LO:=[lm 73 4 78,AN 74 55 #[AE 73,AE 5] #[78,83] 0]
abbrev iH:List LO:=[lm 76 4 78,lo 77 (.buildSlice 32 1 #[(0,.const (.string ⟨#[100,101,118]⟩))]) 32,AN 78 52 #[AE 76,AE 77] #[78,32] 58,lm 75 78 58,Aq 79 75 0 9,Aq 80 75 1 4,AB 8 79 9,AB 9 80 4]
abbrev iJ:List LO:=[lm 81 9 4]
abbrev iK:List LO:=[lm 82 4 78,AN 83 54 #[AE 82] #[78] 9,AA 84 34 5 6 0,Ds 4 84 0,AA 85 34 5 7 0,AO 9 85 83 0]
abbrev iL:List LO:=[lm 86 4 78,AH 87 86 0,AA 88 80 87 2 0,AA 89 25 88 0 0,AF 90 23 89 23,Aw 91 23 90 0 23 4]
abbrev iM:List LO:=[lm 92 4 78,AN 93 56 #[AE 92] #[78] 32,AA 94 34 5 8 0,AO 32 94 93 0]
abbrev iN:List LO:=[lm 95 4 78,AH 96 95 0,AA 97 80 96 2 0,AA 98 25 97 0 0,AF 99 23 98 23,Aw 100 23 99 0 23 4,lm 101 100 4,lmg 102 4 78 101 true,Ao 103 102 0 101 true,AM 104 80 103 1 0 101 true,Aa 105 3 104 3 101 true,lmg 106 4 78 101 true,Ao 107 106 0 101 true,AM 108 80 107 0 0 101 true,Aa 109 9 108 9 101 true,BF 110 #[AE 109] #[9] 3 101 true,lg 111 (.binOp .lss 3 (AE 105) (AE 110) 3) 4 101 true,AS 112 101 111 4]
abbrev iO:List LO:=[lm 113 4 78,lm 114 4 78,AH 115 114 0,AA 116 80 115 1 0,AF 117 3 116 3,lo 118 (.build 25 #[(0,.const (.int .i64 10)),(1,AE 117)]) 25,AH 119 113 0,AA 120 80 119 2 0,AO 25 120 118 0]
abbrev iP:List LO:=[lm 121 4 78,AH 122 121 0,AA 123 80 122 2 0,AA 124 25 123 0 0,AF 125 23 124 23,BM 126 23 125 0 23 4]
abbrev iQ:List LO:=[lo 127 (.build 34 #[]) 34,lm 128 4 78,AH 129 128 0,AA 130 80 129 2 0,AF 131 25 130 25,AO 34 2 127 0,AO 25 3 131 0]
abbrev iR:List LO:=[AF 132 34 5 34,lo 133 (.build 25 #[]) 25,AO 34 2 132 0,AO 25 3 133 0]
noncomputable abbrev u5:LC:=.seq (.reg false pJ) (.seq (.seq (.reg false pK) (.cond (.tmp 12) (.seq (.reg false pL) .ret) .skip)) (.seq (.reg false pM) (.seq (.seq (.reg true pN) (.cond (.tmp 36) (.reg false pO) .skip)) (.seq (.reg false pP) (.seq (.reg false pQ) (.seq (.reg false pR) (.seq (.seq (.reg false hY) (.seq (.reg false iA) (.cond (.tmp 56) (.seq (.reg false iB) (.seq (.seq (.reg false iC) (.cond (.tmp 62) (.reg false iD) .skip)) (.reg false iE))) .skip))) (.seq (.seq (.reg false iF) (.cond (.tmp 72) (.reg false iG) .skip)) (.seq (.seq (.reg false iH) (.seq (.reg false iJ) (.cond (.tmp 81) (.reg false iK) .skip))) (.seq (.seq (.reg false iL) (.cond (.tmp 91) (.reg false iM) .skip)) (.seq (.seq (.reg true iN) (.cond (.tmp 112) (.reg false iO) .skip)) (.seq (.seq (.reg false iP) (.cond (.tmp 126) (.seq (.full (fK (EE (G0 Go.Proofs.Tryz.f31) [1,1,1,1,1,1,1,1,1,1,1,1,0,1,0,0]))) .ret) .skip)) (.seq (.reg false iR) .ret)))))))))))))
theorem u6:Bf E 31 134 [.cell 2 34,.cell 3 25] u5:=Bp Go.Proofs.Tryz.f31
noncomputable def Gp (a0:Str):Option (Ac × C9):=(if (decide ((List.length a0:Int) > 64))=true then some ((Ac.mk [] [] 0 [] false [] false [] []),(C9.mk 12 64)) else Option.bind (Gh a0) (fun x1=>Option.bind (Option.bind (if (decide (0 < (List.length x1:Int)))=true then Option.bind (idx x1 0) (fun x7=>some (x7 == 118)) else some false:Option (Bool)) (fun x6=>(if x6=true then some (w64 (0 + 1)) else some 0)):Option (Int)) (fun x4=>Option.bind (Ev x1 x4 0 0) (fun (x8,x9)=>Option.bind (EA x1 x9 0 0) (fun (x10,x11,x12,x13)=>Option.bind (Option.bind (CO x1 x11 x12 x13 ([[97,108,112,104,97],[97],[98,101,116,97],[98],[112,114,101,118,105,101,119],[112,114,101],[99],[114,99]])) (fun (x26,x27,x28)=>(if x27=true then Option.bind (idx x26 0) (fun x29=>Option.bind (Option.bind (E0 x26 0 1) (fun x33=>Option.bind (strings_ContainsAny x33 [99,112,114]) (fun x34=>(if x34=true then some 114 else some x29))):Option (Int)) (fun x32=>Option.bind (Ca x1 x28 x12 x13) (fun (x35,x36)=>some (x36,x32,x35)))) else some (x28,0,[]))):Option (Int × Int × Str)) (fun (x23,x24,x25)=>Option.bind ((if (x12 == 0)=true then Option.bind (FS x1 x23 x12 x13 x8 x10 x24 x25 false [] false [] ([]:List Str)) (fun (x44,x45,x46)=>some (x44,x45,x46,([]:List Str))) else some (x23,false,[],[])):Option (Int × Bool × Str × List Str)) (fun (x40,x41,x42,x43)=>Option.bind (Option.bind (CO x1 x40 x12 x13 ([[100,101,118]])) (fun (x55,x56,x57)=>(if x56=true then Option.bind (Ca x1 x57 x12 x13) (fun (x58,x59)=>some (x59,true,x58)) else some (x57,false,[]))):Option (Int × Bool × Str)) (fun (x52,x53,x54)=>Option.bind ((if (x12 == 0)=true then Option.bind (Ew x1 x52 x12 x13) (fun (x68,x69,x70,x71)=>some (x69,x70,x71,x68)) else some (x52,x12,x13,x43)):Option (Int × Int × Int × List Str)) (fun (x64,x65,x66,x67)=>Option.bind ((if ((x65 == 0) && (decide (x64 < (List.length x1:Int))))=true then some (10,x64) else some (x65,x66)):Option (Int × Int)) (fun (x72,x73)=>(if (x72 != 0)=true then some ((Ac.mk [] [] 0 [] false [] false [] []),(C9.mk x72 x73)) else some ((Ac.mk x8 x10 x24 x25 x41 x42 x53 x54 x67),(C9.mk 0 0)))))))))))))
theorem Hr (a0:Str):Ct E 31 [bs a0] (Gp a0) (fun r:Ac × C9=>.tup [.agg (AJ r.1),.agg [iv r.2.Err,iv r.2.At]]):=CN u6 (by
 unfold Gp
 refine jS ⟨[V 0 (bs a0),V 2 (pt 0 9),V 3 (pt 1 2)],[W 0 9 [bs [],AQ,.s (.int .u8 0),bs [],bv false,bs [],bv false,bs [],AQ],W 1 2 [iv 0,iv 0]],2⟩ ?_
 refine Aj (jS ⟨[V 0 (bs a0),V 2 (pt 0 9),V 3 (pt 1 2),V 12 (bv (decide ((List.length a0:Int) > 64)))],[W 0 9 [bs [],AQ,.s (.int .u8 0),bs [],bv false,bs [],bv false,bs [],AQ],W 1 2 [iv 0,iv 0]],2⟩ ?_)
 refine jIf ?_ ?_
 ·refine jS ⟨[V 2 (pt 0 9),V 3 (pt 1 2)],[W 0 9 [bs [],AQ,.s (.int .u8 0),bs [],bv false,bs [],bv false,bs [],AQ],W 1 2 [iv 12,iv 64]],2⟩ ?_
  exact Ae (Ar (Hk (.inr rfl) (v:=.tup [.agg [bs [],AQ,.s (.int .u8 0),bs [],bv false,bs [],bv false,bs [],AQ],.agg [iv 12,iv 64]]) (by kernel_rfl) (Jv (AR (Gw (AR rfl (AR rfl (AR rfl (AR rfl (AR rfl (AR rfl (AR rfl (AR rfl (AR rfl (BL _))))))))))) (AR rfl (BL _)))) (O4 (AL (LT (AL (AP _) (AL (HH _) (AL (AP _) (AL (AP _) (AL (AP _) (AL (AP _) (AL (AP _) (AL (AP _) (AL (HH _) Ax)))))))))) (AL (AP _) Ax)))))
 refine Ah (Ab (jR (jG 0 1 ⟨[V 2 (pt 0 9),V 3 (pt 1 2),V 15 (bs a0)],[W 0 9 [bs [],AQ,.s (.int .u8 0),bs [],bv false,bs [],bv false,bs [],AQ],W 1 2 [iv 0,iv 0]],2⟩ ?_)))
 refine jK 1 (J8 a0) ?_
 intro x1 h1
 refine jG 2 3 ⟨[V 2 (pt 0 9),V 3 (pt 1 2),V 4 (pt 2 4)],[W 0 9 [bs [],AQ,.s (.int .u8 0),bs [],bv false,bs [],bv false,bs [],AQ],W 1 2 [iv 0,iv 0],W 2 4 [bs x1,iv 0,iv 0,iv 0]],3⟩ ?_
 refine jN (Aj ?_)
 refine BA (fun x4=>⟨[V 2 (pt 0 9),V 3 (pt 1 2),V 4 (pt 2 4)],[W 0 9 [bs [],AQ,.s (.int .u8 0),bs [],bv false,bs [],bv false,bs [],AQ],W 1 2 [iv 0,iv 0],W 2 4 [bs x1,iv x4,iv 0,iv 0]],3⟩) (fun x4=>.normal) ?_ ?_
 ·refine jR (jG 0 11 ⟨[V 2 (pt 0 9),V 3 (pt 1 2),V 4 (pt 2 4),V 29 (bv (decide (0 < (List.length x1:Int))))],[W 0 9 [bs [],AQ,.s (.int .u8 0),bs [],bv false,bs [],bv false,bs [],AQ],W 1 2 [iv 0,iv 0],W 2 4 [bs x1,iv 0,iv 0,iv 0]],3⟩ ?_)
  refine A2 11 7 (fun x6=>⟨[V 2 (pt 0 9),V 3 (pt 1 2),V 4 (pt 2 4),V 36 (bv x6)],[W 0 9 [bs [],AQ,.s (.int .u8 0),bs [],bv false,bs [],bv false,bs [],AQ],W 1 2 [iv 0,iv 0],W 2 4 [bs x1,iv 0,iv 0,iv 0]],3⟩) ?_ ?_
  ·refine jSp 29 ?_ ?_
   ·refine jG 0 4 ⟨[V 2 (pt 0 9),V 3 (pt 1 2),V 4 (pt 2 4),(29,.lit true),V 33 (bs x1)],[W 0 9 [bs [],AQ,.s (.int .u8 0),bs [],bv false,bs [],bv false,bs [],AQ],W 1 2 [iv 0,iv 0],W 2 4 [bs x1,iv 0,iv 0,iv 0]],3⟩ ?_
    refine A5 (i:=4) (mo:=idx x1 0) rfl rfl rfl rfl (fun _ hc=>Bq (kk:=.i64) (by kernel_rfl) (by kernel_rfl) (by kernel_rfl) hc) (fun _=>rfl) ?_
    intro x7 h7
    refine jG 5 2 ⟨[V 2 (pt 0 9),V 3 (pt 1 2),V 4 (pt 2 4),V 36 (bv (x7 == 118))],[W 0 9 [bs [],AQ,.s (.int .u8 0),bs [],bv false,bs [],bv false,bs [],AQ],W 1 2 [iv 0,iv 0],W 2 4 [bs x1,iv 0,iv 0,iv 0]],3⟩ ?_
    exact Ad rfl (AU rfl (wkR [(0,some 0),(1,some 1),(2,some 2)] (Am _) (pc (hC 0) (pc (hC 1) (pc (hC 2) AD)))))
   refine jG 0 7 ⟨[V 2 (pt 0 9),V 3 (pt 1 2),V 4 (pt 2 4),V 36 (bv false)],[W 0 9 [bs [],AQ,.s (.int .u8 0),bs [],bv false,bs [],bv false,bs [],AQ],W 1 2 [iv 0,iv 0],W 2 4 [bs x1,iv 0,iv 0,iv 0]],3⟩ ?_
   exact Ad rfl (AU rfl (wkR [(0,some 0),(1,some 1),(2,some 2)] (Am _) (pc (hC 0) (pc (hC 1) (pc (hC 2) AD)))))
  intro x6
  refine jN ?_
  refine jIf ?_ ?_
  ·refine jT ⟨[V 2 (pt 0 9),V 3 (pt 1 2),V 4 (pt 2 4)],[W 0 9 [bs [],AQ,.s (.int .u8 0),bs [],bv false,bs [],bv false,bs [],AQ],W 1 2 [iv 0,iv 0],W 2 4 [bs x1,iv (w64 (0 + 1)),iv 0,iv 0]],3⟩ ?_
   exact AU rfl (wkR [(0,some 0),(1,some 1),(2,some 2)] (Am _) (pc (hC 0) (pc (hC 1) (pc (hC 2) AD))))
  exact Ah (AU rfl (wkR [(0,some 0),(1,some 1),(2,some 2)] (Am _) (pc (hC 0) (pc (hC 1) (pc (hC 2) AD)))))
 intro x4
 refine Ab (jS ⟨[V 2 (pt 0 9),V 3 (pt 1 2),V 4 (pt 2 4),V 5 (pt 3 9)],[W 0 9 [bs [],AQ,.s (.int .u8 0),bs [],bv false,bs [],bv false,bs [],AQ],W 1 2 [iv 0,iv 0],W 2 4 [bs x1,iv x4,iv 0,iv 0],W 3 9 [bs [],AQ,.s (.int .u8 0),bs [],bv false,bs [],bv false,bs [],AQ]],4⟩ ?_)
 refine jR (jG 0 1 ⟨[V 2 (pt 0 9),V 3 (pt 1 2),V 4 (pt 2 4),V 5 (pt 3 9),V 44 (pt 2 4)],[W 0 9 [bs [],AQ,.s (.int .u8 0),bs [],bv false,bs [],bv false,bs [],AQ],W 1 2 [iv 0,iv 0],W 2 4 [bs x1,iv x4,iv 0,iv 0],W 3 9 [bs [],AQ,.s (.int .u8 0),bs [],bv false,bs [],bv false,bs [],AQ]],4⟩ ?_)
 refine BC 1 [(0,some 2)] [(2,some 0)] (fun r:Str × Int=>[W 0 9 [bs [],AQ,.s (.int .u8 0),bs [],bv false,bs [],bv false,bs [],AQ],W 1 2 [iv 0,iv 0],W 2 4 [bs x1,iv r.2,iv 0,iv 0],W 3 9 [bs [],AQ,.s (.int .u8 0),bs [],bv false,bs [],bv false,bs [],AQ]]) (fun r:Str × Int=>bs r.1) 4 (TX x1 x4 0 0) (pc (hC 2) AD) (fun r=>(pc (.inl ⟨rfl,rfl⟩) (pc (.inl ⟨rfl,rfl⟩) (pc (.inr (hC 0)) (pc (.inl ⟨rfl,rfl⟩) AD))))) ?_
 rintro⟨x8,x9⟩ hm14
 refine jG 2 2 ⟨[V 2 (pt 0 9),V 3 (pt 1 2),V 4 (pt 2 4),V 5 (pt 3 9)],[W 0 9 [bs [],AQ,.s (.int .u8 0),bs [],bv false,bs [],bv false,bs [],AQ],W 1 2 [iv 0,iv 0],W 2 4 [bs x1,iv x9,iv 0,iv 0],W 3 9 [bs x8,AQ,.s (.int .u8 0),bs [],bv false,bs [],bv false,bs [],AQ]],4⟩ ?_
 refine jN (jR (jG 0 1 ⟨[V 2 (pt 0 9),V 3 (pt 1 2),V 4 (pt 2 4),V 5 (pt 3 9),V 47 (pt 2 4)],[W 0 9 [bs [],AQ,.s (.int .u8 0),bs [],bv false,bs [],bv false,bs [],AQ],W 1 2 [iv 0,iv 0],W 2 4 [bs x1,iv x9,iv 0,iv 0],W 3 9 [bs x8,AQ,.s (.int .u8 0),bs [],bv false,bs [],bv false,bs [],AQ]],4⟩ ?_))
 refine BC 1 [(0,some 2)] [(2,some 0),(4,some 1)] (fun r:List Str × Int × Int × Int=>[W 0 9 [bs [],AQ,.s (.int .u8 0),bs [],bv false,bs [],bv false,bs [],AQ],W 1 2 [iv 0,iv 0],W 2 4 [bs x1,iv r.2.1,iv r.2.2.1,iv r.2.2.2],W 3 9 [bs x8,AQ,.s (.int .u8 0),bs [],bv false,bs [],bv false,bs [],AQ],(4,.rows 1 (List.map cS r.1))]) (fun r:List Str × Int × Int × Int=>.osl 4 0 (List.length r.1) 1) 5 (Qa x1 x9 0 0) (pc (hC 2) AD) (fun r=>(pc (.inl ⟨rfl,rfl⟩) (pc (.inl ⟨rfl,rfl⟩) (pc (.inr (hC 0)) (pc (.inl ⟨rfl,rfl⟩) (pc (.inr (hL 1 (AY BU _))) AD)))))) ?_
 rintro⟨x10,x11,x12,x13⟩ hm13
 refine jG 2 2 ⟨[V 2 (pt 0 9),V 3 (pt 1 2),V 4 (pt 2 4),V 5 (pt 3 9)],[W 0 9 [bs [],AQ,.s (.int .u8 0),bs [],bv false,bs [],bv false,bs [],AQ],W 1 2 [iv 0,iv 0],W 2 4 [bs x1,iv x11,iv x12,iv x13],W 3 9 [bs x8,.osl 4 0 (List.length x10) 1,.s (.int .u8 0),bs [],bv false,bs [],bv false,bs [],AQ],(4,.rows 1 (List.map cS x10))],5⟩ ?_
 refine jN (Aj ?_)
 refine BA (fun (x23,x24,x25)=>⟨[V 2 (pt 0 9),V 3 (pt 1 2),V 4 (pt 2 4),V 5 (pt 3 9)],[W 0 9 [bs [],AQ,.s (.int .u8 0),bs [],bv false,bs [],bv false,bs [],AQ],W 1 2 [iv 0,iv 0],W 2 4 [bs x1,iv x23,iv x12,iv x13],W 3 9 [bs x8,.osl 4 0 (List.length x10) 1,.s (.int .u8 x24),bs x25,bv false,bs [],bv false,bs [],AQ],(4,.rows 1 (List.map cS x10))],5⟩) (fun (x23,x24,x25)=>.normal) ?_ ?_
 ·refine jR (jG 0 2 ⟨[V 2 (pt 0 9),V 3 (pt 1 2),V 4 (pt 2 4),V 5 (pt 3 9),V 51 (pt 2 4),V 52 (.osl 5 0 (List.length ([[97,108,112,104,97],[97],[98,101,116,97],[98],[112,114,101,118,105,101,119],[112,114,101],[99],[114,99]])) 1)],[W 0 9 [bs [],AQ,.s (.int .u8 0),bs [],bv false,bs [],bv false,bs [],AQ],W 1 2 [iv 0,iv 0],W 2 4 [bs x1,iv x11,iv x12,iv x13],W 3 9 [bs x8,.osl 4 0 (List.length x10) 1,.s (.int .u8 0),bs [],bv false,bs [],bv false,bs [],AQ],(4,.rows 1 (List.map cS x10)),(5,.rows 1 (List.map cS ([[97,108,112,104,97],[97],[98,101,116,97],[98],[112,114,101,118,105,101,119],[112,114,101],[99],[114,99]])))],6⟩ ?_)
  refine BC 2 [(0,some 2),(1,some 5)] [(2,some 0),(5,some 1)] (fun r:Str × Bool × Int=>[W 0 9 [bs [],AQ,.s (.int .u8 0),bs [],bv false,bs [],bv false,bs [],AQ],W 1 2 [iv 0,iv 0],W 2 4 [bs x1,iv r.2.2,iv x12,iv x13],W 3 9 [bs x8,.osl 4 0 (List.length x10) 1,.s (.int .u8 0),bs [],bv false,bs [],bv false,bs [],AQ],(4,.rows 1 (List.map cS x10)),(5,.rows 1 (List.map cS ([[97,108,112,104,97],[97],[98,101,116,97],[98],[112,114,101,118,105,101,119],[112,114,101],[99],[114,99]])))]) (fun r:Str × Bool × Int=>.tup [bs r.1,bv r.2.1]) 8 (HS x1 x11 x12 x13 ([[97,108,112,104,97],[97],[98,101,116,97],[98],[112,114,101,118,105,101,119],[112,114,101],[99],[114,99]])) (pc (hC 2) (pc (hL 5 (AY BU _)) AD)) (fun r=>(pc (.inl ⟨rfl,rfl⟩) (pc (.inl ⟨rfl,rfl⟩) (pc (.inr (hC 0)) (pc (.inl ⟨rfl,rfl⟩) (pc (.inl ⟨rfl,rfl⟩) (pc (.inr (hL 1 (AY BU _))) AD))))))) ?_
  rintro⟨x26,x27,x28⟩ hm4
  refine jG 3 5 ⟨[V 2 (pt 0 9),V 3 (pt 1 2),V 4 (pt 2 4),V 5 (pt 3 9),V 6 (bs x26),V 7 (bv x27)],[W 0 9 [bs [],AQ,.s (.int .u8 0),bs [],bv false,bs [],bv false,bs [],AQ],W 1 2 [iv 0,iv 0],W 2 4 [bs x1,iv x28,iv x12,iv x13],W 3 9 [bs x8,.osl 4 0 (List.length x10) 1,.s (.int .u8 0),bs [],bv false,bs [],bv false,bs [],AQ],(4,.rows 1 (List.map cS x10))],8⟩ ?_
  refine jN (jS ⟨[V 2 (pt 0 9),V 3 (pt 1 2),V 4 (pt 2 4),V 5 (pt 3 9),V 6 (bs x26),V 56 (bv x27)],[W 0 9 [bs [],AQ,.s (.int .u8 0),bs [],bv false,bs [],bv false,bs [],AQ],W 1 2 [iv 0,iv 0],W 2 4 [bs x1,iv x28,iv x12,iv x13],W 3 9 [bs x8,.osl 4 0 (List.length x10) 1,.s (.int .u8 0),bs [],bv false,bs [],bv false,bs [],AQ],(4,.rows 1 (List.map cS x10))],8⟩ ?_)
  refine jIf ?_ ?_
  ·refine jR (jG 0 1 ⟨[V 2 (pt 0 9),V 3 (pt 1 2),V 4 (pt 2 4),V 5 (pt 3 9),V 6 (bs x26),V 57 (bs x26)],[W 0 9 [bs [],AQ,.s (.int .u8 0),bs [],bv false,bs [],bv false,bs [],AQ],W 1 2 [iv 0,iv 0],W 2 4 [bs x1,iv x28,iv x12,iv x13],W 3 9 [bs x8,.osl 4 0 (List.length x10) 1,.s (.int .u8 0),bs [],bv false,bs [],bv false,bs [],AQ],(4,.rows 1 (List.map cS x10))],8⟩ ?_)
   refine A5 (i:=1) (mo:=idx x26 0) rfl rfl rfl rfl (fun _ hc=>Bq (kk:=.i64) (by kernel_rfl) (by kernel_rfl) (by kernel_rfl) hc) (fun _=>rfl) ?_
   intro x29 h29
   refine jG 2 2 ⟨[V 2 (pt 0 9),V 3 (pt 1 2),V 4 (pt 2 4),V 5 (pt 3 9),V 6 (bs x26)],[W 0 9 [bs [],AQ,.s (.int .u8 0),bs [],bv false,bs [],bv false,bs [],AQ],W 1 2 [iv 0,iv 0],W 2 4 [bs x1,iv x28,iv x12,iv x13],W 3 9 [bs x8,.osl 4 0 (List.length x10) 1,.s (.int .u8 x29),bs [],bv false,bs [],bv false,bs [],AQ],(4,.rows 1 (List.map cS x10))],8⟩ ?_
   refine jN (Aj ?_)
   refine BA (fun x32=>⟨[V 2 (pt 0 9),V 3 (pt 1 2),V 4 (pt 2 4),V 5 (pt 3 9)],[W 0 9 [bs [],AQ,.s (.int .u8 0),bs [],bv false,bs [],bv false,bs [],AQ],W 1 2 [iv 0,iv 0],W 2 4 [bs x1,iv x28,iv x12,iv x13],W 3 9 [bs x8,.osl 4 0 (List.length x10) 1,.s (.int .u8 x32),bs [],bv false,bs [],bv false,bs [],AQ],(4,.rows 1 (List.map cS x10))],5⟩) (fun x32=>.normal) ?_ ?_
   ·refine jR (jG 0 1 ⟨[V 2 (pt 0 9),V 3 (pt 1 2),V 4 (pt 2 4),V 5 (pt 3 9),V 60 (bs x26)],[W 0 9 [bs [],AQ,.s (.int .u8 0),bs [],bv false,bs [],bv false,bs [],AQ],W 1 2 [iv 0,iv 0],W 2 4 [bs x1,iv x28,iv x12,iv x13],W 3 9 [bs x8,.osl 4 0 (List.length x10) 1,.s (.int .u8 x29),bs [],bv false,bs [],bv false,bs [],AQ],(4,.rows 1 (List.map cS x10))],8⟩ ?_)
    refine A5 (i:=1) (mo:=E0 x26 0 1) rfl rfl rfl rfl (fun _ hc=>FP (by kernel_rfl) (by kernel_rfl) (by kernel_rfl) (by kernel_rfl) hc) (fun _=>rfl) ?_
    intro x33 h33
    refine mD (i:=2) rfl rfl (vs:=[bs x33,bs [99,112,114]]) (by kernel_rfl) rfl (QK x33 [99,112,114]) (fun _=>rfl) ?_
    intro x34 h34
    refine jN ?_
    refine jIf ?_ ?_
    ·refine jT ⟨[V 2 (pt 0 9),V 3 (pt 1 2),V 4 (pt 2 4),V 5 (pt 3 9)],[W 0 9 [bs [],AQ,.s (.int .u8 0),bs [],bv false,bs [],bv false,bs [],AQ],W 1 2 [iv 0,iv 0],W 2 4 [bs x1,iv x28,iv x12,iv x13],W 3 9 [bs x8,.osl 4 0 (List.length x10) 1,.s (.int .u8 114),bs [],bv false,bs [],bv false,bs [],AQ],(4,.rows 1 (List.map cS x10))],8⟩ ?_
     exact AU rfl (wkR [(0,some 0),(1,some 1),(2,some 2),(3,some 3),(4,some 4)] (Am _) (pc (hC 0) (pc (hC 1) (pc (hC 2) (pc (hC 3) (pc (hL 4 (AY BU _)) AD))))))
    exact Ah (AU rfl (wkR [(0,some 0),(1,some 1),(2,some 2),(3,some 3),(4,some 4)] (Am _) (pc (hC 0) (pc (hC 1) (pc (hC 2) (pc (hC 3) (pc (hL 4 (AY BU _)) AD)))))))
   intro x32
   refine Ab (CY (jG 0 1 ⟨[V 2 (pt 0 9),V 3 (pt 1 2),V 4 (pt 2 4),V 5 (pt 3 9),V 64 (pt 2 4)],[W 0 9 [bs [],AQ,.s (.int .u8 0),bs [],bv false,bs [],bv false,bs [],AQ],W 1 2 [iv 0,iv 0],W 2 4 [bs x1,iv x28,iv x12,iv x13],W 3 9 [bs x8,.osl 4 0 (List.length x10) 1,.s (.int .u8 x32),bs [],bv false,bs [],bv false,bs [],AQ],(4,.rows 1 (List.map cS x10))],5⟩ ?_))
   refine BC 1 [(0,some 2)] [(2,some 0)] (fun r:Str × Int=>[W 0 9 [bs [],AQ,.s (.int .u8 0),bs [],bv false,bs [],bv false,bs [],AQ],W 1 2 [iv 0,iv 0],W 2 4 [bs x1,iv r.2,iv x12,iv x13],W 3 9 [bs x8,.osl 4 0 (List.length x10) 1,.s (.int .u8 x32),bs [],bv false,bs [],bv false,bs [],AQ],(4,.rows 1 (List.map cS x10))]) (fun r:Str × Int=>bs r.1) 5 (GZ x1 x28 x12 x13) (pc (hC 2) AD) (fun r=>(pc (.inl ⟨rfl,rfl⟩) (pc (.inl ⟨rfl,rfl⟩) (pc (.inr (hC 0)) (pc (.inl ⟨rfl,rfl⟩) (pc (.inl ⟨rfl,rfl⟩) AD)))))) ?_
   rintro⟨x35,x36⟩ hm3
   refine jG 2 2 ⟨[V 2 (pt 0 9),V 3 (pt 1 2),V 4 (pt 2 4),V 5 (pt 3 9)],[W 0 9 [bs [],AQ,.s (.int .u8 0),bs [],bv false,bs [],bv false,bs [],AQ],W 1 2 [iv 0,iv 0],W 2 4 [bs x1,iv x36,iv x12,iv x13],W 3 9 [bs x8,.osl 4 0 (List.length x10) 1,.s (.int .u8 x32),bs x35,bv false,bs [],bv false,bs [],AQ],(4,.rows 1 (List.map cS x10))],5⟩ ?_
   exact Ad rfl (AU rfl (wkR [(0,some 0),(1,some 1),(2,some 2),(3,some 3),(4,some 4)] (Am _) (pc (hC 0) (pc (hC 1) (pc (hC 2) (pc (hC 3) (pc (hL 4 (AY BU _)) AD)))))))
  exact Ah (AU rfl (wkR [(0,some 0),(1,some 1),(2,some 2),(3,some 3),(4,some 4)] (Am _) (pc (hC 0) (pc (hC 1) (pc (hC 2) (pc (hC 3) (pc (hL 4 (AY BU _)) AD)))))))
 rintro⟨x23,x24,x25⟩
 refine Ab (Aj ?_)
 refine BA (fun (x40,x41,x42,x43)=>⟨[V 2 (pt 0 9),V 3 (pt 1 2),V 4 (pt 2 4),V 5 (pt 3 9)],[W 0 9 [bs [],AQ,.s (.int .u8 0),bs [],bv false,bs [],bv false,bs [],AQ],W 1 2 [iv 0,iv 0],W 2 4 [bs x1,iv x40,iv x12,iv x13],W 3 9 [bs x8,.osl 4 0 (List.length x10) 1,.s (.int .u8 x24),bs x25,bv x41,bs x42,bv false,bs [],.osl 5 0 (List.length x43) 1],(4,.rows 1 (List.map cS x10)),(5,.rows 1 (List.map cS x43))],6⟩) (fun (x40,x41,x42,x43)=>.normal) ?_ ?_
 ·refine jS ⟨[V 2 (pt 0 9),V 3 (pt 1 2),V 4 (pt 2 4),V 5 (pt 3 9),V 72 (bv (x12 == 0))],[W 0 9 [bs [],AQ,.s (.int .u8 0),bs [],bv false,bs [],bv false,bs [],AQ],W 1 2 [iv 0,iv 0],W 2 4 [bs x1,iv x23,iv x12,iv x13],W 3 9 [bs x8,.osl 4 0 (List.length x10) 1,.s (.int .u8 x24),bs x25,bv false,bs [],bv false,bs [],AQ],(4,.rows 1 (List.map cS x10))],5⟩ ?_
  refine jIf ?_ ?_
  ·refine CY (jG 0 1 ⟨[V 2 (pt 0 9),V 3 (pt 1 2),V 4 (pt 2 4),V 5 (pt 3 9),V 73 (pt 2 4)],[W 0 9 [bs [],AQ,.s (.int .u8 0),bs [],bv false,bs [],bv false,bs [],AQ],W 1 2 [iv 0,iv 0],W 2 4 [bs x1,iv x23,iv x12,iv x13],W 3 9 [bs x8,.osl 4 0 (List.length x10) 1,.s (.int .u8 x24),bs x25,bv false,bs [],bv false,bs [],AQ],(4,.rows 1 (List.map cS x10))],5⟩ ?_)
   refine BC 1 [(0,some 2),(1,some 3),(2,some 4),(3,none)] [(2,some 0),(3,some 1),(4,some 2),(5,some 3)] (fun r:Int × Bool × Str=>[W 0 9 [bs [],AQ,.s (.int .u8 0),bs [],bv false,bs [],bv false,bs [],AQ],W 1 2 [iv 0,iv 0],W 2 4 [bs x1,iv r.1,iv x12,iv x13],W 3 9 [bs x8,.osl 4 0 (List.length x10) 1,.s (.int .u8 x24),bs x25,bv r.2.1,bs r.2.2,bv false,bs [],.osl 5 0 (List.length ([]:List Str)) 1],(4,.rows 1 (List.map cS x10)),(5,.rows 1 (List.map cS ([]:List Str)))]) (fun r:Int × Bool × Str=>.tup []) 6 (UI x1 x23 x12 x13 x8 x10 x24 x25 false [] false [] ([]:List Str)) (pc (hC 2) (pc (hC 3) (pc (hL 4 (AY BU _)) (pc hZ AD)))) (fun r=>(pc (.inl ⟨rfl,rfl⟩) (pc (.inl ⟨rfl,rfl⟩) (pc (.inr (hC 0)) (pc (.inr (hC 1)) (pc (.inr (hL 2 (AY BU _))) (pc (.inr (hL 3 (AY BU _))) AD))))))) ?_
   rintro⟨x44,x45,x46⟩ hm6
   exact Ad rfl (AU rfl (wkR [(0,some 0),(1,some 1),(2,some 2),(3,some 3),(4,some 4),(5,some 5)] (Am _) (pc (hC 0) (pc (hC 1) (pc (hC 2) (pc (hC 3) (pc (hL 4 (AY BU _)) (pc (hL 5 (AY BU _)) AD))))))))
  exact Ah (AU rfl (wkR [(0,some 0),(1,some 1),(2,some 2),(3,some 3),(4,some 4),(5,none)] (Am _) (pc (hC 0) (pc (hC 1) (pc (hC 2) (pc (hC 3) (pc (hL 4 (AY BU _)) (pc hZ AD))))))))
 rintro⟨x40,x41,x42,x43⟩
 refine Ab (Aj ?_)
 refine BA (fun (x52,x53,x54)=>⟨[V 2 (pt 0 9),V 3 (pt 1 2),V 4 (pt 2 4),V 5 (pt 3 9)],[W 0 9 [bs [],AQ,.s (.int .u8 0),bs [],bv false,bs [],bv false,bs [],AQ],W 1 2 [iv 0,iv 0],W 2 4 [bs x1,iv x52,iv x12,iv x13],W 3 9 [bs x8,.osl 4 0 (List.length x10) 1,.s (.int .u8 x24),bs x25,bv x41,bs x42,bv x53,bs x54,.osl 5 0 (List.length x43) 1],(4,.rows 1 (List.map cS x10)),(5,.rows 1 (List.map cS x43))],6⟩) (fun (x52,x53,x54)=>.normal) ?_ ?_
 ·refine jR (jG 0 2 ⟨[V 2 (pt 0 9),V 3 (pt 1 2),V 4 (pt 2 4),V 5 (pt 3 9),V 76 (pt 2 4),V 77 (.osl 6 0 (List.length ([[100,101,118]])) 1)],[W 0 9 [bs [],AQ,.s (.int .u8 0),bs [],bv false,bs [],bv false,bs [],AQ],W 1 2 [iv 0,iv 0],W 2 4 [bs x1,iv x40,iv x12,iv x13],W 3 9 [bs x8,.osl 4 0 (List.length x10) 1,.s (.int .u8 x24),bs x25,bv x41,bs x42,bv false,bs [],.osl 5 0 (List.length x43) 1],(4,.rows 1 (List.map cS x10)),(5,.rows 1 (List.map cS x43)),(6,.rows 1 (List.map cS ([[100,101,118]])))],7⟩ ?_)
  refine BC 2 [(0,some 2),(1,some 6)] [(2,some 0),(6,some 1)] (fun r:Str × Bool × Int=>[W 0 9 [bs [],AQ,.s (.int .u8 0),bs [],bv false,bs [],bv false,bs [],AQ],W 1 2 [iv 0,iv 0],W 2 4 [bs x1,iv r.2.2,iv x12,iv x13],W 3 9 [bs x8,.osl 4 0 (List.length x10) 1,.s (.int .u8 x24),bs x25,bv x41,bs x42,bv false,bs [],.osl 5 0 (List.length x43) 1],(4,.rows 1 (List.map cS x10)),(5,.rows 1 (List.map cS x43)),(6,.rows 1 (List.map cS ([[100,101,118]])))]) (fun r:Str × Bool × Int=>.tup [bs r.1,bv r.2.1]) 9 (HS x1 x40 x12 x13 ([[100,101,118]])) (pc (hC 2) (pc (hL 6 (AY BU _)) AD)) (fun r=>(pc (.inl ⟨rfl,rfl⟩) (pc (.inl ⟨rfl,rfl⟩) (pc (.inr (hC 0)) (pc (.inl ⟨rfl,rfl⟩) (pc (.inl ⟨rfl,rfl⟩) (pc (.inl ⟨rfl,rfl⟩) (pc (.inr (hL 1 (AY BU _))) AD)))))))) ?_
  rintro⟨x55,x56,x57⟩ hm10
  refine jG 3 5 ⟨[V 2 (pt 0 9),V 3 (pt 1 2),V 4 (pt 2 4),V 5 (pt 3 9),V 9 (bv x56)],[W 0 9 [bs [],AQ,.s (.int .u8 0),bs [],bv false,bs [],bv false,bs [],AQ],W 1 2 [iv 0,iv 0],W 2 4 [bs x1,iv x57,iv x12,iv x13],W 3 9 [bs x8,.osl 4 0 (List.length x10) 1,.s (.int .u8 x24),bs x25,bv x41,bs x42,bv false,bs [],.osl 5 0 (List.length x43) 1],(4,.rows 1 (List.map cS x10)),(5,.rows 1 (List.map cS x43))],9⟩ ?_
  refine jN (jS ⟨[V 2 (pt 0 9),V 3 (pt 1 2),V 4 (pt 2 4),V 5 (pt 3 9),V 81 (bv x56)],[W 0 9 [bs [],AQ,.s (.int .u8 0),bs [],bv false,bs [],bv false,bs [],AQ],W 1 2 [iv 0,iv 0],W 2 4 [bs x1,iv x57,iv x12,iv x13],W 3 9 [bs x8,.osl 4 0 (List.length x10) 1,.s (.int .u8 x24),bs x25,bv x41,bs x42,bv false,bs [],.osl 5 0 (List.length x43) 1],(4,.rows 1 (List.map cS x10)),(5,.rows 1 (List.map cS x43))],9⟩ ?_)
  refine jIf ?_ ?_
  ·refine CY (jG 0 1 ⟨[V 2 (pt 0 9),V 3 (pt 1 2),V 4 (pt 2 4),V 5 (pt 3 9),V 82 (pt 2 4)],[W 0 9 [bs [],AQ,.s (.int .u8 0),bs [],bv false,bs [],bv false,bs [],AQ],W 1 2 [iv 0,iv 0],W 2 4 [bs x1,iv x57,iv x12,iv x13],W 3 9 [bs x8,.osl 4 0 (List.length x10) 1,.s (.int .u8 x24),bs x25,bv x41,bs x42,bv false,bs [],.osl 5 0 (List.length x43) 1],(4,.rows 1 (List.map cS x10)),(5,.rows 1 (List.map cS x43))],9⟩ ?_)
   refine BC 1 [(0,some 2)] [(2,some 0)] (fun r:Str × Int=>[W 0 9 [bs [],AQ,.s (.int .u8 0),bs [],bv false,bs [],bv false,bs [],AQ],W 1 2 [iv 0,iv 0],W 2 4 [bs x1,iv r.2,iv x12,iv x13],W 3 9 [bs x8,.osl 4 0 (List.length x10) 1,.s (.int .u8 x24),bs x25,bv x41,bs x42,bv false,bs [],.osl 5 0 (List.length x43) 1],(4,.rows 1 (List.map cS x10)),(5,.rows 1 (List.map cS x43))]) (fun r:Str × Int=>bs r.1) 9 (GZ x1 x57 x12 x13) (pc (hC 2) AD) (fun r=>(pc (.inl ⟨rfl,rfl⟩) (pc (.inl ⟨rfl,rfl⟩) (pc (.inr (hC 0)) (pc (.inl ⟨rfl,rfl⟩) (pc (.inl ⟨rfl,rfl⟩) (pc (.inl ⟨rfl,rfl⟩) AD))))))) ?_
   rintro⟨x58,x59⟩ hm9
   refine jG 2 4 ⟨[V 2 (pt 0 9),V 3 (pt 1 2),V 4 (pt 2 4),V 5 (pt 3 9)],[W 0 9 [bs [],AQ,.s (.int .u8 0),bs [],bv false,bs [],bv false,bs [],AQ],W 1 2 [iv 0,iv 0],W 2 4 [bs x1,iv x59,iv x12,iv x13],W 3 9 [bs x8,.osl 4 0 (List.length x10) 1,.s (.int .u8 x24),bs x25,bv x41,bs x42,bv true,bs x58,.osl 5 0 (List.length x43) 1],(4,.rows 1 (List.map cS x10)),(5,.rows 1 (List.map cS x43))],9⟩ ?_
   exact Ad rfl (AU rfl (wkR [(0,some 0),(1,some 1),(2,some 2),(3,some 3),(4,some 4),(5,some 5)] (Am _) (pc (hC 0) (pc (hC 1) (pc (hC 2) (pc (hC 3) (pc (hL 4 (AY BU _)) (pc (hL 5 (AY BU _)) AD))))))))
  exact Ah (AU rfl (wkR [(0,some 0),(1,some 1),(2,some 2),(3,some 3),(4,some 4),(5,some 5)] (Am _) (pc (hC 0) (pc (hC 1) (pc (hC 2) (pc (hC 3) (pc (hL 4 (AY BU _)) (pc (hL 5 (AY BU _)) AD))))))))
 rintro⟨x52,x53,x54⟩
 refine Ab (Aj ?_)
 refine BA (fun (x64,x65,x66,x67)=>⟨[V 2 (pt 0 9),V 3 (pt 1 2),V 4 (pt 2 4),V 5 (pt 3 9)],[W 0 9 [bs [],AQ,.s (.int .u8 0),bs [],bv false,bs [],bv false,bs [],AQ],W 1 2 [iv 0,iv 0],W 2 4 [bs x1,iv x64,iv x65,iv x66],W 3 9 [bs x8,.osl 4 0 (List.length x10) 1,.s (.int .u8 x24),bs x25,bv x41,bs x42,bv x53,bs x54,.osl 5 0 (List.length x67) 1],(4,.rows 1 (List.map cS x10)),(5,.rows 1 (List.map cS x67))],6⟩) (fun (x64,x65,x66,x67)=>.normal) ?_ ?_
 ·refine jS ⟨[V 2 (pt 0 9),V 3 (pt 1 2),V 4 (pt 2 4),V 5 (pt 3 9),V 91 (bv (x12 == 0))],[W 0 9 [bs [],AQ,.s (.int .u8 0),bs [],bv false,bs [],bv false,bs [],AQ],W 1 2 [iv 0,iv 0],W 2 4 [bs x1,iv x52,iv x12,iv x13],W 3 9 [bs x8,.osl 4 0 (List.length x10) 1,.s (.int .u8 x24),bs x25,bv x41,bs x42,bv x53,bs x54,.osl 5 0 (List.length x43) 1],(4,.rows 1 (List.map cS x10)),(5,.rows 1 (List.map cS x43))],6⟩ ?_
  refine jIf ?_ ?_
  ·refine CY (jG 0 1 ⟨[V 2 (pt 0 9),V 3 (pt 1 2),V 4 (pt 2 4),V 5 (pt 3 9),V 92 (pt 2 4)],[W 0 9 [bs [],AQ,.s (.int .u8 0),bs [],bv false,bs [],bv false,bs [],AQ],W 1 2 [iv 0,iv 0],W 2 4 [bs x1,iv x52,iv x12,iv x13],W 3 9 [bs x8,.osl 4 0 (List.length x10) 1,.s (.int .u8 x24),bs x25,bv x41,bs x42,bv x53,bs x54,.osl 5 0 (List.length x43) 1],(4,.rows 1 (List.map cS x10)),(5,.rows 1 (List.map cS x43))],6⟩ ?_)
   refine BC 1 [(0,some 2)] [(2,some 0),(6,some 1)] (fun r:List Str × Int × Int × Int=>[W 0 9 [bs [],AQ,.s (.int .u8 0),bs [],bv false,bs [],bv false,bs [],AQ],W 1 2 [iv 0,iv 0],W 2 4 [bs x1,iv r.2.1,iv r.2.2.1,iv r.2.2.2],W 3 9 [bs x8,.osl 4 0 (List.length x10) 1,.s (.int .u8 x24),bs x25,bv x41,bs x42,bv x53,bs x54,.osl 5 0 (List.length x43) 1],(4,.rows 1 (List.map cS x10)),(5,.rows 1 (List.map cS x43)),(6,.rows 1 (List.map cS r.1))]) (fun r:List Str × Int × Int × Int=>.osl 6 0 (List.length r.1) 1) 7 (Tf x1 x52 x12 x13) (pc (hC 2) AD) (fun r=>(pc (.inl ⟨rfl,rfl⟩) (pc (.inl ⟨rfl,rfl⟩) (pc (.inr (hC 0)) (pc (.inl ⟨rfl,rfl⟩) (pc (.inl ⟨rfl,rfl⟩) (pc (.inl ⟨rfl,rfl⟩) (pc (.inr (hL 1 (AY BU _))) AD)))))))) ?_
   rintro⟨x68,x69,x70,x71⟩ hm12
   refine jG 2 2 ⟨[V 2 (pt 0 9),V 3 (pt 1 2),V 4 (pt 2 4),V 5 (pt 3 9)],[W 0 9 [bs [],AQ,.s (.int .u8 0),bs [],bv false,bs [],bv false,bs [],AQ],W 1 2 [iv 0,iv 0],W 2 4 [bs x1,iv x69,iv x70,iv x71],W 3 9 [bs x8,.osl 4 0 (List.length x10) 1,.s (.int .u8 x24),bs x25,bv x41,bs x42,bv x53,bs x54,.osl 6 0 (List.length x68) 1],(4,.rows 1 (List.map cS x10)),(6,.rows 1 (List.map cS x68))],7⟩ ?_
   exact Ad rfl (AU rfl (wkR [(0,some 0),(1,some 1),(2,some 2),(3,some 3),(4,some 4),(5,some 6)] (Am _) (pc (hC 0) (pc (hC 1) (pc (hC 2) (pc (hC 3) (pc (hL 4 (AY BU _)) (pc (hL 6 (AY BU _)) AD))))))))
  exact Ah (AU rfl (wkR [(0,some 0),(1,some 1),(2,some 2),(3,some 3),(4,some 4),(5,some 5)] (Am _) (pc (hC 0) (pc (hC 1) (pc (hC 2) (pc (hC 3) (pc (hL 4 (AY BU _)) (pc (hL 5 (AY BU _)) AD))))))))
 rintro⟨x64,x65,x66,x67⟩
 refine Ab (Aj ?_)
 refine BA (fun (x72,x73)=>⟨[V 2 (pt 0 9),V 3 (pt 1 2),V 4 (pt 2 4),V 5 (pt 3 9)],[W 0 9 [bs [],AQ,.s (.int .u8 0),bs [],bv false,bs [],bv false,bs [],AQ],W 1 2 [iv 0,iv 0],W 2 4 [bs x1,iv x64,iv x72,iv x73],W 3 9 [bs x8,.osl 4 0 (List.length x10) 1,.s (.int .u8 x24),bs x25,bv x41,bs x42,bv x53,bs x54,.osl 5 0 (List.length x67) 1],(4,.rows 1 (List.map cS x10)),(5,.rows 1 (List.map cS x67))],6⟩) (fun (x72,x73)=>.normal) ?_ ?_
 ·refine jS ⟨[V 2 (pt 0 9),V 3 (pt 1 2),V 4 (pt 2 4),V 5 (pt 3 9),V 112 (bv ((x65 == 0) && (decide (x64 < (List.length x1:Int)))))],[W 0 9 [bs [],AQ,.s (.int .u8 0),bs [],bv false,bs [],bv false,bs [],AQ],W 1 2 [iv 0,iv 0],W 2 4 [bs x1,iv x64,iv x65,iv x66],W 3 9 [bs x8,.osl 4 0 (List.length x10) 1,.s (.int .u8 x24),bs x25,bv x41,bs x42,bv x53,bs x54,.osl 5 0 (List.length x67) 1],(4,.rows 1 (List.map cS x10)),(5,.rows 1 (List.map cS x67))],6⟩ ?_
  refine jIf ?_ ?_
  ·refine jT ⟨[V 2 (pt 0 9),V 3 (pt 1 2),V 4 (pt 2 4),V 5 (pt 3 9)],[W 0 9 [bs [],AQ,.s (.int .u8 0),bs [],bv false,bs [],bv false,bs [],AQ],W 1 2 [iv 0,iv 0],W 2 4 [bs x1,iv x64,iv 10,iv x64],W 3 9 [bs x8,.osl 4 0 (List.length x10) 1,.s (.int .u8 x24),bs x25,bv x41,bs x42,bv x53,bs x54,.osl 5 0 (List.length x67) 1],(4,.rows 1 (List.map cS x10)),(5,.rows 1 (List.map cS x67))],6⟩ ?_
   exact AU rfl (wkR [(0,some 0),(1,some 1),(2,some 2),(3,some 3),(4,some 4),(5,some 5)] (Am _) (pc (hC 0) (pc (hC 1) (pc (hC 2) (pc (hC 3) (pc (hL 4 (AY BU _)) (pc (hL 5 (AY BU _)) AD)))))))
  exact Ah (AU rfl (wkR [(0,some 0),(1,some 1),(2,some 2),(3,some 3),(4,some 4),(5,some 5)] (Am _) (pc (hC 0) (pc (hC 1) (pc (hC 2) (pc (hC 3) (pc (hL 4 (AY BU _)) (pc (hL 5 (AY BU _)) AD))))))))
 rintro⟨x72,x73⟩
 refine Ab (Aj (jS ⟨[V 2 (pt 0 9),V 3 (pt 1 2),V 4 (pt 2 4),V 5 (pt 3 9),V 126 (bv (x72 != 0))],[W 0 9 [bs [],AQ,.s (.int .u8 0),bs [],bv false,bs [],bv false,bs [],AQ],W 1 2 [iv 0,iv 0],W 2 4 [bs x1,iv x64,iv x72,iv x73],W 3 9 [bs x8,.osl 4 0 (List.length x10) 1,.s (.int .u8 x24),bs x25,bv x41,bs x42,bv x53,bs x54,.osl 5 0 (List.length x67) 1],(4,.rows 1 (List.map cS x10)),(5,.rows 1 (List.map cS x67))],6⟩ ?_))
 refine jIf ?_ ?_
 ·refine Aj ?_
  refine oN iQ [(130,2)] ?_
  refine jG 0 7 ⟨[V 2 (pt 0 9),V 3 (pt 1 2),V 130 (.ptr 2 0 4 2)],[W 0 9 [bs [],AQ,.s (.int .u8 0),bs [],bv false,bs [],bv false,bs [],AQ],W 1 2 [iv x72,iv x73],W 2 4 [bs x1,iv x64,iv x72,iv x73]],6⟩ ?_
  refine Ad rfl ?_
  refine Vk ?_
  exact Ab (Ae (Ar (Hk (.inr rfl) (v:=.tup [.agg [bs [],AQ,.s (.int .u8 0),bs [],bv false,bs [],bv false,bs [],AQ],.agg [iv x72,iv x73]]) (by kernel_rfl) (Jv (AR (Gw (AR rfl (AR rfl (AR rfl (AR rfl (AR rfl (AR rfl (AR rfl (AR rfl (AR rfl (BL _))))))))))) (AR rfl (BL _)))) (O4 (AL (LT (AL (AP _) (AL (HH _) (AL (AP _) (AL (AP _) (AL (AP _) (AL (AP _) (AL (AP _) (AL (AP _) (AL (HH _) Ax)))))))))) (AL (AP _) Ax))))))
 refine Ah (Ab (jS ⟨[V 2 (pt 0 9),V 3 (pt 1 2)],[W 0 9 [bs x8,.osl 4 0 (List.length x10) 1,.s (.int .u8 x24),bs x25,bv x41,bs x42,bv x53,bs x54,.osl 5 0 (List.length x67) 1],W 1 2 [iv 0,iv 0],(4,.rows 1 (List.map cS x10)),(5,.rows 1 (List.map cS x67))],6⟩ ?_))
 exact Ae (Hk (.inr rfl) (v:=.tup [.agg [bs x8,.osl 4 0 (List.length x10) 1,.s (.int .u8 x24),bs x25,bv x41,bs x42,bv x53,bs x54,.osl 5 0 (List.length x67) 1],.agg [iv 0,iv 0]]) (by kernel_rfl) (Jv (AR (Gw (AR rfl (AR (EI oD (by kernel_rfl)) (AR rfl (AR rfl (AR rfl (AR rfl (AR rfl (AR rfl (AR (EI oD (by kernel_rfl)) (BL _))))))))))) (AR rfl (BL _)))) (O4 (AL (LT (AL (AP _) (AL (AP _) (AL (AP _) (AL (AP _) (AL (AP _) (AL (AP _) (AL (AP _) (AL (AP _) (AL (AP _) Ax)))))))))) (AL (AP _) Ax)))))
abbrev iX:List LO:=[Ag 4 4]
abbrev iY:List LO:=[lm 5 1 4,BR 6 4 5 4]
abbrev iZ:List LO:=[lm 7 0 9,BK 8 9 7 #[] 9 4,AB 4 8 4]
abbrev iI:List LO:=[lm 9 0 9,Em 10 9 9 #[] 9 4,lm 11 10 4,lmg 12 0 9 11 true,A7 13 69 #[AE 12,.const (.int .i64 0),.const (.int .i64 1)] #[9,3,3] 3 11 true,lmg 14 0 9 11 true,BF 15 #[AE 14] #[9] 3 11 true,Bb 16 3 13 15 3 4 11 true,AS 17 11 16 4,lm 18 17 4,lmg 19 0 9 18 true,A7 20 86 #[AE 19] #[9] 9 18 true,lmg 21 0 9 18 true,Bb 22 9 20 21 9 4 18 true,AS 23 18 22 4,AB 4 23 4]
abbrev pU:LC:=.seq (.reg false iX) (.seq (.seq (.reg false iY) (.cond (AE 6) (.seq (.reg false iZ) .ret) .skip)) (.seq (.reg false iI) .ret))
theorem pV:Bf E 111 24 [.tmp 4] pU:=Bp Go.Proofs.Tryz.f111
noncomputable def E7 (a0:Str) (a1:Bool):Option (Bool):=(if (!a1)=true then some (a0 == []) else Option.bind (if (!(a0 == []))=true then Option.bind (Dy a0 0 1) (fun x3=>some (x3 == (List.length a0:Int))) else some false:Option (Bool)) (fun x2=>Option.bind (if x2=true then Option.bind (ES a0) (fun x6=>some (x6 == a0)) else some false:Option (Bool)) (fun x5=>some x5)))
theorem G8 (a0:Str) (a1:Bool):Ct E 111 [bs a0,bv a1] (E7 a0 a1) (fun r:Bool=>bv r):=CN pV (by
 unfold E7
 refine jS ⟨[V 0 (bs a0),V 1 (bv a1)],[],0⟩ ?_
 refine Aj (jS ⟨[V 0 (bs a0),V 6 (bv (!a1))],[],0⟩ ?_)
 refine jIf ?_ ?_
 ·refine jS ⟨[V 4 (bv (a0 == []))],[],0⟩ ?_
  exact Ae (Ar (BO (bv (a0 == []))))
 refine Ah (Ab (jR (jG 0 3 ⟨[V 0 (bs a0),V 11 (bv (!(a0 == [])))],[],0⟩ ?_)))
 refine A2 3 6 (fun x2=>⟨[V 0 (bs a0),V 17 (bv x2)],[],0⟩) ?_ ?_
 ·refine jSp 11 ?_ ?_
  ·refine jG 0 1 ⟨[V 0 (bs a0),(11,.lit true),V 12 (bs a0)],[],0⟩ ?_
   refine jK 1 (E2 a0 0 1) ?_
   intro x3 h3
   refine jG 2 4 ⟨[V 0 (bs a0),V 17 (bv (x3 == (List.length a0:Int)))],[],0⟩ ?_
   exact Ad rfl (AU rfl BV)
  refine jG 0 6 ⟨[V 0 (bs a0),V 17 (bv false)],[],0⟩ ?_
  exact Ad rfl (AU rfl BV)
 intro x2
 refine jG 9 1 ⟨[V 0 (bs a0),V 18 (bv x2)],[],0⟩ ?_
 refine A2 10 5 (fun x5=>⟨[V 23 (bv x5)],[],0⟩) ?_ ?_
 ·refine jSp 18 ?_ ?_
  ·refine jG 0 1 ⟨[V 0 (bs a0),(18,.lit true),V 19 (bs a0)],[],0⟩ ?_
   refine jK 1 (Gu a0) ?_
   intro x6 h6
   refine jG 2 3 ⟨[V 23 (bv (x6 == a0))],[],0⟩ ?_
   exact Ad rfl (AU rfl BV)
  refine jG 0 5 ⟨[V 23 (bv false)],[],0⟩ ?_
  exact Ad rfl (AU rfl BV)
 intro x5
 refine jG 15 1 ⟨[V 4 (bv x5)],[],0⟩ ?_
 exact jN (Ae (BO (bv x5))))
abbrev o6:List LO:=[Ag 2 4]
abbrev o7:List LO:=[lm 3 0 9,AN 4 111 #[AE 3,.const (.bool true)] #[9,4] 4,BR 5 4 4 4,AB 2 5 4]
abbrev uY:LC:=.seq (.reg false o6) (.seq (.reg false o7) .ret)
theorem uZ:Bf E 113 6 [.tmp 2] uY:=Bp Go.Proofs.Tryz.f113
noncomputable def TC (a0:Str):Option (Bool):=Option.bind (E7 a0 true) (fun x1=>some (!x1))
theorem o0 (a0:Str):Ct E 113 [bs a0] (TC a0) (fun r:Bool=>bv r):=CN uZ (by
 unfold TC
 refine jS ⟨[V 0 (bs a0)],[],0⟩ ?_
 refine jR (jG 0 1 ⟨[V 3 (bs a0)],[],0⟩ ?_)
 refine jK 1 (G8 a0 true) ?_
 intro x1 h1
 refine jG 2 2 ⟨[V 2 (bv (!x1))],[],0⟩ ?_
 exact jN (Ae (BO (bv (!x1)))))
end Go.Vm

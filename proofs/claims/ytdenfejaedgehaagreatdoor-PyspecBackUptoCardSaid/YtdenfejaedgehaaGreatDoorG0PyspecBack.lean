/- The law PyspecBack, a part of its proof: what the functions that it reaches compute. -/
import Derived.Test.YtdenfejaedgehaaGreatDoorDx0207accb
set_option linter.unusedVariables false
set_option linter.unusedSimpArgs false
set_option linter.unusedVariables false
namespace Go.Vm
open Go
structure AF where
 Epoch:Str
 Release:(List Str)
 Pre:Int
 PreNum:Str
 Post:Bool
 PostNum:Str
 Dev:Bool
 DevNum:Str
 Local:(List Str)
 deriving DecidableEq,Inhabited
structure FB where
 Err:Int
 At:Int
 deriving DecidableEq,Inhabited
structure AD where
 Op:Str
 Ver:Str
 Star:Bool
 deriving DecidableEq,Inhabited
abbrev AA (x:AD):List AV:=[bs x.Op,bs x.Ver,bv x.Star]
theorem Ab (x:AD):NI (AA x):=KD (Xd _) (KD (Xd _) (KD (Xd _) (U1)))
theorem DK (x:AD):Frz (AA x):=oQ (oQ (oQ (oG)))
structure AR where
 c:AD
 text:Str
 v:AF
 w:AF
 deriving DecidableEq,Inhabited
set_option maxRecDepth 100000
set_option maxHeartbeats 0
set_option linter.unusedSimpArgs false
abbrev UQ:List LO:=[lo 2 (.assign (.const (.bool false))) 4]
abbrev UY:List LO:=[lm 3 0 3,lm 4 0 3,lo 5 (.binOp .neq 3 (.tmp 3) (.tmp 4) 3) 4,lo 2 (.assign (.tmp 5)) 4]
abbrev Nv:LC:=.seq (.reg false UQ) (.seq (.reg false UY) .ret)
theorem Wm:BE E 117 6 [.tmp 2] Nv:=⟨⟨Go.Proofs.Tryz.f117,by kernel_rfl,by kernel_rfl,by kernel_rfl,by kernel_rfl,by kernel_rfl⟩,rfl,rfl⟩
noncomputable def EV (a0:Int):Option (Bool):=some (a0 != a0)
theorem MA (a0:Int):Ct E 117 [iv a0] (EV a0) (fun r:Bool=>bv r):=Ad (N:=6) (L:=Nv) Wm rfl (Nat.le_of_ble_eq_true rfl) (by kernel_rfl) (by
 unfold EV
 refine jS ⟨[V 0 (iv a0)],[],0⟩ ?_
 refine jS ⟨[V 2 (bv (a0 != a0))],[],0⟩ ?_
 refine AO ?_
 exact AP (.inr rfl) (v:=bv (a0 != a0)) (by kernel_rfl) rfl (AE _))
abbrev SQ:List LO:=[lo 4 (.assign (.const (.int .i64 0))) 3]
abbrev SD:List LO:=[lm 7 0 3,lo 8 (.call ⟨.value (.func 117),#[.tmp 7],#[3]⟩) 4,lo 5 (.assign (.tmp 8)) 4]
abbrev Rl:List LO:=[lm 9 1 3,lo 10 (.call ⟨.value (.func 117),#[.tmp 9],#[3]⟩) 4,lo 6 (.assign (.tmp 10)) 4]
abbrev SJ:List LO:=[lm 11 5 4]
abbrev SN:List LO:=[lm 12 6 4]
abbrev SZ:List LO:=[lo 4 (.assign (.const (.int .i64 0))) 3]
abbrev SC:List LO:=[lo 4 (.assign (.const (.int .i64 (-1)))) 3]
abbrev RM:List LO:=[lm 13 6 4]
abbrev SA:List LO:=[lo 4 (.assign (.const (.int .i64 1))) 3]
abbrev QF:List LO:=[lm 14 0 3,lm 15 1 3,lo 16 (.binOp .lss 3 (.tmp 14) (.tmp 15) 3) 4]
abbrev QH:List LO:=[lo 4 (.assign (.const (.int .i64 (-1)))) 3]
abbrev QQ:List LO:=[lm 17 0 3,lm 18 1 3,lo 19 (.binOp .gtr 3 (.tmp 17) (.tmp 18) 3) 4]
abbrev QP:List LO:=[lo 4 (.assign (.const (.int .i64 1))) 3]
abbrev QV:List LO:=[lo 4 (.assign (.const (.int .i64 0))) 3]
abbrev Ky:LC:=.seq (.reg false SQ) (.seq (.reg false SD) (.seq (.reg false Rl) (.seq (.seq (.reg false SJ) (.cond (.tmp 11) (.seq (.seq (.reg false SN) (.cond (.tmp 12) (.seq (.reg false SZ) .ret) .skip)) (.seq (.reg false SC) .ret)) .skip)) (.seq (.seq (.reg false RM) (.cond (.tmp 13) (.seq (.reg false SA) .ret) .skip)) (.seq (.seq (.reg false QF) (.cond (.tmp 16) (.seq (.reg false QH) .ret) .skip)) (.seq (.seq (.reg false QQ) (.cond (.tmp 19) (.seq (.reg false QP) .ret) .skip)) (.seq (.reg false QV) .ret)))))))
theorem Tz:BE E 94 20 [.tmp 4] Ky:=⟨⟨Go.Proofs.Tryz.f94,by kernel_rfl,by kernel_rfl,by kernel_rfl,by kernel_rfl,by kernel_rfl⟩,rfl,rfl⟩
noncomputable def Co (a0:Int) (a1:Int):Option (Int):=Option.bind (EV a0) (fun x1=>Option.bind (EV a1) (fun x2=>(if x1=true then (if x2=true then some 0 else some (-1)) else (if x2=true then some 1 else (if (decide (a0 < a1))=true then some (-1) else (if (decide (a0 > a1))=true then some 1 else some 0))))))
theorem Fs (a0:Int) (a1:Int):Ct E 94 [iv a0,iv a1] (Co a0 a1) (fun r:Int=>iv r):=Ad (N:=20) (L:=Ky) Tz rfl (Nat.le_of_ble_eq_true rfl) (by kernel_rfl) (by
 unfold Co
 refine jS ⟨[V 0 (iv a0),V 1 (iv a1)],[],0⟩ ?_
 refine jR ?_
 refine jG 0 1 ⟨[V 0 (iv a0),V 1 (iv a1),V 7 (iv a0)],[],0⟩ ?_
 refine jK 1 (MA a0) ?_
 intro x1 h1
 refine jG 2 1 ⟨[V 0 (iv a0),V 1 (iv a1),V 5 (bv x1)],[],0⟩ ?_
 refine jN ?_
 refine jR ?_
 refine jG 0 1 ⟨[V 0 (iv a0),V 1 (iv a1),V 5 (bv x1),V 9 (iv a1)],[],0⟩ ?_
 refine jK 1 (MA a1) ?_
 intro x2 h2
 refine jG 2 1 ⟨[V 0 (iv a0),V 1 (iv a1),V 5 (bv x1),V 6 (bv x2)],[],0⟩ ?_
 refine jN ?_
 refine AT ?_
 refine jS ⟨[V 0 (iv a0),V 1 (iv a1),V 6 (bv x2),V 11 (bv x1)],[],0⟩ ?_
 refine jIf ?_ ?_
 ·refine AT ?_
  refine jS ⟨[V 12 (bv x2)],[],0⟩ ?_
  refine jIf ?_ ?_
  ·refine jS ⟨[V 4 (iv 0)],[],0⟩ ?_
   refine AO ?_
   refine AZ ?_
   refine AZ ?_
   exact AP (.inr rfl) (v:=iv 0) (by kernel_rfl) rfl (AE _)
  refine AS ?_
  refine AN ?_
  refine jS ⟨[V 4 (iv (-1))],[],0⟩ ?_
  refine AO ?_
  refine AZ ?_
  exact AP (.inr rfl) (v:=iv (-1)) (by kernel_rfl) rfl (AE _)
 refine AS ?_
 refine AN ?_
 refine AT ?_
 refine jS ⟨[V 0 (iv a0),V 1 (iv a1),V 13 (bv x2)],[],0⟩ ?_
 refine jIf ?_ ?_
 ·refine jS ⟨[V 4 (iv 1)],[],0⟩ ?_
  refine AO ?_
  refine AZ ?_
  exact AP (.inr rfl) (v:=iv 1) (by kernel_rfl) rfl (AE _)
 refine AS ?_
 refine AN ?_
 refine AT ?_
 refine jS ⟨[V 0 (iv a0),V 1 (iv a1),V 16 (bv (decide (a0 < a1)))],[],0⟩ ?_
 refine jIf ?_ ?_
 ·refine jS ⟨[V 4 (iv (-1))],[],0⟩ ?_
  refine AO ?_
  refine AZ ?_
  exact AP (.inr rfl) (v:=iv (-1)) (by kernel_rfl) rfl (AE _)
 refine AS ?_
 refine AN ?_
 refine AT ?_
 refine jS ⟨[V 19 (bv (decide (a0 > a1)))],[],0⟩ ?_
 refine jIf ?_ ?_
 ·refine jS ⟨[V 4 (iv 1)],[],0⟩ ?_
  refine AO ?_
  refine AZ ?_
  exact AP (.inr rfl) (v:=iv 1) (by kernel_rfl) rfl (AE _)
 refine AS ?_
 refine AN ?_
 refine jS ⟨[V 4 (iv 0)],[],0⟩ ?_
 refine AO ?_
 exact AP (.inr rfl) (v:=iv 0) (by kernel_rfl) rfl (AE _))
abbrev Yy:List LO:=[lo 2 (.assign (.const (.int .i64 0))) 3]
abbrev Yt:List LO:=[lo 3 (.assign (.const (.int .i64 0))) 3]
abbrev Zw:List LO:=[lm 6 0 117,lo 7 (.call ⟨.builtin .len,#[.tmp 6],#[117]⟩) 3,lo 8 (.move (.const (.int .i64 0))) 3]
abbrev Zo:List LO:=[lo 9 (.binOp .lss 3 (.tmp 8) (.tmp 7) 3) 0]
abbrev ZS:List LO:=[lo 10 (.indexAddr 117 (.tmp 6) (.tmp 8)) 0,lo 11 (.load 3 (.tmp 10)) 3,lo 5 (.assign (.tmp 11)) 3]
abbrev Y5:List LO:=[lm 12 5 3,lm 13 3 3,lo 14 (.binOp .neq 3 (.tmp 12) (.tmp 13) 3) 4]
abbrev Yo:List LO:=[lm 15 5 3,lo 2 (.assign (.tmp 15)) 3]
abbrev Ze:List LO:=[lo 16 (.binOp .add 3 (.tmp 8) (.const (.int .i64 1)) 3) 3,lm 8 16 3]
abbrev Zy:List LO:=[lm 17 3 3,lo 2 (.assign (.tmp 17)) 3]
abbrev Tj:LC:=.seq (.reg false Yy) (.seq (.reg false Yt) (.seq (.seq (.reg false Zw) (.block 0 (.loop (.seq (.reg false Zo) (.seq (.cond (.tmp 9) .skip (.exit 0)) (.seq (.block 1 (.seq (.reg false ZS) (.seq (.reg false Y5) (.cond (.tmp 14) (.seq (.reg false Yo) .ret) .skip)))) (.reg false Ze))))))) (.seq (.reg false Zy) .ret)))
theorem eN:BE E 91 18 [.tmp 2] Tj:=⟨⟨Go.Proofs.Tryz.f91,by kernel_rfl,by kernel_rfl,by kernel_rfl,by kernel_rfl,by kernel_rfl⟩,rfl,rfl⟩
noncomputable def FV (a0:(List Int)):Int→Option (Step (Int) ((Int) ⊕ (Unit))):=fun x2=>(if (decide (x2 < (List.length a0:Int)))=true then Option.bind (ixl a0 x2) (fun x6=>(if (x6 != 0)=true then some (Step.done (Sum.inl x6)) else some (Step.next (w64 (x2 + 1))))) else some (Step.done (Sum.inr ())))
noncomputable def G6 (a0:(List Int)):Option (Int):=Option.bind (Bi (FV a0) 0) (fun y=>match y with | Sum.inl x5=>some x5 | Sum.inr _=>some 0)
theorem Q4 (a0:(List Int)):Ct E 91 [.fsl 1 (List.map cI a0)] (G6 a0) (fun r:Int=>iv r):=Ad (N:=18) (L:=Tj) eN rfl (Nat.le_of_ble_eq_true rfl) (by kernel_rfl) (by
 unfold G6
 refine jS ⟨[V 0 (.fsl 1 (List.map cI a0))],[],0⟩ ?_
 refine jS ⟨[V 0 (.fsl 1 (List.map cI a0)),V 3 (iv 0)],[],0⟩ ?_
 refine AT ?_
 refine jR ?_
 refine jG 0 3 ⟨[V 3 (iv 0),V 6 (.fsl 1 (List.map cI a0)),V 7 (iv (List.length (List.map cI a0):Int)),V 8 (iv 0)],[],0⟩ ?_
 simp only[List.length_map]
 refine jN ?_
 refine Ai ?_
 refine As (fun y=>match y with | Sum.inl x5=>⟨[V 2 (iv x5)],[],0⟩ | Sum.inr _=>⟨[V 3 (iv 0)],[],0⟩) (fun y=>match y with | Sum.inl x5=>.ret | Sum.inr _=>(.exit 0)) (Cj (fun x2=>⟨[V 3 (iv 0),V 6 (.fsl 1 (List.map cI a0)),V 7 (iv (List.length a0:Int)),V 8 (iv x2)],[],0⟩) (wkR [] (AH _) AB) ?_) ?_
 ·intro x2
  unfold FV
  refine jS ⟨[V 3 (iv 0),V 6 (.fsl 1 (List.map cI a0)),V 7 (iv (List.length a0:Int)),V 8 (iv x2),V 9 (bv (decide (x2 < (List.length a0:Int))))],[],0⟩ ?_
  refine AT ?_
  refine jIf ?_ ?_
  ·refine AS ?_
   refine AN ?_
   refine AT ?_
   refine Ai ?_
   refine jR ?_
   refine An (i:=0) (mo:=ixl a0 x2) rfl rfl rfl rfl (fun _ hc=>Da (c:=cI) (sz:=1) (e:=3) (kk:=.i64) (by kernel_rfl) (by kernel_rfl) (by kernel_rfl) (by kernel_rfl) hc) (fun _=>rfl) ?_
   intro x6 h6
   refine jG 1 2 ⟨[V 3 (iv 0),V 5 (iv x6),V 6 (.fsl 1 (List.map cI a0)),V 7 (iv (List.length a0:Int)),V 8 (iv x2)],[],0⟩ ?_
   refine jN ?_
   refine jS ⟨[V 3 (iv 0),V 5 (iv x6),V 6 (.fsl 1 (List.map cI a0)),V 7 (iv (List.length a0:Int)),V 8 (iv x2),V 14 (bv (x6 != 0))],[],0⟩ ?_
   refine jIf ?_ ?_
   ·refine jS ⟨[V 2 (iv x6)],[],0⟩ ?_
    refine AO ?_
    refine Aq ?_
    refine AZ ?_
    exact BD rfl nofun (wkR [] (AH _) AB)
   refine AS ?_
   refine A8 ?_
   refine AN ?_
   refine jT ⟨[V 3 (iv 0),V 6 (.fsl 1 (List.map cI a0)),V 7 (iv (List.length a0:Int)),V 8 (iv (w64 (x2 + 1)))],[],0⟩ ?_
   exact Ck (wkR [] (AH _) AB)
  refine CN ?_
  refine CM ?_
  exact BD rfl nofun (wkR [] (AH _) AB)
 rintro (x5 | _)
 ·refine Aq ?_
  refine AZ ?_
  exact AP (.inr rfl) (v:=iv x5) (by kernel_rfl) rfl (AE _)
 refine CY ?_
 refine AN ?_
 refine jS ⟨[V 2 (iv 0)],[],0⟩ ?_
 refine AO ?_
 exact AP (.inr rfl) (v:=iv 0) (by kernel_rfl) rfl (AE _))
abbrev R6:List LO:=[lo 4 (.assign (.const (.int .i64 0))) 3]
abbrev RL:List LO:=[lm 5 0 9,lm 6 1 9,lo 7 (.call ⟨.value (.func 131),#[.tmp 5,.tmp 6],#[9,9]⟩) 3,lo 4 (.assign (.tmp 7)) 3]
abbrev Ko:LC:=.seq (.reg false R6) (.seq (.reg false RL) .ret)
theorem SI:BE E 116 8 [.tmp 4] Ko:=⟨⟨Go.Proofs.Tryz.f116,by kernel_rfl,by kernel_rfl,by kernel_rfl,by kernel_rfl,by kernel_rfl⟩,rfl,rfl⟩
noncomputable def D6 (a0:Str) (a1:Str):Option (Int):=Option.bind (bytealg_CompareString a0 a1) (fun x1=>some x1)
theorem J0 (a0:Str) (a1:Str):Ct E 116 [bs a0,bs a1] (D6 a0 a1) (fun r:Int=>iv r):=Ad (N:=8) (L:=Ko) SI rfl (Nat.le_of_ble_eq_true rfl) (by kernel_rfl) (by
 unfold D6
 refine jS ⟨[V 0 (bs a0),V 1 (bs a1)],[],0⟩ ?_
 refine jR ?_
 refine jG 0 2 ⟨[V 5 (bs a0),V 6 (bs a1)],[],0⟩ ?_
 refine aE (i:=2) rfl rfl (vs:=[bs a0,bs a1]) (by kernel_rfl) rfl (LG a0 a1) (fun _=>rfl) ?_
 intro x1 h1
 refine jG 3 1 ⟨[V 4 (iv x1)],[],0⟩ ?_
 refine jN ?_
 refine AO ?_
 exact AP (.inr rfl) (v:=iv x1) (by kernel_rfl) rfl (AE _))
abbrev MZ:List LO:=[lo 4 (.assign (.const (.string ⟨#[]⟩))) 9]
abbrev ML:List LO:=[lm 5 0 9,lo 6 (.call ⟨.builtin .len,#[.tmp 5],#[9]⟩) 3,lo 7 (.binOp .gtr 3 (.tmp 6) (.const (.int .i64 0)) 3) 4,lm 8 7 4,lmg 9 0 9 8 true,lg 10 (.index 9 (.tmp 9) (.const (.int .i64 0))) 5 8 true,lmg 11 1 5 8 true,lg 12 (.binOp .eql 5 (.tmp 10) (.tmp 11) 5) 4 8 true,lo 13 (.pick (.tmp 8) (.tmp 12) (.const (.bool false))) 4]
abbrev Mm:List LO:=[lm 14 0 9,lo 15 (.slice 9 (.tmp 14) (some (.const (.int .i64 1))) none none) 9,lo 0 (.assign (.tmp 15)) 9]
abbrev MM:List LO:=[lm 16 0 9,lo 4 (.assign (.tmp 16)) 9]
abbrev GW:LC:=.seq (.reg false MZ) (.seq (.block 0 (.loop (.seq (.seq (.reg false ML) (.cond (.tmp 13) .skip (.exit 0))) (.block 1 (.reg false Mm))))) (.seq (.reg false MM) .ret))
theorem NF:BE E 127 17 [.tmp 4] GW:=⟨⟨Go.Proofs.Tryz.f127,by kernel_rfl,by kernel_rfl,by kernel_rfl,by kernel_rfl,by kernel_rfl⟩,rfl,rfl⟩
noncomputable def B3 (a1:Int):Str→Option (Step (Str) (Str)):=fun x4=>Option.bind (if (decide ((List.length x4:Int) > 0))=true then Option.bind (idx x4 0) (fun x12=>some (x12 == a1)) else some false:Option (Bool)) (fun x11=>(if x11=true then Option.bind (Fj x4 1 (List.length x4:Int)) (fun x13=>some (Step.next x13)) else some (Step.done x4)))
noncomputable def B2 (a0:Str) (a1:Int):Option (Str):=Option.bind (Bi (B3 a1) a0) (fun x9=>some x9)
theorem Mb (a0:Str) (a1:Int):Ct E 127 [bs a0,.s (.int .u8 a1)] (B2 a0 a1) (fun r:Str=>bs r):=Ad (N:=17) (L:=GW) NF rfl (Nat.le_of_ble_eq_true rfl) (by kernel_rfl) (by
 unfold B2
 refine jS ⟨[V 0 (bs a0),V 1 (.s (.int .u8 a1))],[],0⟩ ?_
 refine AT ?_
 refine Ai ?_
 refine As (fun x9=>⟨[V 0 (bs x9)],[],0⟩) (fun x9=>(.exit 0)) (Cj (fun x4=>⟨[V 0 (bs x4),V 1 (.s (.int .u8 a1))],[],0⟩) (wkR [] (AH _) AB) ?_) ?_
 ·intro x4
  unfold B3
  refine AT ?_
  refine jR ?_
  refine jG 0 4 ⟨[V 0 (bs x4),V 1 (.s (.int .u8 a1)),V 8 (bv (decide ((List.length x4:Int) > 0)))],[],0⟩ ?_
  refine Ak 4 5 (fun x11=>⟨[V 0 (bs x4),V 1 (.s (.int .u8 a1)),V 13 (bv x11)],[],0⟩) ?_ ?_
  ·refine jSp 8 ?_ ?_
   ·refine jG 0 1 ⟨[V 0 (bs x4),V 1 (.s (.int .u8 a1)),(8,.lit true),V 9 (bs x4)],[],0⟩ ?_
    refine An (i:=1) (mo:=idx x4 0) rfl rfl rfl rfl (fun _ hc=>Bd (kk:=.i64) (by kernel_rfl) (by kernel_rfl) (by kernel_rfl) hc) (fun _=>rfl) ?_
    intro x12 h12
    refine jG 2 3 ⟨[V 0 (bs x4),V 1 (.s (.int .u8 a1)),V 13 (bv (x12 == a1))],[],0⟩ ?_
    refine AQ rfl ?_
    exact AK rfl (wkR [] (AH _) AB)
   refine jG 0 5 ⟨[V 0 (bs x4),V 1 (.s (.int .u8 a1)),V 13 (bv false)],[],0⟩ ?_
   refine AQ rfl ?_
   exact AK rfl (wkR [] (AH _) AB)
  intro x11
  refine jN ?_
  refine jIf ?_ ?_
  ·refine AS ?_
   refine AN ?_
   refine Ai ?_
   refine CA ?_
   refine jG 0 1 ⟨[V 1 (.s (.int .u8 a1)),V 14 (bs x4)],[],0⟩ ?_
   refine An (i:=1) (mo:=Fj x4 1 (List.length x4:Int)) rfl rfl rfl rfl (fun _ hc=>He (by kernel_rfl) (by kernel_rfl) (by kernel_rfl) (by kernel_rfl) hc) (fun _=>rfl) ?_
   intro x13 h13
   refine jG 2 1 ⟨[V 0 (bs x13),V 1 (.s (.int .u8 a1))],[],0⟩ ?_
   refine AQ rfl ?_
   refine A8 ?_
   exact Ck (wkR [] (AH _) AB)
  refine CN ?_
  refine CM ?_
  exact BD rfl nofun (wkR [] (AH _) AB)
 intro x9
 refine CY ?_
 refine AN ?_
 refine jS ⟨[V 4 (bs x9)],[],0⟩ ?_
 refine AO ?_
 exact AP (.inr rfl) (v:=bs x9) (by kernel_rfl) rfl (AE _))
abbrev KN:List LO:=[lo 4 (.assign (.const (.string ⟨#[]⟩))) 9]
abbrev KT:List LO:=[lm 7 0 9,lo 8 (.binOp .eql 9 (.tmp 7) (.const (.string ⟨#[]⟩)) 9) 4,lm 9 8 4,lmg 10 1 9 9 false,lg 11 (.binOp .eql 9 (.tmp 10) (.const (.string ⟨#[]⟩)) 9) 4 9 false,lo 12 (.pick (.tmp 9) (.const (.bool true)) (.tmp 11)) 4]
abbrev KQ:List LO:=[lm 13 0 9,lo 4 (.assign (.tmp 13)) 9]
abbrev Kb:List LO:=[lm 14 1 9,lo 15 (.call ⟨.builtin .len,#[.tmp 14],#[9]⟩) 3,lo 16 (.binOp .eql 3 (.tmp 15) (.const (.int .i64 1)) 3) 4,lm 17 16 4,lmg 18 1 9 17 true,lg 19 (.index 9 (.tmp 18) (.const (.int .i64 0))) 5 17 true,lg 20 (.binOp .lss 5 (.tmp 19) (.const (.int .u8 128)) 5) 4 17 true,lo 21 (.pick (.tmp 17) (.tmp 20) (.const (.bool false))) 4]
abbrev Kl:List LO:=[lm 22 0 9,lm 23 1 9,lo 24 (.index 9 (.tmp 23) (.const (.int .i64 0))) 5,lo 25 (.call ⟨.value (.func 127),#[.tmp 22,.tmp 24],#[9,5]⟩) 9,lo 4 (.assign (.tmp 25)) 9]
abbrev Ka:List LO:=[lm 27 1 9,lo 28 (.call ⟨.value (.func 106),#[.tmp 27],#[9]⟩) 111,lm 26 28 111,lo 29 (.extract (.tmp 26) 0) 110,lo 30 (.extract (.tmp 26) 1) 4,lo 5 (.alloc 110) 0,ln (.store 110 (.tmp 5) (.tmp 29)) 0,lo 6 (.assign (.tmp 30)) 4]
abbrev KS:List LO:=[lm 31 6 4]
abbrev KP:List LO:=[lm 32 0 9,lo 33 (.call ⟨.value (.func 128),#[.tmp 32,.tmp 5],#[9,126]⟩) 9,lo 4 (.assign (.tmp 33)) 9]
abbrev Kd:List LO:=[lm 34 0 9,lm 35 1 9,lo 36 (.call ⟨.value (.func 129),#[.tmp 34,.tmp 35],#[9,9]⟩) 9,lo 4 (.assign (.tmp 36)) 9]
abbrev FZ:LC:=.seq (.reg false KN) (.seq (.seq (.reg false KT) (.cond (.tmp 12) (.seq (.reg false KQ) .ret) .skip)) (.seq (.seq (.reg false Kb) (.cond (.tmp 21) (.seq (.reg false Kl) .ret) .skip)) (.seq (.seq (.reg false Ka) (.seq (.reg false KS) (.cond (.tmp 31) (.seq (.reg false KP) .ret) .skip))) (.seq (.reg false Kd) .ret))))
theorem K7:BE E 109 37 [.tmp 4] FZ:=⟨⟨Go.Proofs.Tryz.f109,by kernel_rfl,by kernel_rfl,by kernel_rfl,by kernel_rfl,by kernel_rfl⟩,rfl,rfl⟩
noncomputable def Cs (a0:Str):Option (Str):=(if ((a0 == []) && true)=true then some a0 else Option.bind (B2 a0 48) (fun x1=>some x1))
theorem Kk (a0:Str):Ct E 109 [bs a0,bs [48]] (Cs a0) (fun r:Str=>bs r):=Ad (N:=37) (L:=FZ) K7 rfl (Nat.le_of_ble_eq_true rfl) (by kernel_rfl) (by
 unfold Cs
 refine jS ⟨[V 0 (bs a0),V 1 (bs [48])],[],0⟩ ?_
 refine AT ?_
 refine jS ⟨[V 0 (bs a0),V 1 (bs [48]),V 12 (bv ((a0 == []) && true))],[],0⟩ ?_
 refine jIf ?_ ?_
 ·refine jS ⟨[V 4 (bs a0)],[],0⟩ ?_
  refine AO ?_
  refine AZ ?_
  exact AP (.inr rfl) (v:=bs a0) (by kernel_rfl) rfl (AE _)
 refine AS ?_
 refine AN ?_
 refine AT ?_
 refine jR ?_
 refine jG 0 4 ⟨[V 0 (bs a0),V 1 (bs [48]),V 17 (bv true)],[],0⟩ ?_
 refine oD (g:=17) (b:=true) (by kernel_rfl) ?_
 refine jG 4 1 ⟨[V 0 (bs a0),V 1 (bs [48]),(17,.lit true),V 18 (bs [48])],[],0⟩ ?_
 refine GD (i:=5) (v:=.s (.int .u8 48)) (us:=[]) rfl rfl rfl rfl (Bd (s:=[48]) (j:=0) (c:=48) (kk:=.i64) (by kernel_rfl) (by kernel_rfl) (by kernel_rfl) rfl) rfl ?_
 refine jG 6 2 ⟨[V 0 (bs a0),V 1 (bs [48]),V 21 (bv true)],[],0⟩ ?_
 refine jN ?_
 refine Ow (c:=true) (by kernel_rfl) ?_
 refine jR ?_
 refine jG 0 2 ⟨[V 22 (bs a0),V 23 (bs [48])],[],0⟩ ?_
 refine GD (i:=2) (v:=.s (.int .u8 48)) (us:=[]) rfl rfl rfl rfl (Bd (s:=[48]) (j:=0) (c:=48) (kk:=.i64) (by kernel_rfl) (by kernel_rfl) (by kernel_rfl) rfl) rfl ?_
 refine jK 3 (Mb a0 48) ?_
 intro x1 h1
 refine jG 4 1 ⟨[V 4 (bs x1)],[],0⟩ ?_
 refine jN ?_
 refine AO ?_
 refine AZ ?_
 exact AP (.inr rfl) (v:=bs x1) (by kernel_rfl) rfl (AE _))
abbrev eO:List LO:=[lo 2 (.assign (.const (.string ⟨#[]⟩))) 9]
abbrev fW:List LO:=[lm 3 0 9,lo 4 (.call ⟨.value (.func 109),#[.tmp 3,.const (.string ⟨#[48]⟩)],#[9,9]⟩) 9,lo 0 (.assign (.tmp 4)) 9]
abbrev fB:List LO:=[lm 5 0 9,lo 6 (.binOp .eql 9 (.tmp 5) (.const (.string ⟨#[]⟩)) 9) 4]
abbrev dV:List LO:=[lo 2 (.assign (.const (.string ⟨#[48]⟩))) 9]
abbrev d9:List LO:=[lm 7 0 9,lo 2 (.assign (.tmp 7)) 9]
abbrev V2:LC:=.seq (.reg false eO) (.seq (.reg false fW) (.seq (.seq (.reg false fB) (.cond (.tmp 6) (.seq (.reg false dV) .ret) .skip)) (.seq (.reg false d9) .ret)))
theorem i9:BE E 86 8 [.tmp 2] V2:=⟨⟨Go.Proofs.Tryz.f86,by kernel_rfl,by kernel_rfl,by kernel_rfl,by kernel_rfl,by kernel_rfl⟩,rfl,rfl⟩
noncomputable def DF (a0:Str):Option (Str):=Option.bind (Cs a0) (fun x1=>(if (x1 == [])=true then some [48] else some x1))
theorem FK (a0:Str):Ct E 86 [bs a0] (DF a0) (fun r:Str=>bs r):=Ad (N:=8) (L:=V2) i9 rfl (Nat.le_of_ble_eq_true rfl) (by kernel_rfl) (by
 unfold DF
 refine jS ⟨[V 0 (bs a0)],[],0⟩ ?_
 refine jR ?_
 refine jG 0 1 ⟨[V 3 (bs a0)],[],0⟩ ?_
 refine jK 1 (Kk a0) ?_
 intro x1 h1
 refine jG 2 1 ⟨[V 0 (bs x1)],[],0⟩ ?_
 refine jN ?_
 refine AT ?_
 refine jS ⟨[V 0 (bs x1),V 6 (bv (x1 == []))],[],0⟩ ?_
 refine jIf ?_ ?_
 ·refine jS ⟨[V 2 (bs [48])],[],0⟩ ?_
  refine AO ?_
  refine AZ ?_
  exact AP (.inr rfl) (v:=bs [48]) (by kernel_rfl) rfl (AE _)
 refine AS ?_
 refine AN ?_
 refine jS ⟨[V 2 (bs x1)],[],0⟩ ?_
 refine AO ?_
 exact AP (.inr rfl) (v:=bs x1) (by kernel_rfl) rfl (AE _))
abbrev iW:List LO:=[lo 4 (.assign (.const (.int .i64 0))) 3]
abbrev kV:List LO:=[lm 5 0 9,lo 6 (.call ⟨.value (.func 86),#[.tmp 5],#[9]⟩) 9,lm 7 1 9,lo 8 (.call ⟨.value (.func 86),#[.tmp 7],#[9]⟩) 9,lo 0 (.assign (.tmp 6)) 9,lo 1 (.assign (.tmp 8)) 9]
abbrev jO:List LO:=[lm 9 0 9,lo 10 (.call ⟨.builtin .len,#[.tmp 9],#[9]⟩) 3,lm 11 1 9,lo 12 (.call ⟨.builtin .len,#[.tmp 11],#[9]⟩) 3,lo 13 (.call ⟨.value (.func 94),#[.tmp 10,.tmp 12],#[3,3]⟩) 3,lm 14 0 9,lm 15 1 9,lo 16 (.call ⟨.value (.func 116),#[.tmp 14,.tmp 15],#[9,9]⟩) 3,lo 17 (.buildSlice 117 2 #[(0,.tmp 13),(1,.tmp 16)]) 117,lo 18 (.call ⟨.value (.func 91),#[.tmp 17],#[117]⟩) 3,lo 4 (.assign (.tmp 18)) 3]
abbrev XS:LC:=.seq (.reg false iW) (.seq (.reg false kV) (.seq (.reg true jO) .ret))
theorem mU:BE E 92 19 [.tmp 4] XS:=⟨⟨Go.Proofs.Tryz.f92,by kernel_rfl,by kernel_rfl,by kernel_rfl,by kernel_rfl,by kernel_rfl⟩,rfl,rfl⟩
noncomputable def Fk (a0:Str) (a1:Str):Option (Int):=Option.bind (DF a0) (fun x1=>Option.bind (DF a1) (fun x2=>Option.bind (Co (List.length x1:Int) (List.length x2:Int)) (fun x3=>Option.bind (D6 x1 x2) (fun x4=>Option.bind (G6 [x3,x4]) (fun x5=>some x5)))))
theorem Fz (a0:Str) (a1:Str):Ct E 92 [bs a0,bs a1] (Fk a0 a1) (fun r:Int=>iv r):=Ad (N:=19) (L:=XS) mU rfl (Nat.le_of_ble_eq_true rfl) (by kernel_rfl) (by
 unfold Fk
 refine jS ⟨[V 0 (bs a0),V 1 (bs a1)],[],0⟩ ?_
 refine jR ?_
 refine jG 0 1 ⟨[V 1 (bs a1),V 5 (bs a0)],[],0⟩ ?_
 refine jK 1 (FK a0) ?_
 intro x1 h1
 refine jG 2 1 ⟨[V 6 (bs x1),V 7 (bs a1)],[],0⟩ ?_
 refine jK 3 (FK a1) ?_
 intro x2 h2
 refine jG 4 2 ⟨[V 0 (bs x1),V 1 (bs x2)],[],0⟩ ?_
 refine jN ?_
 refine jR ?_
 refine jG 0 4 ⟨[V 0 (bs x1),V 1 (bs x2),V 10 (iv (List.length x1:Int)),V 12 (iv (List.length x2:Int))],[],0⟩ ?_
 refine jK 4 (Fs (List.length x1:Int) (List.length x2:Int)) ?_
 intro x3 h3
 refine jG 5 2 ⟨[V 13 (iv x3),V 14 (bs x1),V 15 (bs x2)],[],0⟩ ?_
 refine jK 7 (J0 x1 x2) ?_
 intro x4 h4
 refine jG 8 1 ⟨[V 17 (.fsl 1 (List.map cI [x3,x4]))],[],0⟩ ?_
 refine jK 9 (Q4 [x3,x4]) ?_
 intro x5 h5
 refine jG 10 1 ⟨[V 4 (iv x5)],[],0⟩ ?_
 refine jN ?_
 refine AO ?_
 exact AP (.inr rfl) (v:=iv x5) (by kernel_rfl) rfl (AE _))
abbrev n9:List LO:=[lo 4 (.assign (.const (.bool false))) 4]
abbrev mR:List LO:=[lm 9 0 5,lo 10 (.binOp .geq 5 (.tmp 9) (.const (.int .u8 48)) 5) 4,lm 11 10 4,lmg 12 0 5 11 true,lg 13 (.binOp .leq 5 (.tmp 12) (.const (.int .u8 57)) 5) 4 11 true,lo 14 (.pick (.tmp 11) (.tmp 13) (.const (.bool false))) 4,lm 15 0 5,lo 16 (.binOp .geq 5 (.tmp 15) (.const (.int .u8 97)) 5) 4,lm 17 16 4,lmg 18 0 5 17 true,lg 19 (.binOp .leq 5 (.tmp 18) (.const (.int .u8 122)) 5) 4 17 true,lo 20 (.pick (.tmp 17) (.tmp 19) (.const (.bool false))) 4,lm 21 0 5,lo 22 (.binOp .geq 5 (.tmp 21) (.const (.int .u8 65)) 5) 4,lm 23 22 4,lmg 24 0 5 23 true,lg 25 (.binOp .leq 5 (.tmp 24) (.const (.int .u8 90)) 5) 4 23 true,lo 26 (.pick (.tmp 23) (.tmp 25) (.const (.bool false))) 4,lo 5 (.assign (.tmp 14)) 4,lo 6 (.assign (.tmp 20)) 4,lo 7 (.assign (.tmp 26)) 4]
abbrev nI:List LO:=[lm 27 0 5,lo 28 (.binOp .eql 5 (.tmp 27) (.const (.int .u8 32)) 5) 4,lm 29 28 4,lmg 30 0 5 29 false,lg 31 (.binOp .eql 5 (.tmp 30) (.const (.int .u8 9)) 5) 4 29 false,lo 32 (.pick (.tmp 29) (.const (.bool true)) (.tmp 31)) 4,lo 8 (.assign (.tmp 32)) 4]
abbrev nS:List LO:=[lm 33 1 3]
abbrev mF:List LO:=[lo 35 (.binOp .eql 3 (.tmp 33) (.const (.int .i64 1)) 3) 4,lo 34 (.assign (.tmp 35)) 4]
abbrev lY:List LO:=[lm 36 5 4,lo 4 (.assign (.tmp 36)) 4]
abbrev mP:List LO:=[lo 38 (.binOp .eql 3 (.tmp 33) (.const (.int .i64 2)) 3) 4,lo 37 (.assign (.tmp 38)) 4]
abbrev nJ:List LO:=[lm 39 6 4,lo 4 (.assign (.tmp 39)) 4]
abbrev nF:List LO:=[lo 41 (.binOp .eql 3 (.tmp 33) (.const (.int .i64 3)) 3) 4,lo 40 (.assign (.tmp 41)) 4]
abbrev kQ:List LO:=[lm 42 7 4,lo 4 (.assign (.tmp 42)) 4]
abbrev jH:List LO:=[lo 44 (.binOp .eql 3 (.tmp 33) (.const (.int .i64 4)) 3) 4,lo 43 (.assign (.tmp 44)) 4]
abbrev gY:List LO:=[lm 45 6 4,lm 46 45 4,lmg 47 7 4 46 false,lo 48 (.pick (.tmp 46) (.const (.bool true)) (.tmp 47)) 4,lo 4 (.assign (.tmp 48)) 4]
abbrev jV:List LO:=[lo 50 (.binOp .eql 3 (.tmp 33) (.const (.int .i64 5)) 3) 4,lo 49 (.assign (.tmp 50)) 4]
abbrev jA:List LO:=[lm 51 5 4,lm 52 51 4,lmg 53 6 4 52 false,lo 54 (.pick (.tmp 52) (.const (.bool true)) (.tmp 53)) 4,lm 55 54 4,lmg 56 7 4 55 false,lo 57 (.pick (.tmp 55) (.const (.bool true)) (.tmp 56)) 4,lo 4 (.assign (.tmp 57)) 4]
abbrev jI:List LO:=[lo 59 (.binOp .eql 3 (.tmp 33) (.const (.int .i64 6)) 3) 4,lo 58 (.assign (.tmp 59)) 4]
abbrev lL:List LO:=[lm 60 8 4,lo 4 (.assign (.tmp 60)) 4]
abbrev kJ:List LO:=[lo 62 (.binOp .eql 3 (.tmp 33) (.const (.int .i64 7)) 3) 4,lo 61 (.assign (.tmp 62)) 4]
abbrev kU:List LO:=[lm 63 8 4,lm 64 63 4,lmg 65 0 5 64 false,lg 66 (.binOp .eql 5 (.tmp 65) (.const (.int .u8 10)) 5) 4 64 false,lo 67 (.pick (.tmp 64) (.const (.bool true)) (.tmp 66)) 4,lm 68 67 4,lmg 69 0 5 68 false,lg 70 (.binOp .eql 5 (.tmp 69) (.const (.int .u8 13)) 5) 4 68 false,lo 71 (.pick (.tmp 68) (.const (.bool true)) (.tmp 70)) 4,lo 4 (.assign (.tmp 71)) 4]
abbrev lQ:List LO:=[lo 4 (.assign (.const (.bool false))) 4]
abbrev bD:LC:=.seq (.reg false n9) (.seq (.reg false mR) (.seq (.reg false nI) (.seq (.seq (.reg false nS) (.block 0 (.seq (.reg false mF) (.cond (.tmp 34) (.seq (.reg false lY) .ret) (.seq (.reg false mP) (.cond (.tmp 37) (.seq (.reg false nJ) .ret) (.seq (.reg false nF) (.cond (.tmp 40) (.seq (.reg false kQ) .ret) (.seq (.reg false jH) (.cond (.tmp 43) (.seq (.reg false gY) .ret) (.seq (.reg false jV) (.cond (.tmp 49) (.seq (.reg false jA) .ret) (.seq (.reg false jI) (.cond (.tmp 58) (.seq (.reg false lL) .ret) (.seq (.reg false kJ) (.cond (.tmp 61) (.seq (.reg false kU) .ret) .skip)))))))))))))))) (.seq (.reg false lQ) .ret))))
theorem rA:BE E 71 72 [.tmp 4] bD:=⟨⟨Go.Proofs.Tryz.f71,by kernel_rfl,by kernel_rfl,by kernel_rfl,by kernel_rfl,by kernel_rfl⟩,rfl,rfl⟩
noncomputable def DZ (a0:Int) (a1:Int):Option (Bool):=(if (a1 == 1)=true then some ((decide (a0≥48)) && (decide (a0≤57))) else (if (a1 == 2)=true then some ((decide (a0≥97)) && (decide (a0≤122))) else (if (a1 == 3)=true then some ((decide (a0≥65)) && (decide (a0≤90))) else (if (a1 == 4)=true then some (((decide (a0≥97)) && (decide (a0≤122))) || ((decide (a0≥65)) && (decide (a0≤90)))) else (if (a1 == 5)=true then some ((((decide (a0≥48)) && (decide (a0≤57))) || ((decide (a0≥97)) && (decide (a0≤122)))) || ((decide (a0≥65)) && (decide (a0≤90)))) else (if (a1 == 6)=true then some ((a0 == 32) || (a0 == 9)) else (if (a1 == 7)=true then some ((((a0 == 32) || (a0 == 9)) || (a0 == 10)) || (a0 == 13)) else some false)))))))
theorem E0 (a0:Int) (a1:Int):Ct E 71 [.s (.int .u8 a0),iv a1] (DZ a0 a1) (fun r:Bool=>bv r):=Ad (N:=72) (L:=bD) rA rfl (Nat.le_of_ble_eq_true rfl) (by kernel_rfl) (by
 unfold DZ
 refine jS ⟨[V 0 (.s (.int .u8 a0)),V 1 (iv a1)],[],0⟩ ?_
 refine jS ⟨[V 0 (.s (.int .u8 a0)),V 1 (iv a1),V 5 (bv ((decide (a0≥48)) && (decide (a0≤57)))),V 6 (bv ((decide (a0≥97)) && (decide (a0≤122)))),V 7 (bv ((decide (a0≥65)) && (decide (a0≤90))))],[],0⟩ ?_
 refine jS ⟨[V 0 (.s (.int .u8 a0)),V 1 (iv a1),V 5 (bv ((decide (a0≥48)) && (decide (a0≤57)))),V 6 (bv ((decide (a0≥97)) && (decide (a0≤122)))),V 7 (bv ((decide (a0≥65)) && (decide (a0≤90)))),V 8 (bv ((a0 == 32) || (a0 == 9)))],[],0⟩ ?_
 refine AT ?_
 refine jS ⟨[V 0 (.s (.int .u8 a0)),V 5 (bv ((decide (a0≥48)) && (decide (a0≤57)))),V 6 (bv ((decide (a0≥97)) && (decide (a0≤122)))),V 7 (bv ((decide (a0≥65)) && (decide (a0≤90)))),V 8 (bv ((a0 == 32) || (a0 == 9))),V 33 (iv a1)],[],0⟩ ?_
 refine Ai ?_
 refine jS ⟨[V 0 (.s (.int .u8 a0)),V 5 (bv ((decide (a0≥48)) && (decide (a0≤57)))),V 6 (bv ((decide (a0≥97)) && (decide (a0≤122)))),V 7 (bv ((decide (a0≥65)) && (decide (a0≤90)))),V 8 (bv ((a0 == 32) || (a0 == 9))),V 33 (iv a1),V 34 (bv (a1 == 1))],[],0⟩ ?_
 refine jIf ?_ ?_
 ·refine jS ⟨[V 4 (bv ((decide (a0≥48)) && (decide (a0≤57))))],[],0⟩ ?_
  refine AO ?_
  refine Aq ?_
  refine AZ ?_
  exact AP (.inr rfl) (v:=bv ((decide (a0≥48)) && (decide (a0≤57)))) (by kernel_rfl) rfl (AE _)
 refine jS ⟨[V 0 (.s (.int .u8 a0)),V 5 (bv ((decide (a0≥48)) && (decide (a0≤57)))),V 6 (bv ((decide (a0≥97)) && (decide (a0≤122)))),V 7 (bv ((decide (a0≥65)) && (decide (a0≤90)))),V 8 (bv ((a0 == 32) || (a0 == 9))),V 33 (iv a1),V 37 (bv (a1 == 2))],[],0⟩ ?_
 refine jIf ?_ ?_
 ·refine jS ⟨[V 4 (bv ((decide (a0≥97)) && (decide (a0≤122))))],[],0⟩ ?_
  refine AO ?_
  refine Aq ?_
  refine AZ ?_
  exact AP (.inr rfl) (v:=bv ((decide (a0≥97)) && (decide (a0≤122)))) (by kernel_rfl) rfl (AE _)
 refine jS ⟨[V 0 (.s (.int .u8 a0)),V 5 (bv ((decide (a0≥48)) && (decide (a0≤57)))),V 6 (bv ((decide (a0≥97)) && (decide (a0≤122)))),V 7 (bv ((decide (a0≥65)) && (decide (a0≤90)))),V 8 (bv ((a0 == 32) || (a0 == 9))),V 33 (iv a1),V 40 (bv (a1 == 3))],[],0⟩ ?_
 refine jIf ?_ ?_
 ·refine jS ⟨[V 4 (bv ((decide (a0≥65)) && (decide (a0≤90))))],[],0⟩ ?_
  refine AO ?_
  refine Aq ?_
  refine AZ ?_
  exact AP (.inr rfl) (v:=bv ((decide (a0≥65)) && (decide (a0≤90)))) (by kernel_rfl) rfl (AE _)
 refine jS ⟨[V 0 (.s (.int .u8 a0)),V 5 (bv ((decide (a0≥48)) && (decide (a0≤57)))),V 6 (bv ((decide (a0≥97)) && (decide (a0≤122)))),V 7 (bv ((decide (a0≥65)) && (decide (a0≤90)))),V 8 (bv ((a0 == 32) || (a0 == 9))),V 33 (iv a1),V 43 (bv (a1 == 4))],[],0⟩ ?_
 refine jIf ?_ ?_
 ·refine jS ⟨[V 4 (bv (((decide (a0≥97)) && (decide (a0≤122))) || ((decide (a0≥65)) && (decide (a0≤90)))))],[],0⟩ ?_
  refine AO ?_
  refine Aq ?_
  refine AZ ?_
  exact AP (.inr rfl) (v:=bv (((decide (a0≥97)) && (decide (a0≤122))) || ((decide (a0≥65)) && (decide (a0≤90))))) (by kernel_rfl) rfl (AE _)
 refine jS ⟨[V 0 (.s (.int .u8 a0)),V 5 (bv ((decide (a0≥48)) && (decide (a0≤57)))),V 6 (bv ((decide (a0≥97)) && (decide (a0≤122)))),V 7 (bv ((decide (a0≥65)) && (decide (a0≤90)))),V 8 (bv ((a0 == 32) || (a0 == 9))),V 33 (iv a1),V 49 (bv (a1 == 5))],[],0⟩ ?_
 refine jIf ?_ ?_
 ·refine jS ⟨[V 4 (bv ((((decide (a0≥48)) && (decide (a0≤57))) || ((decide (a0≥97)) && (decide (a0≤122)))) || ((decide (a0≥65)) && (decide (a0≤90)))))],[],0⟩ ?_
  refine AO ?_
  refine Aq ?_
  refine AZ ?_
  exact AP (.inr rfl) (v:=bv ((((decide (a0≥48)) && (decide (a0≤57))) || ((decide (a0≥97)) && (decide (a0≤122)))) || ((decide (a0≥65)) && (decide (a0≤90))))) (by kernel_rfl) rfl (AE _)
 refine jS ⟨[V 0 (.s (.int .u8 a0)),V 8 (bv ((a0 == 32) || (a0 == 9))),V 33 (iv a1),V 58 (bv (a1 == 6))],[],0⟩ ?_
 refine jIf ?_ ?_
 ·refine jS ⟨[V 4 (bv ((a0 == 32) || (a0 == 9)))],[],0⟩ ?_
  refine AO ?_
  refine Aq ?_
  refine AZ ?_
  exact AP (.inr rfl) (v:=bv ((a0 == 32) || (a0 == 9))) (by kernel_rfl) rfl (AE _)
 refine jS ⟨[V 0 (.s (.int .u8 a0)),V 8 (bv ((a0 == 32) || (a0 == 9))),V 61 (bv (a1 == 7))],[],0⟩ ?_
 refine jIf ?_ ?_
 ·refine jS ⟨[V 4 (bv ((((a0 == 32) || (a0 == 9)) || (a0 == 10)) || (a0 == 13)))],[],0⟩ ?_
  refine AO ?_
  refine Aq ?_
  refine AZ ?_
  exact AP (.inr rfl) (v:=bv ((((a0 == 32) || (a0 == 9)) || (a0 == 10)) || (a0 == 13))) (by kernel_rfl) rfl (AE _)
 refine AS ?_
 refine A8 ?_
 refine AN ?_
 refine jS ⟨[V 4 (bv false)],[],0⟩ ?_
 refine AO ?_
 exact AP (.inr rfl) (v:=bv false) (by kernel_rfl) rfl (AE _))
abbrev iE:List LO:=[lo 6 (.assign (.const (.int .i64 0))) 3]
abbrev jF:List LO:=[lm 8 1 3,lo 9 (.binOp .lss 3 (.tmp 8) (.const (.int .i64 0)) 3) 4,lm 10 9 4,lmg 11 1 3 10 false,lmg 12 0 9 10 false,lg 13 (.call ⟨.builtin .len,#[.tmp 12],#[9]⟩) 3 10 false,lg 14 (.binOp .gtr 3 (.tmp 11) (.tmp 13) 3) 4 10 false,lo 15 (.pick (.tmp 10) (.const (.bool true)) (.tmp 14)) 4]
abbrev iY:List LO:=[lm 16 1 3,lo 6 (.assign (.tmp 16)) 3]
abbrev iV:List LO:=[lm 17 0 9,lo 18 (.call ⟨.builtin .len,#[.tmp 17],#[9]⟩) 3,lm 19 1 3,lo 20 (.binOp .sub 3 (.tmp 18) (.tmp 19) 3) 3,lo 21 (.move (.const (.int .i64 0))) 3]
abbrev jX:List LO:=[lo 22 (.binOp .lss 3 (.tmp 21) (.tmp 20) 3) 4]
abbrev gM:List LO:=[lm 23 21 3,lo 7 (.assign (.tmp 23)) 3]
abbrev j9:List LO:=[lm 24 0 9,lm 25 1 3,lm 26 7 3,lo 27 (.binOp .add 3 (.tmp 25) (.tmp 26) 3) 3,lo 28 (.index 9 (.tmp 24) (.tmp 27)) 5,lm 29 2 3,lo 30 (.call ⟨.value (.func 71),#[.tmp 28,.tmp 29],#[5,3]⟩) 4,lo 31 (.unOp .not 4 (.tmp 30)) 4]
abbrev lJ:List LO:=[lm 32 1 3,lm 33 7 3,lo 34 (.binOp .add 3 (.tmp 32) (.tmp 33) 3) 3,lo 6 (.assign (.tmp 34)) 3]
abbrev j5:List LO:=[lo 35 (.binOp .add 3 (.tmp 21) (.const (.int .i64 1)) 3) 3,lm 21 35 3]
abbrev cP:List LO:=[lm 36 0 9,lo 37 (.call ⟨.builtin .len,#[.tmp 36],#[9]⟩) 3,lo 6 (.assign (.tmp 37)) 3]
abbrev XT:LC:=.seq (.reg false iE) (.seq (.seq (.reg false jF) (.cond (.tmp 15) (.seq (.reg false iY) .ret) .skip)) (.seq (.seq (.reg false iV) (.block 0 (.loop (.seq (.reg false jX) (.seq (.cond (.tmp 22) .skip (.exit 0)) (.seq (.block 1 (.seq (.reg false gM) (.seq (.reg false j9) (.cond (.tmp 31) (.seq (.reg false lJ) .ret) .skip)))) (.reg false j5))))))) (.seq (.reg false cP) .ret)))
theorem m5:BE E 69 38 [.tmp 6] XT:=⟨⟨Go.Proofs.Tryz.f69,by kernel_rfl,by kernel_rfl,by kernel_rfl,by kernel_rfl,by kernel_rfl⟩,rfl,rfl⟩
noncomputable def HI (a0:Str) (a1:Int) (a2:Int):Int→Option (Step (Int) ((Int) ⊕ (Unit))):=fun x3=>(if (decide (x3 < (w64 ((List.length a0:Int) - a1))))=true then Option.bind (idx a0 (w64 (a1 + x3))) (fun x8=>Option.bind (DZ x8 a2) (fun x9=>(if (!x9)=true then some (Step.done (Sum.inl (w64 (a1 + x3)))) else some (Step.next (w64 (x3 + 1)))))) else some (Step.done (Sum.inr ())))
noncomputable def Cq (a0:Str) (a1:Int) (a2:Int):Option (Int):=(if ((decide (a1 < 0)) || (decide (a1 > (List.length a0:Int))))=true then some a1 else Option.bind (Bi (HI a0 a1 a2) 0) (fun y=>match y with | Sum.inl x7=>some x7 | Sum.inr _=>some (List.length a0:Int)))
theorem Dm (a0:Str) (a1:Int) (a2:Int):Ct E 69 [bs a0,iv a1,iv a2] (Cq a0 a1 a2) (fun r:Int=>iv r):=Ad (N:=38) (L:=XT) m5 rfl (Nat.le_of_ble_eq_true rfl) (by kernel_rfl) (by
 unfold Cq
 refine jS ⟨[V 0 (bs a0),V 1 (iv a1),V 2 (iv a2)],[],0⟩ ?_
 refine AT ?_
 refine jS ⟨[V 0 (bs a0),V 1 (iv a1),V 2 (iv a2),V 15 (bv ((decide (a1 < 0)) || (decide (a1 > (List.length a0:Int)))))],[],0⟩ ?_
 refine jIf ?_ ?_
 ·refine jS ⟨[V 6 (iv a1)],[],0⟩ ?_
  refine AO ?_
  refine AZ ?_
  exact AP (.inr rfl) (v:=iv a1) (by kernel_rfl) rfl (AE _)
 refine AS ?_
 refine AN ?_
 refine AT ?_
 refine jS ⟨[V 0 (bs a0),V 1 (iv a1),V 2 (iv a2),V 20 (iv (w64 ((List.length a0:Int) - a1))),V 21 (iv 0)],[],0⟩ ?_
 refine Ai ?_
 refine As (fun y=>match y with | Sum.inl x7=>⟨[V 6 (iv x7)],[],0⟩ | Sum.inr _=>⟨[V 0 (bs a0)],[],0⟩) (fun y=>match y with | Sum.inl x7=>.ret | Sum.inr _=>(.exit 0)) (Cj (fun x3=>⟨[V 0 (bs a0),V 1 (iv a1),V 2 (iv a2),V 20 (iv (w64 ((List.length a0:Int) - a1))),V 21 (iv x3)],[],0⟩) (wkR [] (AH _) AB) ?_) ?_
 ·intro x3
  unfold HI
  refine jS ⟨[V 0 (bs a0),V 1 (iv a1),V 2 (iv a2),V 20 (iv (w64 ((List.length a0:Int) - a1))),V 21 (iv x3),V 22 (bv (decide (x3 < (w64 ((List.length a0:Int) - a1)))))],[],0⟩ ?_
  refine AT ?_
  refine jIf ?_ ?_
  ·refine AS ?_
   refine AN ?_
   refine AT ?_
   refine Ai ?_
   refine jS ⟨[V 0 (bs a0),V 1 (iv a1),V 2 (iv a2),V 7 (iv x3),V 20 (iv (w64 ((List.length a0:Int) - a1))),V 21 (iv x3)],[],0⟩ ?_
   refine jR ?_
   refine jG 0 4 ⟨[V 0 (bs a0),V 1 (iv a1),V 2 (iv a2),V 7 (iv x3),V 20 (iv (w64 ((List.length a0:Int) - a1))),V 21 (iv x3),V 24 (bs a0),V 27 (iv (w64 (a1 + x3)))],[],0⟩ ?_
   refine An (i:=4) (mo:=idx a0 (w64 (a1 + x3))) rfl rfl rfl rfl (fun _ hc=>Bd (kk:=.i64) (by kernel_rfl) (by kernel_rfl) (by kernel_rfl) hc) (fun _=>rfl) ?_
   intro x8 h8
   refine jG 5 1 ⟨[V 0 (bs a0),V 1 (iv a1),V 2 (iv a2),V 7 (iv x3),V 20 (iv (w64 ((List.length a0:Int) - a1))),V 21 (iv x3),V 28 (.s (.int .u8 x8)),V 29 (iv a2)],[],0⟩ ?_
   refine jK 6 (E0 x8 a2) ?_
   intro x9 h9
   refine jG 7 1 ⟨[V 0 (bs a0),V 1 (iv a1),V 2 (iv a2),V 7 (iv x3),V 20 (iv (w64 ((List.length a0:Int) - a1))),V 21 (iv x3),V 31 (bv (!x9))],[],0⟩ ?_
   refine jN ?_
   refine jIf ?_ ?_
   ·refine jS ⟨[V 6 (iv (w64 (a1 + x3)))],[],0⟩ ?_
    refine AO ?_
    refine Aq ?_
    refine AZ ?_
    exact BD rfl nofun (wkR [] (AH _) AB)
   refine AS ?_
   refine A8 ?_
   refine AN ?_
   refine jT ⟨[V 0 (bs a0),V 1 (iv a1),V 2 (iv a2),V 20 (iv (w64 ((List.length a0:Int) - a1))),V 21 (iv (w64 (x3 + 1)))],[],0⟩ ?_
   exact Ck (wkR [] (AH _) AB)
  refine CN ?_
  refine CM ?_
  exact BD rfl nofun (wkR [] (AH _) AB)
 rintro (x7 | _)
 ·refine Aq ?_
  refine AZ ?_
  exact AP (.inr rfl) (v:=iv x7) (by kernel_rfl) rfl (AE _)
 refine CY ?_
 refine AN ?_
 refine jS ⟨[V 6 (iv (List.length a0:Int))],[],0⟩ ?_
 refine AO ?_
 exact AP (.inr rfl) (v:=iv (List.length a0:Int)) (by kernel_rfl) rfl (AE _))
abbrev Th:List LO:=[lo 4 (.assign (.const (.string ⟨#[]⟩))) 9]
abbrev Tr:List LO:=[lm 6 0 78,lo 7 (.nilCheck (.tmp 6)) 0,lo 8 (.fieldAddr 80 (.tmp 7) 1) 0,lo 9 (.load 3 (.tmp 8)) 3,lo 5 (.assign (.tmp 9)) 3]
abbrev Tk:List LO:=[lm 10 0 78,lm 11 0 78,lo 12 (.nilCheck (.tmp 11)) 0,lo 13 (.fieldAddr 80 (.tmp 12) 0) 0,lo 14 (.load 9 (.tmp 13)) 9,lm 15 0 78,lo 16 (.nilCheck (.tmp 15)) 0,lo 17 (.fieldAddr 80 (.tmp 16) 1) 0,lo 18 (.load 3 (.tmp 17)) 3,lm 19 1 3,lo 20 (.call ⟨.value (.func 69),#[.tmp 14,.tmp 18,.tmp 19],#[9,3,3]⟩) 3,lo 21 (.nilCheck (.tmp 10)) 0,lo 22 (.fieldAddr 80 (.tmp 21) 1) 0,ln (.store 3 (.tmp 22) (.tmp 20)) 0]
abbrev TN:List LO:=[lm 23 0 78,lo 24 (.nilCheck (.tmp 23)) 0,lo 25 (.fieldAddr 80 (.tmp 24) 0) 0,lo 26 (.load 9 (.tmp 25)) 9,lm 27 5 3,lm 28 0 78,lo 29 (.nilCheck (.tmp 28)) 0,lo 30 (.fieldAddr 80 (.tmp 29) 1) 0,lo 31 (.load 3 (.tmp 30)) 3,lo 32 (.slice 9 (.tmp 26) (some (.tmp 27)) (some (.tmp 31)) none) 9,lo 4 (.assign (.tmp 32)) 9]
abbrev Mq:LC:=.seq (.reg false Th) (.seq (.reg false Tr) (.seq (.reg true Tk) (.seq (.reg true TN) .ret)))
theorem UE:BE E 85 33 [.tmp 4] Mq:=⟨⟨Go.Proofs.Tryz.f85,by kernel_rfl,by kernel_rfl,by kernel_rfl,by kernel_rfl,by kernel_rfl⟩,rfl,rfl⟩
abbrev UF (a0:Str) (a1:Int) (a2:Int) (a3:Int) (a4:Int) (r:Str × Int):CS:=⟨[V 4 (bs r.1)],[W 0 4 [bs a0,iv r.2,iv a2,iv a3]],1⟩
noncomputable def Dj (a0:Str) (a1:Int) (a2:Int) (a3:Int) (a4:Int):Option (Str × Int):=Option.bind (Cq a0 a1 a4) (fun x5=>Option.bind (Fj a0 a1 x5) (fun x6=>some (x6,x5)))
theorem Kt (a0:Str) (a1:Int) (a2:Int) (a3:Int) (a4:Int):CtM E 85 [pt 0 4,iv a4] [W 0 4 [bs a0,iv a1,iv a2,iv a3]] 1 (Dj a0 a1 a2 a3 a4) (fun r:Str × Int=>bs r.1) (fun r:Str × Int=>[W 0 4 [bs a0,iv r.2,iv a2,iv a3]]) 1:=Bf (N:=33) (L:=Mq) UE rfl (Nat.le_of_ble_eq_true rfl) (fun F hF=>by
 unfold Dj
 refine jS ⟨[V 0 (pt 0 4),V 1 (iv a4)],[W 0 4 [bs a0,iv a1,iv a2,iv a3]],1⟩ ?_
 refine jS ⟨[V 0 (pt 0 4),V 1 (iv a4),V 5 (iv a1)],[W 0 4 [bs a0,iv a1,iv a2,iv a3]],1⟩ ?_
 refine jR ?_
 refine jG 0 10 ⟨[V 0 (pt 0 4),V 5 (iv a1),V 10 (pt 0 4),V 14 (bs a0),V 18 (iv a1),V 19 (iv a4)],[W 0 4 [bs a0,iv a1,iv a2,iv a3]],1⟩ ?_
 refine jK 10 (Dm a0 a1 a4) ?_
 intro x5 h5
 refine jG 11 3 ⟨[V 0 (pt 0 4),V 5 (iv a1)],[W 0 4 [bs a0,iv x5,iv a2,iv a3]],1⟩ ?_
 refine jN ?_
 refine jR ?_
 refine jG 0 9 ⟨[V 26 (bs a0),V 27 (iv a1),V 31 (iv x5)],[W 0 4 [bs a0,iv x5,iv a2,iv a3]],1⟩ ?_
 refine An (i:=9) (mo:=Fj a0 a1 x5) rfl rfl rfl rfl (fun _ hc=>He (by kernel_rfl) (by kernel_rfl) (by kernel_rfl) (by kernel_rfl) hc) (fun _=>rfl) ?_
 intro x6 h6
 refine jG 10 1 ⟨[V 4 (bs x6)],[W 0 4 [bs a0,iv x5,iv a2,iv a3]],1⟩ ?_
 refine jN ?_
 refine AO ?_
 exact A7 (UF a0 a1 a2 a3 a4 (x6,x5)) (.inr rfl) (wkR [(0,some 0)] (AY hF (k:=1) rfl) (pc (hC 0) AB)))
abbrev PZ:List LO:=[lo 2 (.assign (.const (.string ⟨#[]⟩))) 9]
abbrev Ot:List LO:=[lm 3 0 78,lo 4 (.call ⟨.value (.func 85),#[.tmp 3,.const (.int .i64 1)],#[78,3]⟩) 9,lo 5 (.call ⟨.value (.func 86),#[.tmp 4],#[9]⟩) 9,lo 2 (.assign (.tmp 5)) 9]
abbrev JT:LC:=.seq (.reg false PZ) (.seq (.reg false Ot) .ret)
theorem Qn:BE E 79 6 [.tmp 2] JT:=⟨⟨Go.Proofs.Tryz.f79,by kernel_rfl,by kernel_rfl,by kernel_rfl,by kernel_rfl,by kernel_rfl⟩,rfl,rfl⟩
abbrev Qk (a0:Str) (a1:Int) (a2:Int) (a3:Int) (r:Str × Int):CS:=⟨[V 2 (bs r.1)],[W 0 4 [bs a0,iv r.2,iv a2,iv a3]],1⟩
noncomputable def Br (a0:Str) (a1:Int) (a2:Int) (a3:Int):Option (Str × Int):=Option.bind (Dj a0 a1 a2 a3 1) (fun (x6,x7)=>Option.bind (DF x6) (fun x8=>some (x8,x7)))
theorem DN (a0:Str) (a1:Int) (a2:Int) (a3:Int):CtM E 79 [pt 0 4] [W 0 4 [bs a0,iv a1,iv a2,iv a3]] 1 (Br a0 a1 a2 a3) (fun r:Str × Int=>bs r.1) (fun r:Str × Int=>[W 0 4 [bs a0,iv r.2,iv a2,iv a3]]) 1:=Bf (N:=6) (L:=JT) Qn rfl (Nat.le_of_ble_eq_true rfl) (fun F hF=>by
 unfold Br
 refine jS ⟨[V 0 (pt 0 4)],[W 0 4 [bs a0,iv a1,iv a2,iv a3]],1⟩ ?_
 refine jR ?_
 refine jG 0 1 ⟨[V 3 (pt 0 4)],[W 0 4 [bs a0,iv a1,iv a2,iv a3]],1⟩ ?_
 refine Am 1 [(0,some 0)] [(0,some 0)] (fun r:Str × Int=>[W 0 4 [bs a0,iv r.2,iv a2,iv a3]]) (fun r:Str × Int=>bs r.1) 1 (Kt a0 a1 a2 a3 1) (pc (hC 0) AB) (fun r=>(pc (.inr (hC 0)) AB)) ?_
 rintro⟨x6,x7⟩ hm2
 refine jK 2 (FK x6) ?_
 intro x8 h8
 refine jG 3 1 ⟨[V 2 (bs x8)],[W 0 4 [bs a0,iv x7,iv a2,iv a3]],1⟩ ?_
 refine jN ?_
 refine AO ?_
 exact A7 (Qk a0 a1 a2 a3 (x8,x7)) (.inr rfl) (wkR [(0,some 0)] (AY hF (k:=1) rfl) (pc (hC 0) AB)))
abbrev QO:List LO:=[lo 2 (.assign (.const (.string ⟨#[]⟩))) 9]
abbrev QK:List LO:=[lm 5 0 78,lo 6 (.nilCheck (.tmp 5)) 0,lo 7 (.fieldAddr 80 (.tmp 6) 0) 0,lo 8 (.load 9 (.tmp 7)) 9,lm 9 0 78,lo 10 (.nilCheck (.tmp 9)) 0,lo 11 (.fieldAddr 80 (.tmp 10) 1) 0,lo 12 (.load 3 (.tmp 11)) 3,lo 13 (.call ⟨.value (.func 69),#[.tmp 8,.tmp 12,.const (.int .i64 1)],#[9,3,3]⟩) 3,lo 3 (.assign (.tmp 13)) 3]
abbrev Qp:List LO:=[lm 14 3 3,lm 15 0 78,lo 16 (.nilCheck (.tmp 15)) 0,lo 17 (.fieldAddr 80 (.tmp 16) 1) 0,lo 18 (.load 3 (.tmp 17)) 3,lo 19 (.binOp .eql 3 (.tmp 14) (.tmp 18) 3) 4,lm 20 19 4,lmg 21 3 3 20 false,lmg 22 0 78 20 false,lg 23 (.nilCheck (.tmp 22)) 0 20 false,lg 24 (.fieldAddr 80 (.tmp 23) 0) 0 20 false,lg 25 (.load 9 (.tmp 24)) 9 20 false,lg 26 (.call ⟨.builtin .len,#[.tmp 25],#[9]⟩) 3 20 false,lg 27 (.binOp .eql 3 (.tmp 21) (.tmp 26) 3) 4 20 false,lo 28 (.pick (.tmp 20) (.const (.bool true)) (.tmp 27)) 4,lm 29 28 4,lmg 30 0 78 29 false,lg 31 (.nilCheck (.tmp 30)) 0 29 false,lg 32 (.fieldAddr 80 (.tmp 31) 0) 0 29 false,lg 33 (.load 9 (.tmp 32)) 9 29 false,lmg 34 3 3 29 false,lg 35 (.index 9 (.tmp 33) (.tmp 34)) 5 29 false,lg 36 (.binOp .neq 5 (.tmp 35) (.const (.int .u8 33)) 5) 4 29 false,lo 37 (.pick (.tmp 29) (.const (.bool true)) (.tmp 36)) 4]
abbrev QJ:List LO:=[lo 2 (.assign (.const (.string ⟨#[48]⟩))) 9]
abbrev Qc:List LO:=[lm 38 0 78,lo 39 (.call ⟨.value (.func 79),#[.tmp 38],#[78]⟩) 9,lo 4 (.assign (.tmp 39)) 9]
abbrev QR:List LO:=[lm 40 0 78,lo 41 (.nilCheck (.tmp 40)) 0,lo 42 (.fieldAddr 80 (.tmp 41) 1) 0,lo 43 (.load 3 (.tmp 42)) 3,lo 44 (.binOp .add 3 (.tmp 43) (.const (.int .i64 1)) 3) 3,lo 45 (.nilCheck (.tmp 40)) 0,lo 46 (.fieldAddr 80 (.tmp 45) 1) 0,ln (.store 3 (.tmp 46) (.tmp 44)) 0]
abbrev QN:List LO:=[lm 47 4 9,lo 2 (.assign (.tmp 47)) 9]
abbrev KA:LC:=.seq (.reg false QO) (.seq (.reg true QK) (.seq (.seq (.reg false Qp) (.cond (.tmp 37) (.seq (.reg false QJ) .ret) .skip)) (.seq (.reg false Qc) (.seq (.reg false QR) (.seq (.reg false QN) .ret)))))
theorem R7:BE E 50 48 [.tmp 2] KA:=⟨⟨Go.Proofs.Tryz.f50,by kernel_rfl,by kernel_rfl,by kernel_rfl,by kernel_rfl,by kernel_rfl⟩,rfl,rfl⟩
abbrev J1 (a0:Str) (a1:Int) (a2:Int) (a3:Int) (r:Str × Int):CS:=⟨[V 2 (bs r.1)],[W 0 4 [bs a0,iv r.2,iv a2,iv a3]],1⟩
noncomputable def Dg (a0:Str) (a1:Int) (a2:Int) (a3:Int):Option (Str × Int):=Option.bind (Cq a0 a1 1) (fun x8=>Option.bind (if ((x8 == a1) || (x8 == (List.length a0:Int)))=true then some true else Option.bind (idx a0 x8) (fun x11=>some (x11 != 33)):Option (Bool)) (fun x10=>(if x10=true then some ([48],a1) else Option.bind (Br a0 a1 a2 a3) (fun (x12,x13)=>some (x12,(w64 (x13 + 1)))))))
theorem QU (a0:Str) (a1:Int) (a2:Int) (a3:Int):CtM E 50 [pt 0 4] [W 0 4 [bs a0,iv a1,iv a2,iv a3]] 1 (Dg a0 a1 a2 a3) (fun r:Str × Int=>bs r.1) (fun r:Str × Int=>[W 0 4 [bs a0,iv r.2,iv a2,iv a3]]) 1:=Bf (N:=48) (L:=KA) R7 rfl (Nat.le_of_ble_eq_true rfl) (fun F hF=>by
 unfold Dg
 refine jS ⟨[V 0 (pt 0 4)],[W 0 4 [bs a0,iv a1,iv a2,iv a3]],1⟩ ?_
 refine jR ?_
 refine jG 0 8 ⟨[V 0 (pt 0 4),V 8 (bs a0),V 12 (iv a1)],[W 0 4 [bs a0,iv a1,iv a2,iv a3]],1⟩ ?_
 refine jK 8 (Dm a0 a1 1) ?_
 intro x8 h8
 refine jG 9 1 ⟨[V 0 (pt 0 4),V 3 (iv x8)],[W 0 4 [bs a0,iv a1,iv a2,iv a3]],1⟩ ?_
 refine jN ?_
 refine AT ?_
 refine jR ?_
 refine jG 0 16 ⟨[V 0 (pt 0 4),V 3 (iv x8),V 29 (bv ((x8 == a1) || (x8 == (List.length a0:Int))))],[W 0 4 [bs a0,iv a1,iv a2,iv a3]],1⟩ ?_
 refine Ak 16 8 (fun x10=>⟨[V 0 (pt 0 4),V 37 (bv x10)],[W 0 4 [bs a0,iv a1,iv a2,iv a3]],1⟩) ?_ ?_
 ·refine jSp 29 ?_ ?_
  ·refine jG 0 8 ⟨[V 0 (pt 0 4),V 37 (bv true)],[W 0 4 [bs a0,iv a1,iv a2,iv a3]],1⟩ ?_
   refine AQ rfl ?_
   exact AK rfl (wkR [(0,some 0)] (AY hF (k:=1) rfl) (pc (hC 0) AB))
  refine jG 0 5 ⟨[V 0 (pt 0 4),(29,.lit false),V 33 (bs a0),V 34 (iv x8)],[W 0 4 [bs a0,iv a1,iv a2,iv a3]],1⟩ ?_
  refine An (i:=5) (mo:=idx a0 x8) rfl rfl rfl rfl (fun _ hc=>Bd (kk:=.i64) (by kernel_rfl) (by kernel_rfl) (by kernel_rfl) hc) (fun _=>rfl) ?_
  intro x11 h11
  refine jG 6 2 ⟨[V 0 (pt 0 4),V 37 (bv (x11 != 33))],[W 0 4 [bs a0,iv a1,iv a2,iv a3]],1⟩ ?_
  refine AQ rfl ?_
  exact AK rfl (wkR [(0,some 0)] (AY hF (k:=1) rfl) (pc (hC 0) AB))
 intro x10
 refine jN ?_
 refine jIf ?_ ?_
 ·refine jS ⟨[V 2 (bs [48])],[W 0 4 [bs a0,iv a1,iv a2,iv a3]],1⟩ ?_
  refine AO ?_
  refine AZ ?_
  exact A7 (J1 a0 a1 a2 a3 ([48],a1)) (.inr rfl) (wkR [(0,some 0)] (AY hF (k:=1) rfl) (pc (hC 0) AB))
 refine AS ?_
 refine AN ?_
 refine jR ?_
 refine jG 0 1 ⟨[V 0 (pt 0 4),V 38 (pt 0 4)],[W 0 4 [bs a0,iv a1,iv a2,iv a3]],1⟩ ?_
 refine Am 1 [(0,some 0)] [(0,some 0)] (fun r:Str × Int=>[W 0 4 [bs a0,iv r.2,iv a2,iv a3]]) (fun r:Str × Int=>bs r.1) 1 (DN a0 a1 a2 a3) (pc (hC 0) AB) (fun r=>(pc (.inr (hC 0)) AB)) ?_
 rintro⟨x12,x13⟩ hm2
 refine jG 2 1 ⟨[V 0 (pt 0 4),V 4 (bs x12)],[W 0 4 [bs a0,iv x13,iv a2,iv a3]],1⟩ ?_
 refine jN ?_
 refine jS ⟨[V 4 (bs x12)],[W 0 4 [bs a0,iv (w64 (x13 + 1)),iv a2,iv a3]],1⟩ ?_
 refine jS ⟨[V 2 (bs x12)],[W 0 4 [bs a0,iv (w64 (x13 + 1)),iv a2,iv a3]],1⟩ ?_
 refine AO ?_
 exact A7 (J1 a0 a1 a2 a3 (x12,(w64 (x13 + 1)))) (.inr rfl) (wkR [(0,some 0)] (AY hF (k:=1) rfl) (pc (hC 0) AB)))
abbrev NX:List LO:=[lo 4 (.assign (.const (.bool false))) 4]
abbrev NN:List LO:=[lm 5 0 78,lo 6 (.nilCheck (.tmp 5)) 0,lo 7 (.fieldAddr 80 (.tmp 6) 1) 0,lo 8 (.load 3 (.tmp 7)) 3,lm 9 0 78,lo 10 (.nilCheck (.tmp 9)) 0,lo 11 (.fieldAddr 80 (.tmp 10) 0) 0,lo 12 (.load 9 (.tmp 11)) 9,lo 13 (.call ⟨.builtin .len,#[.tmp 12],#[9]⟩) 3,lo 14 (.binOp .lss 3 (.tmp 8) (.tmp 13) 3) 4,lm 15 14 4,lmg 16 0 78 15 true,lg 17 (.nilCheck (.tmp 16)) 0 15 true,lg 18 (.fieldAddr 80 (.tmp 17) 0) 0 15 true,lg 19 (.load 9 (.tmp 18)) 9 15 true,lmg 20 0 78 15 true,lg 21 (.nilCheck (.tmp 20)) 0 15 true,lg 22 (.fieldAddr 80 (.tmp 21) 1) 0 15 true,lg 23 (.load 3 (.tmp 22)) 3 15 true,lg 24 (.index 9 (.tmp 19) (.tmp 23)) 5 15 true,lmg 25 1 3 15 true,lg 26 (.call ⟨.value (.func 71),#[.tmp 24,.tmp 25],#[5,3]⟩) 4 15 true,lo 27 (.pick (.tmp 15) (.tmp 26) (.const (.bool false))) 4,lo 4 (.assign (.tmp 27)) 4]
abbrev Gp:LC:=.seq (.reg false NX) (.seq (.reg true NN) .ret)
theorem N9:BE E 84 28 [.tmp 4] Gp:=⟨⟨Go.Proofs.Tryz.f84,by kernel_rfl,by kernel_rfl,by kernel_rfl,by kernel_rfl,by kernel_rfl⟩,rfl,rfl⟩
noncomputable def CC (a0:Str) (a1:Int) (a2:Int) (a3:Int) (a4:Int):Option (Bool):=Option.bind (if (decide (a1 < (List.length a0:Int)))=true then Option.bind (idx a0 a1) (fun x4=>Option.bind (DZ x4 a4) (fun x5=>some x5)) else some false:Option (Bool)) (fun x3=>some x3)
theorem GO (a0:Str) (a1:Int) (a2:Int) (a3:Int) (a4:Int):Ct E 84 [.fptr [bs a0,iv a1,iv a2,iv a3] 0,iv a4] (CC a0 a1 a2 a3 a4) (fun r:Bool=>bv r):=Ad (N:=28) (L:=Gp) N9 rfl (Nat.le_of_ble_eq_true rfl) (by kernel_rfl) (by
 unfold CC
 refine jS ⟨[V 0 (.fptr [bs a0,iv a1,iv a2,iv a3] 0),V 1 (iv a4)],[],0⟩ ?_
 refine jR ?_
 refine jG 0 11 ⟨[V 0 (.fptr [bs a0,iv a1,iv a2,iv a3] 0),V 1 (iv a4),V 15 (bv (decide (a1 < (List.length a0:Int))))],[],0⟩ ?_
 refine Ak 11 12 (fun x3=>⟨[V 27 (bv x3)],[],0⟩) ?_ ?_
 ·refine jSp 15 ?_ ?_
  ·refine jG 0 8 ⟨[V 1 (iv a4),(15,.lit true),V 19 (bs a0),V 23 (iv a1)],[],0⟩ ?_
   refine An (i:=8) (mo:=idx a0 a1) rfl rfl rfl rfl (fun _ hc=>Bd (kk:=.i64) (by kernel_rfl) (by kernel_rfl) (by kernel_rfl) hc) (fun _=>rfl) ?_
   intro x4 h4
   refine jG 9 1 ⟨[(15,.lit true),V 24 (.s (.int .u8 x4)),V 25 (iv a4)],[],0⟩ ?_
   refine jK 10 (E0 x4 a4) ?_
   intro x5 h5
   refine jG 11 1 ⟨[V 27 (bv x5)],[],0⟩ ?_
   refine AQ rfl ?_
   exact AK rfl (wkR [] (AH _) AB)
  refine jG 0 12 ⟨[V 27 (bv false)],[],0⟩ ?_
  refine AQ rfl ?_
  exact AK rfl (wkR [] (AH _) AB)
 intro x3
 refine jG 23 1 ⟨[V 4 (bv x3)],[],0⟩ ?_
 refine jN ?_
 refine AO ?_
 exact AP (.inr rfl) (v:=bv x3) (by kernel_rfl) rfl (AE _))
abbrev SY:List LO:=[lo 4 (.assign (.const (.bool false))) 4]
abbrev SF:List LO:=[lm 14 0 78,lo 15 (.nilCheck (.tmp 14)) 0,lo 16 (.fieldAddr 80 (.tmp 15) 2) 0,lo 17 (.fieldAddr 25 (.tmp 16) 0) 0,lo 18 (.load 23 (.tmp 17)) 23,lo 19 (.binOp .neq 23 (.tmp 18) (.const (.int .i64 0)) 23) 4,lo 13 (.assign (.tmp 19)) 4]
abbrev SW:List LO:=[lo 4 (.assign (.const (.bool false))) 4]
abbrev Rq:List LO:=[lm 21 0 78,lm 22 1 3,lo 23 (.call ⟨.value (.func 84),#[.tmp 21,.tmp 22],#[78,3]⟩) 4,lo 20 (.assign (.tmp 23)) 4]
abbrev Rr:List LO:=[lo 4 (.assign (.const (.bool true))) 4]
abbrev Rv:List LO:=[lm 25 0 78,lo 26 (.nilCheck (.tmp 25)) 0,lo 27 (.fieldAddr 80 (.tmp 26) 1) 0,lo 28 (.load 3 (.tmp 27)) 3,lm 29 0 78,lo 30 (.nilCheck (.tmp 29)) 0,lo 31 (.fieldAddr 80 (.tmp 30) 0) 0,lo 32 (.load 9 (.tmp 31)) 9,lo 33 (.call ⟨.builtin .len,#[.tmp 32],#[9]⟩) 3,lo 34 (.binOp .eql 3 (.tmp 28) (.tmp 33) 3) 4,lo 24 (.assign (.tmp 34)) 4]
abbrev RQ:List LO:=[lm 35 0 78,lm 36 0 78,lo 37 (.nilCheck (.tmp 36)) 0,lo 38 (.fieldAddr 80 (.tmp 37) 1) 0,lo 39 (.load 3 (.tmp 38)) 3,lo 40 (.build 25 #[(0,.const (.int .i64 11)),(1,.tmp 39)]) 25,lo 41 (.nilCheck (.tmp 35)) 0,lo 42 (.fieldAddr 80 (.tmp 41) 2) 0,ln (.store 25 (.tmp 42) (.tmp 40)) 0]
abbrev SS:List LO:=[lm 5 0 78,lm 6 0 78,lo 7 (.nilCheck (.tmp 6)) 0,lo 8 (.fieldAddr 80 (.tmp 7) 1) 0,lo 9 (.load 3 (.tmp 8)) 3,lo 10 (.build 25 #[(0,.const (.int .i64 10)),(1,.tmp 9)]) 25,lo 11 (.nilCheck (.tmp 5)) 0,lo 12 (.fieldAddr 80 (.tmp 11) 2) 0,ln (.store 25 (.tmp 12) (.tmp 10)) 0]
abbrev RY:List LO:=[lo 4 (.assign (.const (.bool false))) 4]
abbrev Kv:LC:=.seq (.reg false SY) (.seq (.block 0 (.seq (.reg false SF) (.cond (.tmp 13) (.seq (.reg false SW) .ret) (.seq (.reg false Rq) (.cond (.tmp 20) (.seq (.reg false Rr) .ret) (.seq (.reg true Rv) (.cond (.tmp 24) (.reg false RQ) (.reg false SS)))))))) (.seq (.reg false RY) .ret))
theorem TW:BE E 80 43 [.tmp 4] Kv:=⟨⟨Go.Proofs.Tryz.f80,by kernel_rfl,by kernel_rfl,by kernel_rfl,by kernel_rfl,by kernel_rfl⟩,rfl,rfl⟩
abbrev KI (a0:Str) (a1:Int) (a2:Int) (a3:Int) (a4:Int) (r:Bool × Int × Int):CS:=⟨[V 4 (bv r.1)],[W 0 4 [bs a0,iv a1,iv r.2.1,iv r.2.2]],1⟩
noncomputable def DG (a0:Str) (a1:Int) (a2:Int) (a3:Int) (a4:Int):Option (Bool × Int × Int):=Option.bind ((if (a2 != 0)=true then some (Sum.inl false) else Option.bind (CC a0 a1 a2 a3 a4) (fun x10=>(if x10=true then some (Sum.inl true) else (if (a1 == (List.length a0:Int))=true then some (Sum.inr 11) else some (Sum.inr 10))))):Option ((Bool) ⊕ (Int))) (fun y=>match y with | Sum.inl x8=>some (x8,a2,a3) | Sum.inr x9=>some (false,x9,a1))
theorem Jv (a0:Str) (a1:Int) (a2:Int) (a3:Int) (a4:Int):CtM E 80 [pt 0 4,iv a4] [W 0 4 [bs a0,iv a1,iv a2,iv a3]] 1 (DG a0 a1 a2 a3 a4) (fun r:Bool × Int × Int=>bv r.1) (fun r:Bool × Int × Int=>[W 0 4 [bs a0,iv a1,iv r.2.1,iv r.2.2]]) 1:=Bf (N:=43) (L:=Kv) TW rfl (Nat.le_of_ble_eq_true rfl) (fun F hF=>by
 unfold DG
 refine jS ⟨[V 0 (pt 0 4),V 1 (iv a4)],[W 0 4 [bs a0,iv a1,iv a2,iv a3]],1⟩ ?_
 refine AT ?_
 refine As (fun y=>match y with | Sum.inl x8=>⟨[V 4 (bv x8)],[W 0 4 [bs a0,iv a1,iv a2,iv a3]],1⟩ | Sum.inr x9=>⟨[],[W 0 4 [bs a0,iv a1,iv x9,iv a1]],1⟩) (fun y=>match y with | Sum.inl x8=>.ret | Sum.inr x9=>.normal) ?_ ?_
 ·refine Ai ?_
  refine jS ⟨[V 0 (pt 0 4),V 1 (iv a4),V 13 (bv (a2 != 0))],[W 0 4 [bs a0,iv a1,iv a2,iv a3]],1⟩ ?_
  refine jIf ?_ ?_
  ·refine jS ⟨[V 4 (bv false)],[W 0 4 [bs a0,iv a1,iv a2,iv a3]],1⟩ ?_
   refine AO ?_
   refine Aq ?_
   exact AK rfl (wkR [(0,some 0)] (AY hF (k:=1) rfl) (pc (hC 0) AB))
  refine jR ?_
  refine jG 0 2 ⟨[V 0 (pt 0 4),V 21 (pt 0 4),V 22 (iv a4)],[W 0 4 [bs a0,iv a1,iv a2,iv a3]],1⟩ ?_
  refine Bh (i:=2) rfl rfl rfl rfl (vs:=[pt 0 4,iv a4]) (vs0:=[.fptr [bs a0,iv a1,iv a2,iv a3] 0,iv a4]) (b:=true) (by kernel_rfl) (by kernel_rfl) (AJ (AE _) (AJ (AE _) Aj)) (GO a0 a1 a2 a3 a4) (fun _=>rfl) (fun _=>rfl) ?_
  intro x10 h10
  refine jG 3 1 ⟨[V 0 (pt 0 4),V 20 (bv x10)],[W 0 4 [bs a0,iv a1,iv a2,iv a3]],1⟩ ?_
  refine jN ?_
  refine jIf ?_ ?_
  ·refine jS ⟨[V 4 (bv true)],[W 0 4 [bs a0,iv a1,iv a2,iv a3]],1⟩ ?_
   refine AO ?_
   refine Aq ?_
   exact AK rfl (wkR [(0,some 0)] (AY hF (k:=1) rfl) (pc (hC 0) AB))
  refine jS ⟨[V 0 (pt 0 4),V 24 (bv (a1 == (List.length a0:Int)))],[W 0 4 [bs a0,iv a1,iv a2,iv a3]],1⟩ ?_
  refine jIf ?_ ?_
  ·refine jT ⟨[],[W 0 4 [bs a0,iv a1,iv 11,iv a1]],1⟩ ?_
   refine A8 ?_
   exact AK rfl (wkR [(0,some 0)] (AY hF (k:=1) rfl) (pc (hC 0) AB))
  refine jT ⟨[],[W 0 4 [bs a0,iv a1,iv 10,iv a1]],1⟩ ?_
  refine A8 ?_
  exact AK rfl (wkR [(0,some 0)] (AY hF (k:=1) rfl) (pc (hC 0) AB))
 rintro (x8 | x9)
 ·refine AZ ?_
  exact A7 (KI a0 a1 a2 a3 a4 (x8,a2,a3)) (.inr rfl) (wkR [(0,some 0)] (AY hF (k:=1) rfl) (pc (hC 0) AB))
 refine AN ?_
 refine jS ⟨[V 4 (bv false)],[W 0 4 [bs a0,iv a1,iv x9,iv a1]],1⟩ ?_
 refine AO ?_
 exact A7 (KI a0 a1 a2 a3 a4 (false,x9,a1)) (.inr rfl) (wkR [(0,some 0)] (AY hF (k:=1) rfl) (pc (hC 0) AB)))
abbrev OE:List LO:=[lo 2 (.assign (.const (.slice none 0 0))) 32]
abbrev N6:List LO:=[lo 3 (.assign (.const (.slice none 0 0))) 32]
abbrev OX:List LO:=[lm 4 0 78,lo 5 (.call ⟨.value (.func 80),#[.tmp 4,.const (.int .i64 1)],#[78,3]⟩) 4]
abbrev N4:List LO:=[lm 6 3 32,lm 7 0 78,lo 8 (.call ⟨.value (.func 79),#[.tmp 7],#[78]⟩) 9,lo 9 (.buildSlice 32 1 #[(0,.tmp 8)]) 32,lo 10 (.call ⟨.builtin .append,#[.tmp 6,.tmp 9],#[32,32]⟩) 32,lo 3 (.assign (.tmp 10)) 32]
abbrev OZ:List LO:=[lm 11 0 78,lo 12 (.nilCheck (.tmp 11)) 0,lo 13 (.fieldAddr 80 (.tmp 12) 1) 0,lo 14 (.load 3 (.tmp 13)) 3,lo 15 (.binOp .add 3 (.tmp 14) (.const (.int .i64 1)) 3) 3,lm 16 0 78,lo 17 (.nilCheck (.tmp 16)) 0,lo 18 (.fieldAddr 80 (.tmp 17) 0) 0,lo 19 (.load 9 (.tmp 18)) 9,lo 20 (.call ⟨.builtin .len,#[.tmp 19],#[9]⟩) 3,lo 21 (.binOp .geq 3 (.tmp 15) (.tmp 20) 3) 4,lm 22 21 4,lmg 23 0 78 22 false,lg 24 (.nilCheck (.tmp 23)) 0 22 false,lg 25 (.fieldAddr 80 (.tmp 24) 0) 0 22 false,lg 26 (.load 9 (.tmp 25)) 9 22 false,lmg 27 0 78 22 false,lg 28 (.nilCheck (.tmp 27)) 0 22 false,lg 29 (.fieldAddr 80 (.tmp 28) 1) 0 22 false,lg 30 (.load 3 (.tmp 29)) 3 22 false,lg 31 (.index 9 (.tmp 26) (.tmp 30)) 5 22 false,lg 32 (.binOp .neq 5 (.tmp 31) (.const (.int .u8 46)) 5) 4 22 false,lo 33 (.pick (.tmp 22) (.const (.bool true)) (.tmp 32)) 4,lm 34 33 4,lmg 35 0 78 34 false,lg 36 (.nilCheck (.tmp 35)) 0 34 false,lg 37 (.fieldAddr 80 (.tmp 36) 0) 0 34 false,lg 38 (.load 9 (.tmp 37)) 9 34 false,lmg 39 0 78 34 false,lg 40 (.nilCheck (.tmp 39)) 0 34 false,lg 41 (.fieldAddr 80 (.tmp 40) 1) 0 34 false,lg 42 (.load 3 (.tmp 41)) 3 34 false,lg 43 (.binOp .add 3 (.tmp 42) (.const (.int .i64 1)) 3) 3 34 false,lg 44 (.index 9 (.tmp 38) (.tmp 43)) 5 34 false,lg 45 (.call ⟨.value (.func 71),#[.tmp 44,.const (.int .i64 1)],#[5,3]⟩) 4 34 false,lg 46 (.unOp .not 4 (.tmp 45)) 4 34 false,lo 47 (.pick (.tmp 34) (.const (.bool true)) (.tmp 46)) 4]
abbrev OJ:List LO:=[lm 48 3 32,lo 2 (.assign (.tmp 48)) 32]
abbrev OS:List LO:=[lm 49 0 78,lo 50 (.nilCheck (.tmp 49)) 0,lo 51 (.fieldAddr 80 (.tmp 50) 1) 0,lo 52 (.load 3 (.tmp 51)) 3,lo 53 (.binOp .add 3 (.tmp 52) (.const (.int .i64 1)) 3) 3,lo 54 (.nilCheck (.tmp 49)) 0,lo 55 (.fieldAddr 80 (.tmp 54) 1) 0,ln (.store 3 (.tmp 55) (.tmp 53)) 0]
abbrev OT:List LO:=[lm 56 3 32,lo 2 (.assign (.tmp 56)) 32]
abbrev Hj:LC:=.seq (.reg false OE) (.seq (.reg false N6) (.seq (.block 0 (.loop (.seq (.seq (.reg false OX) (.cond (.tmp 5) .skip (.exit 0))) (.block 1 (.seq (.reg false N4) (.seq (.seq (.reg true OZ) (.cond (.tmp 47) (.seq (.reg false OJ) .ret) .skip)) (.reg false OS))))))) (.seq (.reg false OT) .ret)))
theorem Po:BE E 51 57 [.tmp 2] Hj:=⟨⟨Go.Proofs.Tryz.f51,by kernel_rfl,by kernel_rfl,by kernel_rfl,by kernel_rfl,by kernel_rfl⟩,rfl,rfl⟩
noncomputable def BL (a0:Str):(Int × Int × Int × List Str)→Option (Step (Int × Int × Int × List Str) ((List Str × Int × Int × Int) ⊕ (List Str × Int × Int × Int))):=fun (x54,x55,x56,x57)=>Option.bind (DG a0 x54 x55 x56 1) (fun (x81,x82,x83)=>(if x81=true then Option.bind (Br a0 x54 x82 x83) (fun (x84,x85)=>Option.bind (app 16 x57 [x84]) (fun x86=>Option.bind (if (decide ((w64 (x85 + 1))≥(List.length a0:Int)))=true then some true else Option.bind (idx a0 x85) (fun x89=>some (x89 != 46)):Option (Bool)) (fun x88=>Option.bind (if x88=true then some true else Option.bind (idx a0 (w64 (x85 + 1))) (fun x93=>Option.bind (DZ x93 1) (fun x94=>some (!x94))):Option (Bool)) (fun x92=>(if x92=true then some (Step.done (Sum.inl (x86,x85,x82,x83))) else some (Step.next ((w64 (x85 + 1)),x82,x83,x86))))))) else some (Step.done (Sum.inr (x57,x54,x82,x83)))))
abbrev H8 (a0:Str) (a1:Int) (a2:Int) (a3:Int) (r:List Str × Int × Int × Int):CS:=⟨[V 2 (.osl 1 0 (List.length r.1) 1)],[W 0 4 [bs a0,iv r.2.1,iv r.2.2.1,iv r.2.2.2],(1,.rows 1 (List.map cS r.1))],2⟩
noncomputable def CI (a0:Str) (a1:Int) (a2:Int) (a3:Int):Option (List Str × Int × Int × Int):=Option.bind (Bi (BL a0) (a1,a2,a3,[])) (fun y=>match y with | Sum.inl (x73,x74,x75,x76)=>some (x73,x74,x75,x76) | Sum.inr (x77,x78,x79,x80)=>some (x77,x78,x79,x80))
theorem OW (a0:Str) (a1:Int) (a2:Int) (a3:Int):CtM E 51 [pt 0 4] [W 0 4 [bs a0,iv a1,iv a2,iv a3]] 1 (CI a0 a1 a2 a3) (fun r:List Str × Int × Int × Int=>.osl 1 0 (List.length r.1) 1) (fun r:List Str × Int × Int × Int=>[W 0 4 [bs a0,iv r.2.1,iv r.2.2.1,iv r.2.2.2],(1,.rows 1 (List.map cS r.1))]) 2:=Bf (N:=57) (L:=Hj) Po rfl (Nat.le_of_ble_eq_true rfl) (fun F hF=>by
 unfold CI
 refine jS ⟨[V 0 (pt 0 4)],[W 0 4 [bs a0,iv a1,iv a2,iv a3]],1⟩ ?_
 refine jS ⟨[V 0 (pt 0 4),V 3 (Af)],[W 0 4 [bs a0,iv a1,iv a2,iv a3]],1⟩ ?_
 refine AT ?_
 refine Ai ?_
 refine As (fun y=>match y with | Sum.inl (x73,x74,x75,x76)=>⟨[V 2 (.osl 1 0 (List.length x73) 1)],[W 0 4 [bs a0,iv x74,iv x75,iv x76],(1,.rows 1 (List.map cS x73))],2⟩ | Sum.inr (x77,x78,x79,x80)=>⟨[V 3 (.osl 1 0 (List.length x77) 1)],[W 0 4 [bs a0,iv x78,iv x79,iv x80],(1,.rows 1 (List.map cS x77))],2⟩) (fun y=>match y with | Sum.inl (x73,x74,x75,x76)=>.ret | Sum.inr (x77,x78,x79,x80)=>(.exit 0)) (Cj (fun (x54,x55,x56,x57)=>⟨[V 0 (pt 0 4),V 3 (.osl 1 0 (List.length x57) 1)],[W 0 4 [bs a0,iv x54,iv x55,iv x56],(1,.rows 1 (List.map cS x57))],2⟩) (wkR [(0,some 0),(1,none)] (AY hF (k:=1) rfl) (pc (hC 0) (pc hZ AB))) ?_) ?_
 ·rintro⟨x54,x55,x56,x57⟩
  unfold BL
  refine AT ?_
  refine jR ?_
  refine jG 0 1 ⟨[V 0 (pt 0 4),V 3 (.osl 1 0 (List.length x57) 1),V 4 (pt 0 4)],[W 0 4 [bs a0,iv x54,iv x55,iv x56],(1,.rows 1 (List.map cS x57))],2⟩ ?_
  refine Am 1 [(0,some 0)] [(0,some 0)] (fun r:Bool × Int × Int=>[W 0 4 [bs a0,iv x54,iv r.2.1,iv r.2.2],(1,.rows 1 (List.map cS x57))]) (fun r:Bool × Int × Int=>bv r.1) 2 (Jv a0 x54 x55 x56 1) (pc (hC 0) AB) (fun r=>(pc (.inr (hC 0)) (pc (.inl ⟨rfl,rfl⟩) AB))) ?_
  rintro⟨x81,x82,x83⟩ hm10
  refine jN ?_
  refine jIf ?_ ?_
  ·refine AS ?_
   refine AN ?_
   refine Ai ?_
   refine jR ?_
   refine jG 0 2 ⟨[V 0 (pt 0 4),V 6 (.osl 1 0 (List.length x57) 1),V 7 (pt 0 4)],[W 0 4 [bs a0,iv x54,iv x82,iv x83],(1,.rows 1 (List.map cS x57))],2⟩ ?_
   refine Am 2 [(0,some 0)] [(0,some 0)] (fun r:Str × Int=>[W 0 4 [bs a0,iv r.2,iv x82,iv x83],(1,.rows 1 (List.map cS x57))]) (fun r:Str × Int=>bs r.1) 2 (DN a0 x54 x82 x83) (pc (hC 0) AB) (fun r=>(pc (.inr (hC 0)) (pc (.inl ⟨rfl,rfl⟩) AB))) ?_
   rintro⟨x84,x85⟩ hm9
   refine jG 3 1 ⟨[V 0 (pt 0 4),V 6 (.osl 1 0 (List.length x57) 1),V 9 (.osl 2 0 (List.length [x84]) 1)],[W 0 4 [bs a0,iv x85,iv x82,iv x83],(1,.rows 1 (List.map cS x57)),(2,.rows 1 (List.map cS [x84]))],3⟩ ?_
   refine An (i:=4) (mo:=app 16 x57 [x84]) rfl rfl rfl rfl (fun _ hc=>QD (u:=.osl 1 0 (List.length x57) 1) (w:=.osl 2 0 (List.length [x84]) 1) (e:=9) (td:=.slice 9) (by kernel_rfl) (by kernel_rfl) (by kernel_rfl) (by kernel_rfl) (.inl ⟨_,rfl⟩) (GY (c:=cS) (sz:=1) (b:=16) (id:=1) (by kernel_rfl) (by kernel_rfl) (PV (by kernel_rfl)) (List.cons_ne_nil _ _) hc)) (fun _=>rfl) ?_
   intro x86 h86
   refine jG 5 1 ⟨[V 0 (pt 0 4),V 3 (.osl 3 0 (List.length x86) 1)],[W 0 4 [bs a0,iv x85,iv x82,iv x83],(3,.rows 1 (List.map cS x86))],4⟩ ?_
   refine jN ?_
   refine AT ?_
   refine jR ?_
   refine jG 0 12 ⟨[V 0 (pt 0 4),V 3 (.osl 3 0 (List.length x86) 1),V 22 (bv (decide ((w64 (x85 + 1))≥(List.length a0:Int))))],[W 0 4 [bs a0,iv x85,iv x82,iv x83],(3,.rows 1 (List.map cS x86))],4⟩ ?_
   refine Ak 12 11 (fun x88=>⟨[V 0 (pt 0 4),V 3 (.osl 1 0 (List.length x86) 1),V 33 (bv x88)],[W 0 4 [bs a0,iv x85,iv x82,iv x83],(1,.rows 1 (List.map cS x86))],2⟩) ?_ ?_
   ·refine jSp 22 ?_ ?_
    ·refine jG 0 11 ⟨[V 0 (pt 0 4),V 3 (.osl 3 0 (List.length x86) 1),V 33 (bv true)],[W 0 4 [bs a0,iv x85,iv x82,iv x83],(3,.rows 1 (List.map cS x86))],4⟩ ?_
     refine AQ rfl ?_
     exact AK rfl (wkR [(0,some 0),(1,some 3)] (AY hF (k:=1) rfl) (pc (hC 0) (pc (hL 3 (AM BS _)) AB)))
    refine jG 0 8 ⟨[V 0 (pt 0 4),V 3 (.osl 3 0 (List.length x86) 1),(22,.lit false),V 26 (bs a0),V 30 (iv x85)],[W 0 4 [bs a0,iv x85,iv x82,iv x83],(3,.rows 1 (List.map cS x86))],4⟩ ?_
    refine An (i:=8) (mo:=idx a0 x85) rfl rfl rfl rfl (fun _ hc=>Bd (kk:=.i64) (by kernel_rfl) (by kernel_rfl) (by kernel_rfl) hc) (fun _=>rfl) ?_
    intro x89 h89
    refine jG 9 2 ⟨[V 0 (pt 0 4),V 3 (.osl 3 0 (List.length x86) 1),V 33 (bv (x89 != 46))],[W 0 4 [bs a0,iv x85,iv x82,iv x83],(3,.rows 1 (List.map cS x86))],4⟩ ?_
    refine AQ rfl ?_
    exact AK rfl (wkR [(0,some 0),(1,some 3)] (AY hF (k:=1) rfl) (pc (hC 0) (pc (hL 3 (AM BS _)) AB)))
   intro x88
   refine jG 23 1 ⟨[V 0 (pt 0 4),V 3 (.osl 1 0 (List.length x86) 1),V 34 (bv x88)],[W 0 4 [bs a0,iv x85,iv x82,iv x83],(1,.rows 1 (List.map cS x86))],2⟩ ?_
   refine Ak 24 13 (fun x92=>⟨[V 0 (pt 0 4),V 3 (.osl 1 0 (List.length x86) 1),V 47 (bv x92)],[W 0 4 [bs a0,iv x85,iv x82,iv x83],(1,.rows 1 (List.map cS x86))],2⟩) ?_ ?_
   ·refine jSp 34 ?_ ?_
    ·refine jG 0 13 ⟨[V 0 (pt 0 4),V 3 (.osl 1 0 (List.length x86) 1),V 47 (bv true)],[W 0 4 [bs a0,iv x85,iv x82,iv x83],(1,.rows 1 (List.map cS x86))],2⟩ ?_
     refine AQ rfl ?_
     exact AK rfl (wkR [(0,some 0),(1,some 1)] (AY hF (k:=1) rfl) (pc (hC 0) (pc (hL 1 (AM BS _)) AB)))
    refine jG 0 9 ⟨[V 0 (pt 0 4),V 3 (.osl 1 0 (List.length x86) 1),(34,.lit false),V 38 (bs a0),V 43 (iv (w64 (x85 + 1)))],[W 0 4 [bs a0,iv x85,iv x82,iv x83],(1,.rows 1 (List.map cS x86))],2⟩ ?_
    refine An (i:=9) (mo:=idx a0 (w64 (x85 + 1))) rfl rfl rfl rfl (fun _ hc=>Bd (kk:=.i64) (by kernel_rfl) (by kernel_rfl) (by kernel_rfl) hc) (fun _=>rfl) ?_
    intro x93 h93
    refine jK 10 (E0 x93 1) ?_
    intro x94 h94
    refine jG 11 2 ⟨[V 0 (pt 0 4),V 3 (.osl 1 0 (List.length x86) 1),V 47 (bv (!x94))],[W 0 4 [bs a0,iv x85,iv x82,iv x83],(1,.rows 1 (List.map cS x86))],2⟩ ?_
    refine AQ rfl ?_
    exact AK rfl (wkR [(0,some 0),(1,some 1)] (AY hF (k:=1) rfl) (pc (hC 0) (pc (hL 1 (AM BS _)) AB)))
   intro x92
   refine jN ?_
   refine jIf ?_ ?_
   ·refine jS ⟨[V 2 (.osl 1 0 (List.length x86) 1)],[W 0 4 [bs a0,iv x85,iv x82,iv x83],(1,.rows 1 (List.map cS x86))],2⟩ ?_
    refine AO ?_
    refine AZ ?_
    refine Aq ?_
    exact BD rfl nofun (wkR [(0,some 0),(1,some 1)] (AY hF (k:=1) rfl) (pc (hC 0) (pc (hL 1 (AM BS _)) AB)))
   refine AS ?_
   refine AN ?_
   refine jT ⟨[V 0 (pt 0 4),V 3 (.osl 1 0 (List.length x86) 1)],[W 0 4 [bs a0,iv (w64 (x85 + 1)),iv x82,iv x83],(1,.rows 1 (List.map cS x86))],2⟩ ?_
   refine A8 ?_
   exact Ck (wkR [(0,some 0),(1,some 1)] (AY hF (k:=1) rfl) (pc (hC 0) (pc (hL 1 (AM BS _)) AB)))
  refine CN ?_
  refine CM ?_
  exact BD rfl nofun (wkR [(0,some 0),(1,some 1)] (AY hF (k:=1) rfl) (pc (hC 0) (pc (hL 1 (AM BS _)) AB)))
 rintro (⟨x73,x74,x75,x76⟩ | ⟨x77,x78,x79,x80⟩)
 ·refine Aq ?_
  refine AZ ?_
  exact A7 (H8 a0 a1 a2 a3 (x73,x74,x75,x76)) (.inr rfl) (wkR [(0,some 0),(1,some 1)] (AY hF (k:=1) rfl) (pc (hC 0) (pc (hL 1 (AM BS _)) AB)))
 refine CY ?_
 refine AN ?_
 refine jS ⟨[V 2 (.osl 1 0 (List.length x77) 1)],[W 0 4 [bs a0,iv x78,iv x79,iv x80],(1,.rows 1 (List.map cS x77))],2⟩ ?_
 refine AO ?_
 exact A7 (H8 a0 a1 a2 a3 (x77,x78,x79,x80)) (.inr rfl) (wkR [(0,some 0),(1,some 1)] (AY hF (k:=1) rfl) (pc (hC 0) (pc (hL 1 (AM BS _)) AB))))
abbrev Y3:List LO:=[lo 2 (.assign (.const (.string ⟨#[]⟩))) 9]
abbrev ZR:List LO:=[lm 6 0 9,lo 7 (.convert 9 74 (.tmp 6)) 74,lo 3 (.assign (.tmp 7)) 74]
abbrev Z3:List LO:=[lm 8 3 74,lo 9 (.call ⟨.builtin .len,#[.tmp 8],#[74]⟩) 3,lo 10 (.move (.const (.int .i64 0))) 3]
abbrev ZX:List LO:=[lo 11 (.binOp .lss 3 (.tmp 10) (.tmp 9) 3) 0]
abbrev Z2:List LO:=[lm 12 10 3,lo 13 (.indexAddr 74 (.tmp 8) (.tmp 10)) 0,lo 14 (.load 5 (.tmp 13)) 5,lo 4 (.assign (.tmp 12)) 3,lo 5 (.assign (.tmp 14)) 5]
abbrev Zt:List LO:=[lm 15 5 5,lo 16 (.call ⟨.value (.func 71),#[.tmp 15,.const (.int .i64 3)],#[5,3]⟩) 4]
abbrev Zd:List LO:=[lm 17 3 74,lm 18 4 3,lm 19 5 5,lo 20 (.binOp .add 5 (.tmp 19) (.const (.int .u8 32)) 5) 5,lo 21 (.indexAddr 74 (.tmp 17) (.tmp 18)) 0,ln (.store 5 (.tmp 21) (.tmp 20)) 0]
abbrev Zp:List LO:=[lo 22 (.binOp .add 3 (.tmp 10) (.const (.int .i64 1)) 3) 3,lm 10 22 3]
abbrev Yn:List LO:=[lm 23 3 74,lo 24 (.convert 74 9 (.tmp 23)) 9,lo 2 (.assign (.tmp 24)) 9]
abbrev Sz:LC:=.seq (.reg false Y3) (.seq (.reg false ZR) (.seq (.seq (.reg false Z3) (.block 0 (.loop (.seq (.reg false ZX) (.seq (.cond (.tmp 11) .skip (.exit 0)) (.seq (.block 1 (.seq (.reg false Z2) (.seq (.reg false Zt) (.cond (.tmp 16) (.reg false Zd) .skip)))) (.reg false Zp))))))) (.seq (.reg false Yn) .ret)))
theorem eL:BE E 49 25 [.tmp 2] Sz:=⟨⟨Go.Proofs.Tryz.f49,by kernel_rfl,by kernel_rfl,by kernel_rfl,by kernel_rfl,by kernel_rfl⟩,rfl,rfl⟩
noncomputable def HT (x1:List Int):(List Int × Int)→Option (Step (List Int × Int) (List Int)):=fun (x6,x7)=>(if (decide (x7 < (List.length x1:Int)))=true then Option.bind (Option.bind (ixl x6 x7) (fun x19=>Option.bind (DZ x19 3) (fun x20=>(if x20=true then Option.bind (ixl x6 x7) (fun x21=>some (List.set x6 (Int.toNat x7) (IntKind.wrap .u8 (x19 + 32)))) else some x6))):Option (List Int)) (fun x18=>some (Step.next (x18,(w64 (x7 + 1))))) else some (Step.done x6))
noncomputable def E9 (a0:Str):Option (Str):=Option.bind (tob a0) (fun x1=>Option.bind (Bi (HT x1) (x1,0)) (fun x14=>some (ofb x14)))
theorem HR (a0:Str):Ct E 49 [bs a0] (E9 a0) (fun r:Str=>bs r):=Ad (N:=25) (L:=Sz) eL rfl (Nat.le_of_ble_eq_true rfl) (by kernel_rfl) (by
 unfold E9
 refine jS ⟨[V 0 (bs a0)],[],0⟩ ?_
 refine jR ?_
 refine jG 0 1 ⟨[V 6 (bs a0)],[],0⟩ ?_
 refine An (i:=1) (mo:=tob a0) rfl rfl rfl rfl (fun _ hc=>wR (e:=5) (st:=.string) (by kernel_rfl) (by kernel_rfl) (by kernel_rfl) (by kernel_rfl) hc) (fun _=>rfl) ?_
 intro x1 h1
 refine jG 2 1 ⟨[V 3 (.osl 0 0 (List.length x1) 1)],[(0,.rows 1 (List.map cB x1))],1⟩ ?_
 refine jN ?_
 refine AT ?_
 refine jS ⟨[V 3 (.osl 0 0 (List.length x1) 1),V 8 (.osl 0 0 (List.length x1) 1),V 9 (iv (List.length x1:Int)),V 10 (iv 0)],[(0,.rows 1 (List.map cB x1))],1⟩ ?_
 refine Ai ?_
 refine As (fun x14=>⟨[V 3 (.osl 0 0 (List.length x14) 1)],[(0,.rows 1 (List.map cB x14))],1⟩) (fun x14=>(.exit 0)) (Cj (fun (x6,x7)=>⟨[V 3 (.osl 0 0 (List.length x6) 1),V 8 (.osl 0 0 (List.length x6) 1),V 9 (iv (List.length x1:Int)),V 10 (iv x7)],[(0,.rows 1 (List.map cB x6))],1⟩) (wkR [(0,some 0)] (AH _) (pc (hL 0 (AM rZ _)) AB)) ?_) ?_
 ·rintro⟨x6,x7⟩
  unfold HT
  refine jS ⟨[V 3 (.osl 0 0 (List.length x6) 1),V 8 (.osl 0 0 (List.length x6) 1),V 9 (iv (List.length x1:Int)),V 10 (iv x7),V 11 (bv (decide (x7 < (List.length x1:Int))))],[(0,.rows 1 (List.map cB x6))],1⟩ ?_
  refine AT ?_
  refine jIf ?_ ?_
  ·refine AS ?_
   refine AN ?_
   refine AT ?_
   refine As (fun x18=>⟨[V 3 (.osl 0 0 (List.length x18) 1),V 8 (.osl 0 0 (List.length x18) 1),V 9 (iv (List.length x1:Int)),V 10 (iv x7)],[(0,.rows 1 (List.map cB x18))],1⟩) (fun x18=>.normal) ?_ ?_
   ·refine Ai ?_
    refine jR ?_
    refine jG 0 1 ⟨[V 3 (.osl 0 0 (List.length x6) 1),V 8 (.osl 0 0 (List.length x6) 1),V 9 (iv (List.length x1:Int)),V 10 (iv x7),V 12 (iv x7)],[(0,.rows 1 (List.map cB x6))],1⟩ ?_
    refine An (i:=1) (mo:=ixl x6 x7) rfl rfl rfl rfl (fun _ hc=>YJ (sz:=1) (e:=5) (kk:=.i64) (id:=0) (by kernel_rfl) (by kernel_rfl) (by kernel_rfl) (by kernel_rfl) hc) (fun _=>rfl) ?_
    intro x19 h19
    refine GD (i:=2) (v:=.s (.int .u8 x19)) rfl rfl rfl rfl (oS (l:=x6) (c:=cB) (id:=0) (k:=(Int.toNat x7)) (sz:=1) (off:=0) (a:=x19) (by kernel_rfl) (by kernel_rfl) (XJ h19).2.2 (by kernel_rfl)) rfl ?_
    refine jG 3 2 ⟨[V 3 (.osl 0 0 (List.length x6) 1),V 4 (iv x7),V 5 (.s (.int .u8 x19)),V 8 (.osl 0 0 (List.length x6) 1),V 9 (iv (List.length x1:Int)),V 10 (iv x7)],[(0,.rows 1 (List.map cB x6))],1⟩ ?_
    refine jN ?_
    refine jR ?_
    refine jG 0 1 ⟨[V 3 (.osl 0 0 (List.length x6) 1),V 4 (iv x7),V 5 (.s (.int .u8 x19)),V 8 (.osl 0 0 (List.length x6) 1),V 9 (iv (List.length x1:Int)),V 10 (iv x7),V 15 (.s (.int .u8 x19))],[(0,.rows 1 (List.map cB x6))],1⟩ ?_
    refine jK 1 (E0 x19 3) ?_
    intro x20 h20
    refine jN ?_
    refine jIf ?_ ?_
    ·refine CA ?_
     refine jG 0 4 ⟨[V 3 (.osl 0 0 (List.length x6) 1),V 8 (.osl 0 0 (List.length x6) 1),V 9 (iv (List.length x1:Int)),V 10 (iv x7),V 17 (.osl 0 0 (List.length x6) 1),V 18 (iv x7),V 20 (.s (.int .u8 (IntKind.wrap .u8 (x19 + 32))))],[(0,.rows 1 (List.map cB x6))],1⟩ ?_
     refine An (i:=4) (mo:=ixl x6 x7) rfl rfl rfl rfl (fun _ hc=>YJ (sz:=1) (e:=5) (kk:=.i64) (id:=0) (by kernel_rfl) (by kernel_rfl) (by kernel_rfl) (by kernel_rfl) hc) (fun _=>rfl) ?_
     intro x21 h21
     refine Nq (i:=5) [3,8,9,10] [0] (st1:=⟨[V 3 (.osl 0 0 (List.length (List.set x6 (Int.toNat x7) (IntKind.wrap .u8 (x19 + 32)))) 1),V 8 (.osl 0 0 (List.length (List.set x6 (Int.toNat x7) (IntKind.wrap .u8 (x19 + 32)))) 1),V 9 (iv (List.length x1:Int)),V 10 (iv x7)],[(0,.rows 1 (List.map cB (List.set x6 (Int.toNat x7) (IntKind.wrap .u8 (x19 + 32)))))],1⟩) rfl rfl rfl rfl (wY (l:=x6) (c:=cB) (id:=0) (k:=(Int.toNat x7)) (sz:=1) (off:=0) (a:=x21) (a':=(IntKind.wrap .u8 (x19 + 32))) (w:=.s (.int .u8 (IntKind.wrap .u8 (x19 + 32)))) (cs:=[.s (.int .u8 (IntKind.wrap .u8 (x19 + 32)))]) (by kernel_rfl) (by kernel_rfl) (by kernel_rfl) (by kernel_rfl) (by kernel_rfl) (XJ h21).2.2 (Nat.le_of_ble_eq_true rfl) (by kernel_rfl)) (by simp only[List.length_set]; kernel_rfl) ?_
     refine AQ rfl ?_
     refine A8 ?_
     exact AK rfl (wkR [(0,some 0)] (AH _) (pc (hL 0 (AM rZ _)) AB))
    refine AS ?_
    refine A8 ?_
    exact AK rfl (wkR [(0,some 0)] (AH _) (pc (hL 0 (AM rZ _)) AB))
   intro x18
   refine AN ?_
   refine jT ⟨[V 3 (.osl 0 0 (List.length x18) 1),V 8 (.osl 0 0 (List.length x18) 1),V 9 (iv (List.length x1:Int)),V 10 (iv (w64 (x7 + 1)))],[(0,.rows 1 (List.map cB x18))],1⟩ ?_
   exact Ck (wkR [(0,some 0)] (AH _) (pc (hL 0 (AM rZ _)) AB))
  refine CN ?_
  refine CM ?_
  exact BD rfl nofun (wkR [(0,some 0)] (AH _) (pc (hL 0 (AM rZ _)) AB))
 intro x14
 refine CY ?_
 refine AN ?_
 refine jR ?_
 refine jG 0 1 ⟨[V 23 (.osl 0 0 (List.length x14) 1)],[(0,.rows 1 (List.map cB x14))],1⟩ ?_
 refine GD (i:=1) rfl rfl rfl rfl (p6 (e:=5) (id:=0) (l:=x14) (by kernel_rfl) (by kernel_rfl) (by kernel_rfl) (by kernel_rfl) (by kernel_rfl)) rfl ?_
 refine jG 2 1 ⟨[V 2 (bs (ofb x14))],[],2⟩ ?_
 refine jN ?_
 refine AO ?_
 exact AP (.inr rfl) (v:=bs (ofb x14)) (by kernel_rfl) rfl (AE _))
abbrev Lj:List LO:=[lo 4 (.assign (.const (.bool false))) 4]
abbrev Lc:List LO:=[lm 5 0 9,lo 6 (.call ⟨.builtin .len,#[.tmp 5],#[9]⟩) 3,lm 7 1 9,lo 8 (.call ⟨.builtin .len,#[.tmp 7],#[9]⟩) 3,lo 9 (.binOp .geq 3 (.tmp 6) (.tmp 8) 3) 4,lm 10 9 4,lmg 11 0 9 10 true,lmg 12 1 9 10 true,lg 13 (.call ⟨.builtin .len,#[.tmp 12],#[9]⟩) 3 10 true,lg 14 (.slice 9 (.tmp 11) none (some (.tmp 13)) none) 9 10 true,lmg 15 1 9 10 true,lg 16 (.binOp .eql 9 (.tmp 14) (.tmp 15) 9) 4 10 true,lo 17 (.pick (.tmp 10) (.tmp 16) (.const (.bool false))) 4,lo 4 (.assign (.tmp 17)) 4]
abbrev Fy:LC:=.seq (.reg false Lj) (.seq (.reg false Lc) .ret)
theorem Mi:BE E 120 18 [.tmp 4] Fy:=⟨⟨Go.Proofs.Tryz.f120,by kernel_rfl,by kernel_rfl,by kernel_rfl,by kernel_rfl,by kernel_rfl⟩,rfl,rfl⟩
noncomputable def C5 (a0:Str) (a1:Str):Option (Bool):=Option.bind (if (decide ((List.length a0:Int)≥(List.length a1:Int)))=true then Option.bind (Fj a0 0 (List.length a1:Int)) (fun x3=>some (x3 == a1)) else some false:Option (Bool)) (fun x2=>some x2)
theorem LQ (a0:Str) (a1:Str):Ct E 120 [bs a0,bs a1] (C5 a0 a1) (fun r:Bool=>bv r):=Ad (N:=18) (L:=Fy) Mi rfl (Nat.le_of_ble_eq_true rfl) (by kernel_rfl) (by
 unfold C5
 refine jS ⟨[V 0 (bs a0),V 1 (bs a1)],[],0⟩ ?_
 refine jR ?_
 refine jG 0 6 ⟨[V 0 (bs a0),V 1 (bs a1),V 10 (bv (decide ((List.length a0:Int)≥(List.length a1:Int))))],[],0⟩ ?_
 refine Ak 6 7 (fun x2=>⟨[V 17 (bv x2)],[],0⟩) ?_ ?_
 ·refine jSp 10 ?_ ?_
  ·refine jG 0 3 ⟨[V 1 (bs a1),(10,.lit true),V 11 (bs a0),V 13 (iv (List.length a1:Int))],[],0⟩ ?_
   refine An (i:=3) (mo:=Fj a0 0 (List.length a1:Int)) rfl rfl rfl rfl (fun _ hc=>He (by kernel_rfl) (by kernel_rfl) (by kernel_rfl) (by kernel_rfl) hc) (fun _=>rfl) ?_
   intro x3 h3
   refine jG 4 3 ⟨[V 17 (bv (x3 == a1))],[],0⟩ ?_
   refine AQ rfl ?_
   exact AK rfl (wkR [] (AH _) AB)
  refine jG 0 7 ⟨[V 17 (bv false)],[],0⟩ ?_
  refine AQ rfl ?_
  exact AK rfl (wkR [] (AH _) AB)
 intro x2
 refine jG 13 1 ⟨[V 4 (bv x2)],[],0⟩ ?_
 refine jN ?_
 refine AO ?_
 exact AP (.inr rfl) (v:=bv x2) (by kernel_rfl) rfl (AE _))
abbrev Pk:List LO:=[lo 4 (.assign (.const (.bool false))) 4]
abbrev PU:List LO:=[lm 5 0 9,lm 6 1 9,lo 7 (.call ⟨.value (.func 120),#[.tmp 5,.tmp 6],#[9,9]⟩) 4,lo 4 (.assign (.tmp 7)) 4]
abbrev JV:LC:=.seq (.reg false Pk) (.seq (.reg false PU) .ret)
theorem Qi:BE E 99 8 [.tmp 4] JV:=⟨⟨Go.Proofs.Tryz.f99,by kernel_rfl,by kernel_rfl,by kernel_rfl,by kernel_rfl,by kernel_rfl⟩,rfl,rfl⟩
noncomputable def DP (a0:Str) (a1:Str):Option (Bool):=Option.bind (C5 a0 a1) (fun x1=>some x1)
theorem Pp (a0:Str) (a1:Str):Ct E 99 [bs a0,bs a1] (DP a0 a1) (fun r:Bool=>bv r):=Ad (N:=8) (L:=JV) Qi rfl (Nat.le_of_ble_eq_true rfl) (by kernel_rfl) (by
 unfold DP
 refine jS ⟨[V 0 (bs a0),V 1 (bs a1)],[],0⟩ ?_
 refine jR ?_
 refine jG 0 2 ⟨[V 5 (bs a0),V 6 (bs a1)],[],0⟩ ?_
 refine jK 2 (LQ a0 a1) ?_
 intro x1 h1
 refine jG 3 1 ⟨[V 4 (bv x1)],[],0⟩ ?_
 refine jN ?_
 refine AO ?_
 exact AP (.inr rfl) (v:=bv x1) (by kernel_rfl) rfl (AE _))
abbrev fY:List LO:=[lo 6 (.assign (.const (.string ⟨#[]⟩))) 9,lo 7 (.assign (.const (.bool false))) 4]
abbrev cR:List LO:=[lo 8 (.assign (.const (.string ⟨#[]⟩))) 9,lo 9 (.assign (.const (.bool false))) 4]
abbrev cL:List LO:=[lm 12 1 3,lo 13 (.binOp .lss 3 (.tmp 12) (.const (.int .i64 0)) 3) 4,lm 14 13 4,lmg 15 1 3 14 false,lmg 16 0 9 14 false,lg 17 (.call ⟨.builtin .len,#[.tmp 16],#[9]⟩) 3 14 false,lg 18 (.binOp .gtr 3 (.tmp 15) (.tmp 17) 3) 4 14 false,lo 19 (.pick (.tmp 14) (.const (.bool true)) (.tmp 18)) 4]
abbrev eT:List LO:=[lo 6 (.assign (.const (.string ⟨#[]⟩))) 9,lo 7 (.assign (.const (.bool false))) 4]
abbrev eD:List LO:=[lm 20 2 32,lo 21 (.call ⟨.builtin .len,#[.tmp 20],#[32]⟩) 3,lo 22 (.move (.const (.int .i64 0))) 3]
abbrev eA:List LO:=[lo 23 (.binOp .lss 3 (.tmp 22) (.tmp 21) 3) 0]
abbrev dT:List LO:=[lo 24 (.indexAddr 32 (.tmp 20) (.tmp 22)) 0,lo 25 (.load 9 (.tmp 24)) 9,lo 11 (.assign (.tmp 25)) 9]
abbrev fG:List LO:=[lm 26 0 9,lm 27 1 3,lo 28 (.slice 9 (.tmp 26) (some (.tmp 27)) none none) 9,lm 29 11 9,lo 30 (.call ⟨.value (.func 99),#[.tmp 28,.tmp 29],#[9,9]⟩) 4,lm 31 30 4,lmg 32 9 4 31 true,lg 33 (.unOp .not 4 (.tmp 32)) 4 31 true,lmg 34 33 4 31 true,lmg 35 11 9 34 false,lg 36 (.call ⟨.builtin .len,#[.tmp 35],#[9]⟩) 3 34 false,lmg 37 8 9 34 false,lg 38 (.call ⟨.builtin .len,#[.tmp 37],#[9]⟩) 3 34 false,lg 39 (.binOp .gtr 3 (.tmp 36) (.tmp 38) 3) 4 34 false,lg 40 (.pick (.tmp 34) (.const (.bool true)) (.tmp 39)) 4 31 true,lo 41 (.pick (.tmp 31) (.tmp 40) (.const (.bool false))) 4]
abbrev cE:List LO:=[lm 42 11 9,lo 8 (.assign (.tmp 42)) 9,lo 9 (.assign (.const (.bool true))) 4]
abbrev ZP:List LO:=[lo 43 (.binOp .add 3 (.tmp 22) (.const (.int .i64 1)) 3) 3,lm 22 43 3]
abbrev Yq:List LO:=[lm 44 8 9,lm 45 9 4,lo 6 (.assign (.tmp 44)) 9,lo 7 (.assign (.tmp 45)) 4]
abbrev VR:LC:=.seq (.reg false fY) (.seq (.reg false cR) (.seq (.seq (.reg false cL) (.cond (.tmp 19) (.seq (.reg false eT) .ret) .skip)) (.seq (.seq (.reg false eD) (.block 0 (.loop (.seq (.reg false eA) (.seq (.cond (.tmp 23) .skip (.exit 0)) (.seq (.block 1 (.seq (.reg false dT) (.seq (.reg false fG) (.cond (.tmp 41) (.reg false cE) .skip)))) (.reg false ZP))))))) (.seq (.reg false Yq) .ret))))
theorem iS:BE E 70 46 [.tmp 6,.tmp 7] VR:=⟨⟨Go.Proofs.Tryz.f70,by kernel_rfl,by kernel_rfl,by kernel_rfl,by kernel_rfl,by kernel_rfl⟩,rfl,rfl⟩
noncomputable def Jf (a0:Str) (a1:Int) (a2:(List Str)):(Str × Bool × Int)→Option (Step (Str × Bool × Int) (Str × Bool)):=fun (x6,x7,x8)=>(if (decide (x8 < (List.length a2:Int)))=true then Option.bind (Option.bind (ixl a2 x8) (fun x24=>Option.bind (Fj a0 a1 (List.length a0:Int)) (fun x25=>Option.bind (DP x25 x24) (fun x26=>(if (x26 && ((!x7) || (decide ((List.length x24:Int) > (List.length x6:Int)))))=true then some (x24,true) else some (x6,x7))))):Option (Str × Bool)) (fun (x22,x23)=>some (Step.next (x22,x23,(w64 (x8 + 1))))) else some (Step.done (x6,x7)))
noncomputable def FM (a0:Str) (a1:Int) (a2:(List Str)):Option (Str × Bool):=(if ((decide (a1 < 0)) || (decide (a1 > (List.length a0:Int))))=true then some ([],false) else Option.bind (Bi (Jf a0 a1 a2) ([],false,0)) (fun (x17,x18)=>some (x17,x18)))
theorem Nh (a0:Str) (a1:Int) (a2:(List Str)):Ct E 70 [bs a0,iv a1,.fsl 1 (List.map cS a2)] (FM a0 a1 a2) (fun r:Str × Bool=>.tup [bs r.1,bv r.2]):=Ad (N:=46) (L:=VR) iS rfl (Nat.le_of_ble_eq_true rfl) (by kernel_rfl) (by
 unfold FM
 refine jS ⟨[V 0 (bs a0),V 1 (iv a1),V 2 (.fsl 1 (List.map cS a2))],[],0⟩ ?_
 refine jS ⟨[V 0 (bs a0),V 1 (iv a1),V 2 (.fsl 1 (List.map cS a2)),V 8 (bs []),V 9 (bv false)],[],0⟩ ?_
 refine AT ?_
 refine jS ⟨[V 0 (bs a0),V 1 (iv a1),V 2 (.fsl 1 (List.map cS a2)),V 8 (bs []),V 9 (bv false),V 19 (bv ((decide (a1 < 0)) || (decide (a1 > (List.length a0:Int)))))],[],0⟩ ?_
 refine jIf ?_ ?_
 ·refine jS ⟨[V 6 (bs []),V 7 (bv false)],[],0⟩ ?_
  refine AO ?_
  refine AZ ?_
  exact AP (.inr rfl) (v:=.tup [bs [],bv false]) (by kernel_rfl) rfl (AE _)
 refine AS ?_
 refine AN ?_
 refine AT ?_
 refine jR ?_
 refine jG 0 3 ⟨[V 0 (bs a0),V 1 (iv a1),V 8 (bs []),V 9 (bv false),V 20 (.fsl 1 (List.map cS a2)),V 21 (iv (List.length (List.map cS a2):Int)),V 22 (iv 0)],[],0⟩ ?_
 simp only[List.length_map]
 refine jN ?_
 refine Ai ?_
 refine As (fun (x17,x18)=>⟨[V 8 (bs x17),V 9 (bv x18)],[],0⟩) (fun (x17,x18)=>(.exit 0)) (Cj (fun (x6,x7,x8)=>⟨[V 0 (bs a0),V 1 (iv a1),V 8 (bs x6),V 9 (bv x7),V 20 (.fsl 1 (List.map cS a2)),V 21 (iv (List.length a2:Int)),V 22 (iv x8)],[],0⟩) (wkR [] (AH _) AB) ?_) ?_
 ·rintro⟨x6,x7,x8⟩
  unfold Jf
  refine jS ⟨[V 0 (bs a0),V 1 (iv a1),V 8 (bs x6),V 9 (bv x7),V 20 (.fsl 1 (List.map cS a2)),V 21 (iv (List.length a2:Int)),V 22 (iv x8),V 23 (bv (decide (x8 < (List.length a2:Int))))],[],0⟩ ?_
  refine AT ?_
  refine jIf ?_ ?_
  ·refine AS ?_
   refine AN ?_
   refine AT ?_
   refine As (fun (x22,x23)=>⟨[V 0 (bs a0),V 1 (iv a1),V 8 (bs x22),V 9 (bv x23),V 20 (.fsl 1 (List.map cS a2)),V 21 (iv (List.length a2:Int)),V 22 (iv x8)],[],0⟩) (fun (x22,x23)=>.normal) ?_ ?_
   ·refine Ai ?_
    refine jR ?_
    refine An (i:=0) (mo:=ixl a2 x8) rfl rfl rfl rfl (fun _ hc=>Da (c:=cS) (sz:=1) (e:=9) (kk:=.i64) (by kernel_rfl) (by kernel_rfl) (by kernel_rfl) (by kernel_rfl) hc) (fun _=>rfl) ?_
    intro x24 h24
    refine jG 1 2 ⟨[V 0 (bs a0),V 1 (iv a1),V 8 (bs x6),V 9 (bv x7),V 11 (bs x24),V 20 (.fsl 1 (List.map cS a2)),V 21 (iv (List.length a2:Int)),V 22 (iv x8)],[],0⟩ ?_
    refine jN ?_
    refine jR ?_
    refine jG 0 2 ⟨[V 0 (bs a0),V 1 (iv a1),V 8 (bs x6),V 9 (bv x7),V 11 (bs x24),V 20 (.fsl 1 (List.map cS a2)),V 21 (iv (List.length a2:Int)),V 22 (iv x8),V 26 (bs a0),V 27 (iv a1)],[],0⟩ ?_
    refine An (i:=2) (mo:=Fj a0 a1 (List.length a0:Int)) rfl rfl rfl rfl (fun _ hc=>He (by kernel_rfl) (by kernel_rfl) (by kernel_rfl) (by kernel_rfl) hc) (fun _=>rfl) ?_
    intro x25 h25
    refine jG 3 1 ⟨[V 0 (bs a0),V 1 (iv a1),V 8 (bs x6),V 9 (bv x7),V 11 (bs x24),V 20 (.fsl 1 (List.map cS a2)),V 21 (iv (List.length a2:Int)),V 22 (iv x8),V 28 (bs x25),V 29 (bs x24)],[],0⟩ ?_
    refine jK 4 (Pp x25 x24) ?_
    intro x26 h26
    refine jG 5 11 ⟨[V 0 (bs a0),V 1 (iv a1),V 8 (bs x6),V 9 (bv x7),V 11 (bs x24),V 20 (.fsl 1 (List.map cS a2)),V 21 (iv (List.length a2:Int)),V 22 (iv x8),V 41 (bv (x26 && ((!x7) || (decide ((List.length x24:Int) > (List.length x6:Int))))))],[],0⟩ ?_
    refine jN ?_
    refine jIf ?_ ?_
    ·refine jT ⟨[V 0 (bs a0),V 1 (iv a1),V 8 (bs x24),V 9 (bv true),V 20 (.fsl 1 (List.map cS a2)),V 21 (iv (List.length a2:Int)),V 22 (iv x8)],[],0⟩ ?_
     refine A8 ?_
     exact AK rfl (wkR [] (AH _) AB)
    refine AS ?_
    refine A8 ?_
    exact AK rfl (wkR [] (AH _) AB)
   rintro⟨x22,x23⟩
   refine AN ?_
   refine jT ⟨[V 0 (bs a0),V 1 (iv a1),V 8 (bs x22),V 9 (bv x23),V 20 (.fsl 1 (List.map cS a2)),V 21 (iv (List.length a2:Int)),V 22 (iv (w64 (x8 + 1)))],[],0⟩ ?_
   exact Ck (wkR [] (AH _) AB)
  refine CN ?_
  refine CM ?_
  exact BD rfl nofun (wkR [] (AH _) AB)
 rintro⟨x17,x18⟩
 refine CY ?_
 refine AN ?_
 refine jS ⟨[V 6 (bs x17),V 7 (bv x18)],[],0⟩ ?_
 refine AO ?_
 exact AP (.inr rfl) (v:=.tup [bs x17,bv x18]) (by kernel_rfl) rfl (AE _))
abbrev gZ:List LO:=[lo 2 (.assign (.const (.bool false))) 4]
abbrev gV:List LO:=[lm 3 0 5,lo 4 (.binOp .eql 5 (.tmp 3) (.const (.int .u8 45)) 5) 4,lm 5 4 4,lmg 6 0 5 5 false,lg 7 (.binOp .eql 5 (.tmp 6) (.const (.int .u8 95)) 5) 4 5 false,lo 8 (.pick (.tmp 5) (.const (.bool true)) (.tmp 7)) 4,lm 9 8 4,lmg 10 0 5 9 false,lg 11 (.binOp .eql 5 (.tmp 10) (.const (.int .u8 46)) 5) 4 9 false,lo 12 (.pick (.tmp 9) (.const (.bool true)) (.tmp 11)) 4,lo 2 (.assign (.tmp 12)) 4]
abbrev YC:LC:=.seq (.reg false gZ) (.seq (.reg false gV) .ret)
theorem mJ:BE E 108 13 [.tmp 2] YC:=⟨⟨Go.Proofs.Tryz.f108,by kernel_rfl,by kernel_rfl,by kernel_rfl,by kernel_rfl,by kernel_rfl⟩,rfl,rfl⟩
noncomputable def Pf (a0:Int):Option (Bool):=some (((a0 == 45) || (a0 == 95)) || (a0 == 46))
theorem kR (a0:Int):Ct E 108 [.s (.int .u8 a0)] (Pf a0) (fun r:Bool=>bv r):=Ad (N:=13) (L:=YC) mJ rfl (Nat.le_of_ble_eq_true rfl) (by kernel_rfl) (by
 unfold Pf
 refine jS ⟨[V 0 (.s (.int .u8 a0))],[],0⟩ ?_
 refine jS ⟨[V 2 (bv (((a0 == 45) || (a0 == 95)) || (a0 == 46)))],[],0⟩ ?_
 refine AO ?_
 exact AP (.inr rfl) (v:=bv (((a0 == 45) || (a0 == 95)) || (a0 == 46))) (by kernel_rfl) rfl (AE _))
abbrev J3:List LO:=[lo 2 (.assign (.const (.bool false))) 4]
abbrev J9:List LO:=[lm 3 0 78,lo 4 (.nilCheck (.tmp 3)) 0,lo 5 (.fieldAddr 80 (.tmp 4) 1) 0,lo 6 (.load 3 (.tmp 5)) 3,lm 7 0 78,lo 8 (.nilCheck (.tmp 7)) 0,lo 9 (.fieldAddr 80 (.tmp 8) 0) 0,lo 10 (.load 9 (.tmp 9)) 9,lo 11 (.call ⟨.builtin .len,#[.tmp 10],#[9]⟩) 3,lo 12 (.binOp .lss 3 (.tmp 6) (.tmp 11) 3) 4,lm 13 12 4,lmg 14 0 78 13 true,lg 15 (.nilCheck (.tmp 14)) 0 13 true,lg 16 (.fieldAddr 80 (.tmp 15) 0) 0 13 true,lg 17 (.load 9 (.tmp 16)) 9 13 true,lmg 18 0 78 13 true,lg 19 (.nilCheck (.tmp 18)) 0 13 true,lg 20 (.fieldAddr 80 (.tmp 19) 1) 0 13 true,lg 21 (.load 3 (.tmp 20)) 3 13 true,lg 22 (.index 9 (.tmp 17) (.tmp 21)) 5 13 true,lg 23 (.call ⟨.value (.func 108),#[.tmp 22],#[5]⟩) 4 13 true,lo 24 (.pick (.tmp 13) (.tmp 23) (.const (.bool false))) 4,lo 2 (.assign (.tmp 24)) 4]
abbrev FP:LC:=.seq (.reg false J3) (.seq (.reg true J9) .ret)
theorem KU:BE E 83 25 [.tmp 2] FP:=⟨⟨Go.Proofs.Tryz.f83,by kernel_rfl,by kernel_rfl,by kernel_rfl,by kernel_rfl,by kernel_rfl⟩,rfl,rfl⟩
noncomputable def BQ (a0:Str) (a1:Int) (a2:Int) (a3:Int):Option (Bool):=Option.bind (if (decide (a1 < (List.length a0:Int)))=true then Option.bind (idx a0 a1) (fun x4=>Option.bind (Pf x4) (fun x5=>some x5)) else some false:Option (Bool)) (fun x3=>some x3)
theorem C0 (a0:Str) (a1:Int) (a2:Int) (a3:Int):Ct E 83 [.fptr [bs a0,iv a1,iv a2,iv a3] 0] (BQ a0 a1 a2 a3) (fun r:Bool=>bv r):=Ad (N:=25) (L:=FP) KU rfl (Nat.le_of_ble_eq_true rfl) (by kernel_rfl) (by
 unfold BQ
 refine jS ⟨[V 0 (.fptr [bs a0,iv a1,iv a2,iv a3] 0)],[],0⟩ ?_
 refine jR ?_
 refine jG 0 11 ⟨[V 0 (.fptr [bs a0,iv a1,iv a2,iv a3] 0),V 13 (bv (decide (a1 < (List.length a0:Int))))],[],0⟩ ?_
 refine Ak 11 11 (fun x3=>⟨[V 24 (bv x3)],[],0⟩) ?_ ?_
 ·refine jSp 13 ?_ ?_
  ·refine jG 0 8 ⟨[(13,.lit true),V 17 (bs a0),V 21 (iv a1)],[],0⟩ ?_
   refine An (i:=8) (mo:=idx a0 a1) rfl rfl rfl rfl (fun _ hc=>Bd (kk:=.i64) (by kernel_rfl) (by kernel_rfl) (by kernel_rfl) hc) (fun _=>rfl) ?_
   intro x4 h4
   refine jK 9 (kR x4) ?_
   intro x5 h5
   refine jG 10 1 ⟨[V 24 (bv x5)],[],0⟩ ?_
   refine AQ rfl ?_
   exact AK rfl (wkR [] (AH _) AB)
  refine jG 0 11 ⟨[V 24 (bv false)],[],0⟩ ?_
  refine AQ rfl ?_
  exact AK rfl (wkR [] (AH _) AB)
 intro x3
 refine jG 22 1 ⟨[V 2 (bv x3)],[],0⟩ ?_
 refine jN ?_
 refine AO ?_
 exact AP (.inr rfl) (v:=bv x3) (by kernel_rfl) rfl (AE _))
abbrev Ov:List LO:=[lo 2 (.assign (.const (.string ⟨#[]⟩))) 9]
abbrev Pg:List LO:=[lm 3 0 78,lo 4 (.call ⟨.value (.func 83),#[.tmp 3],#[78]⟩) 4,lm 5 4 4,lmg 6 0 78 5 true,lg 7 (.nilCheck (.tmp 6)) 0 5 true,lg 8 (.fieldAddr 80 (.tmp 7) 1) 0 5 true,lg 9 (.load 3 (.tmp 8)) 3 5 true,lg 10 (.binOp .add 3 (.tmp 9) (.const (.int .i64 1)) 3) 3 5 true,lmg 11 0 78 5 true,lg 12 (.nilCheck (.tmp 11)) 0 5 true,lg 13 (.fieldAddr 80 (.tmp 12) 0) 0 5 true,lg 14 (.load 9 (.tmp 13)) 9 5 true,lg 15 (.call ⟨.builtin .len,#[.tmp 14],#[9]⟩) 3 5 true,lg 16 (.binOp .lss 3 (.tmp 10) (.tmp 15) 3) 4 5 true,lo 17 (.pick (.tmp 5) (.tmp 16) (.const (.bool false))) 4,lm 18 17 4,lmg 19 0 78 18 true,lg 20 (.nilCheck (.tmp 19)) 0 18 true,lg 21 (.fieldAddr 80 (.tmp 20) 0) 0 18 true,lg 22 (.load 9 (.tmp 21)) 9 18 true,lmg 23 0 78 18 true,lg 24 (.nilCheck (.tmp 23)) 0 18 true,lg 25 (.fieldAddr 80 (.tmp 24) 1) 0 18 true,lg 26 (.load 3 (.tmp 25)) 3 18 true,lg 27 (.binOp .add 3 (.tmp 26) (.const (.int .i64 1)) 3) 3 18 true,lg 28 (.index 9 (.tmp 22) (.tmp 27)) 5 18 true,lg 29 (.call ⟨.value (.func 71),#[.tmp 28,.const (.int .i64 1)],#[5,3]⟩) 4 18 true,lo 30 (.pick (.tmp 18) (.tmp 29) (.const (.bool false))) 4]
abbrev Or:List LO:=[lm 31 0 78,lo 32 (.nilCheck (.tmp 31)) 0,lo 33 (.fieldAddr 80 (.tmp 32) 1) 0,lo 34 (.load 3 (.tmp 33)) 3,lo 35 (.binOp .add 3 (.tmp 34) (.const (.int .i64 1)) 3) 3,lo 36 (.nilCheck (.tmp 31)) 0,lo 37 (.fieldAddr 80 (.tmp 36) 1) 0,ln (.store 3 (.tmp 37) (.tmp 35)) 0]
abbrev PQ:List LO:=[lm 38 0 78,lo 39 (.call ⟨.value (.func 84),#[.tmp 38,.const (.int .i64 1)],#[78,3]⟩) 4]
abbrev O4:List LO:=[lm 40 0 78,lo 41 (.call ⟨.value (.func 79),#[.tmp 40],#[78]⟩) 9,lo 2 (.assign (.tmp 41)) 9]
abbrev PO:List LO:=[lo 2 (.assign (.const (.string ⟨#[48]⟩))) 9]
abbrev JU:LC:=.seq (.reg false Ov) (.seq (.seq (.reg true Pg) (.cond (.tmp 30) (.reg false Or) .skip)) (.seq (.seq (.reg false PQ) (.cond (.tmp 39) (.seq (.reg false O4) .ret) .skip)) (.seq (.reg false PO) .ret)))
theorem QY:BE E 54 42 [.tmp 2] JU:=⟨⟨Go.Proofs.Tryz.f54,by kernel_rfl,by kernel_rfl,by kernel_rfl,by kernel_rfl,by kernel_rfl⟩,rfl,rfl⟩
abbrev JY (a0:Str) (a1:Int) (a2:Int) (a3:Int) (r:Str × Int):CS:=⟨[V 2 (bs r.1)],[W 0 4 [bs a0,iv r.2,iv a2,iv a3]],1⟩
noncomputable def Bc (a0:Str) (a1:Int) (a2:Int) (a3:Int):Option (Str × Int):=Option.bind (Option.bind (BQ a0 a1 a2 a3) (fun x16=>Option.bind (if (x16 && (decide ((w64 (a1 + 1)) < (List.length a0:Int))))=true then Option.bind (idx a0 (w64 (a1 + 1))) (fun x20=>Option.bind (DZ x20 1) (fun x21=>some x21)) else some false:Option (Bool)) (fun x19=>(if x19=true then some (w64 (a1 + 1)) else some a1))):Option (Int)) (fun x15=>Option.bind (CC a0 x15 a2 a3 1) (fun x22=>(if x22=true then Option.bind (Br a0 x15 a2 a3) (fun (x23,x24)=>some (x23,x24)) else some ([48],x15))))
theorem E2 (a0:Str) (a1:Int) (a2:Int) (a3:Int):CtM E 54 [pt 0 4] [W 0 4 [bs a0,iv a1,iv a2,iv a3]] 1 (Bc a0 a1 a2 a3) (fun r:Str × Int=>bs r.1) (fun r:Str × Int=>[W 0 4 [bs a0,iv r.2,iv a2,iv a3]]) 1:=Bf (N:=42) (L:=JU) QY rfl (Nat.le_of_ble_eq_true rfl) (fun F hF=>by
 unfold Bc
 refine jS ⟨[V 0 (pt 0 4)],[W 0 4 [bs a0,iv a1,iv a2,iv a3]],1⟩ ?_
 refine AT ?_
 refine As (fun x15=>⟨[V 0 (pt 0 4)],[W 0 4 [bs a0,iv x15,iv a2,iv a3]],1⟩) (fun x15=>.normal) ?_ ?_
 ·refine jR ?_
  refine jG 0 1 ⟨[V 0 (pt 0 4),V 3 (pt 0 4)],[W 0 4 [bs a0,iv a1,iv a2,iv a3]],1⟩ ?_
  refine Bh (i:=1) rfl rfl rfl rfl (vs:=[pt 0 4]) (vs0:=[.fptr [bs a0,iv a1,iv a2,iv a3] 0]) (b:=true) (by kernel_rfl) (by kernel_rfl) (AJ (AE _) Aj) (C0 a0 a1 a2 a3) (fun _=>rfl) (fun _=>rfl) ?_
  intro x16 h16
  refine jG 2 14 ⟨[V 0 (pt 0 4),V 18 (bv (x16 && (decide ((w64 (a1 + 1)) < (List.length a0:Int)))))],[W 0 4 [bs a0,iv a1,iv a2,iv a3]],1⟩ ?_
  refine Ak 16 12 (fun x19=>⟨[V 0 (pt 0 4),V 30 (bv x19)],[W 0 4 [bs a0,iv a1,iv a2,iv a3]],1⟩) ?_ ?_
  ·refine jSp 18 ?_ ?_
   ·refine jG 0 9 ⟨[V 0 (pt 0 4),(18,.lit true),V 22 (bs a0),V 27 (iv (w64 (a1 + 1)))],[W 0 4 [bs a0,iv a1,iv a2,iv a3]],1⟩ ?_
    refine An (i:=9) (mo:=idx a0 (w64 (a1 + 1))) rfl rfl rfl rfl (fun _ hc=>Bd (kk:=.i64) (by kernel_rfl) (by kernel_rfl) (by kernel_rfl) hc) (fun _=>rfl) ?_
    intro x20 h20
    refine jK 10 (E0 x20 1) ?_
    intro x21 h21
    refine jG 11 1 ⟨[V 0 (pt 0 4),V 30 (bv x21)],[W 0 4 [bs a0,iv a1,iv a2,iv a3]],1⟩ ?_
    refine AQ rfl ?_
    exact AK rfl (wkR [(0,some 0)] (AY hF (k:=1) rfl) (pc (hC 0) AB))
   refine jG 0 12 ⟨[V 0 (pt 0 4),V 30 (bv false)],[W 0 4 [bs a0,iv a1,iv a2,iv a3]],1⟩ ?_
   refine AQ rfl ?_
   exact AK rfl (wkR [(0,some 0)] (AY hF (k:=1) rfl) (pc (hC 0) AB))
  intro x19
  refine jN ?_
  refine jIf ?_ ?_
  ·refine jT ⟨[V 0 (pt 0 4)],[W 0 4 [bs a0,iv (w64 (a1 + 1)),iv a2,iv a3]],1⟩ ?_
   exact AK rfl (wkR [(0,some 0)] (AY hF (k:=1) rfl) (pc (hC 0) AB))
  refine AS ?_
  exact AK rfl (wkR [(0,some 0)] (AY hF (k:=1) rfl) (pc (hC 0) AB))
 intro x15
 refine AN ?_
 refine AT ?_
 refine jR ?_
 refine jG 0 1 ⟨[V 0 (pt 0 4),V 38 (pt 0 4)],[W 0 4 [bs a0,iv x15,iv a2,iv a3]],1⟩ ?_
 refine Bh (i:=1) rfl rfl rfl rfl (vs:=[pt 0 4,iv 1]) (vs0:=[.fptr [bs a0,iv x15,iv a2,iv a3] 0,iv 1]) (b:=true) (by kernel_rfl) (by kernel_rfl) (AJ (AE _) (AJ (AE _) Aj)) (GO a0 x15 a2 a3 1) (fun _=>rfl) (fun _=>rfl) ?_
 intro x22 h22
 refine jN ?_
 refine jIf ?_ ?_
 ·refine jR ?_
  refine jG 0 1 ⟨[V 40 (pt 0 4)],[W 0 4 [bs a0,iv x15,iv a2,iv a3]],1⟩ ?_
  refine Am 1 [(0,some 0)] [(0,some 0)] (fun r:Str × Int=>[W 0 4 [bs a0,iv r.2,iv a2,iv a3]]) (fun r:Str × Int=>bs r.1) 1 (DN a0 x15 a2 a3) (pc (hC 0) AB) (fun r=>(pc (.inr (hC 0)) AB)) ?_
  rintro⟨x23,x24⟩ hm2
  refine jG 2 1 ⟨[V 2 (bs x23)],[W 0 4 [bs a0,iv x24,iv a2,iv a3]],1⟩ ?_
  refine jN ?_
  refine AO ?_
  refine AZ ?_
  exact A7 (JY a0 a1 a2 a3 (x23,x24)) (.inr rfl) (wkR [(0,some 0)] (AY hF (k:=1) rfl) (pc (hC 0) AB))
 refine AS ?_
 refine AN ?_
 refine jS ⟨[V 2 (bs [48])],[W 0 4 [bs a0,iv x15,iv a2,iv a3]],1⟩ ?_
 refine AO ?_
 exact A7 (JY a0 a1 a2 a3 ([48],x15)) (.inr rfl) (wkR [(0,some 0)] (AY hF (k:=1) rfl) (pc (hC 0) AB)))
abbrev QZ:List LO:=[lo 1 (.box 78 (.tmp 0)) 0,lo 2 (.assign (.const .nilFunc)) 97]
abbrev Qb:List LO:=[lo 3 (.makeFunc (Fn.func 103) #[] #[.tmp 1]) 96,lo 2 (.assign (.tmp 3)) 97]
abbrev KE:LC:=.seq (.reg false QZ) (.seq (.reg false Qb) .ret)
theorem RK:BE E 81 4 [.tmp 2] KE:=⟨⟨Go.Proofs.Tryz.f81,by kernel_rfl,by kernel_rfl,by kernel_rfl,by kernel_rfl,by kernel_rfl⟩,rfl,rfl⟩
abbrev Rg (a0:Str) (a1:Int) (a2:Int) (a3:Int) (r:Unit):CS:=⟨[V 2 (.fn 103 [pt 1 1])],[W 0 4 [bs a0,iv a1,iv a2,iv a3],W 1 1 [pt 0 4]],2⟩
noncomputable def FC (a0:Str) (a1:Int) (a2:Int) (a3:Int):Option (Unit):=some ()
theorem Qs (a0:Str) (a1:Int) (a2:Int) (a3:Int):CtM E 81 [pt 0 4] [W 0 4 [bs a0,iv a1,iv a2,iv a3]] 1 (FC a0 a1 a2 a3) (fun r:Unit=>.fn 103 [pt 1 1]) (fun r:Unit=>[W 0 4 [bs a0,iv a1,iv a2,iv a3],W 1 1 [pt 0 4]]) 2:=Bf (N:=4) (L:=KE) RK rfl (Nat.le_of_ble_eq_true rfl) (fun F hF=>by
 unfold FC
 refine jS ⟨[V 1 (pt 1 1)],[W 0 4 [bs a0,iv a1,iv a2,iv a3],W 1 1 [pt 0 4]],2⟩ ?_
 refine jS ⟨[V 2 (.fn 103 [pt 1 1])],[W 0 4 [bs a0,iv a1,iv a2,iv a3],W 1 1 [pt 0 4]],2⟩ ?_
 refine AO ?_
 exact A7 (Rg a0 a1 a2 a3 ()) (.inr rfl) (wkR [(0,some 0),(1,some 1)] (AY hF (k:=1) rfl) (pc (hC 0) (pc (hC 1) AB))))
abbrev Lg:List LO:=[lo 3 (.load 78 (.tmp 1)) 78,lo 4 (.call ⟨.value (.func 83),#[.tmp 3],#[78]⟩) 4,lm 5 4 4,lmg 6 0 76 5 true,lg 7 (.load 78 (.tmp 1)) 78 5 true,lg 8 (.nilCheck (.tmp 7)) 0 5 true,lg 9 (.fieldAddr 80 (.tmp 8) 1) 0 5 true,lg 10 (.load 3 (.tmp 9)) 3 5 true,lg 11 (.binOp .add 3 (.tmp 10) (.const (.int .i64 1)) 3) 3 5 true,lg 12 (.call ⟨.value (.tmp 6),#[.tmp 11],#[3]⟩) 4 5 true,lg 13 (.unOp .not 4 (.tmp 12)) 4 5 true,lo 14 (.pick (.tmp 5) (.tmp 13) (.const (.bool false))) 4]
abbrev LP:List LO:=[lm 15 0 76,lo 16 (.load 78 (.tmp 1)) 78,lo 17 (.nilCheck (.tmp 16)) 0,lo 18 (.fieldAddr 80 (.tmp 17) 1) 0,lo 19 (.load 3 (.tmp 18)) 3,lo 20 (.call ⟨.value (.tmp 15),#[.tmp 19],#[3]⟩) 4]
abbrev Mt:LC:=.seq (.seq (.reg false Lg) (.cond (.tmp 14) .ret .skip)) (.reg false LP)
theorem MS:BE E 103 21 [] Mt:=⟨⟨Go.Proofs.Tryz.f103,by kernel_rfl,by kernel_rfl,by kernel_rfl,by kernel_rfl,by kernel_rfl⟩,rfl,rfl⟩
abbrev RO:List LO:=[lo 2 (.box 78 (.tmp 0)) 0,lo 3 (.box 32 (.tmp 1)) 0,lo 4 (.alloc 9) 0,lo 5 (.alloc 4) 0]
abbrev Rw:List LO:=[lo 9 (.load 78 (.tmp 2)) 78,lo 10 (.nilCheck (.tmp 9)) 0,lo 11 (.fieldAddr 80 (.tmp 10) 2) 0,lo 12 (.fieldAddr 25 (.tmp 11) 0) 0,lo 13 (.load 23 (.tmp 12)) 23,lo 14 (.binOp .neq 23 (.tmp 13) (.const (.int .i64 0)) 23) 4]
abbrev Rx:List LO:=[ln (.store 9 (.tmp 4) (.const (.string ⟨#[]⟩))) 0,ln (.store 4 (.tmp 5) (.const (.bool false))) 0]
abbrev Ry:List LO:=[lo 15 (.load 78 (.tmp 2)) 78,lo 16 (.call ⟨.value (.func 81),#[.tmp 15],#[78]⟩) 97]
abbrev RN:List LO:=[lo 6 (.assign (.tmp 17)) 3]
abbrev Ro:List LO:=[lo 19 (.load 78 (.tmp 2)) 78,lo 20 (.nilCheck (.tmp 19)) 0,lo 21 (.fieldAddr 80 (.tmp 20) 0) 0,lo 22 (.load 9 (.tmp 21)) 9,lm 23 6 3,lo 24 (.load 32 (.tmp 3)) 32,lo 25 (.call ⟨.value (.func 70),#[.tmp 22,.tmp 23,.tmp 24],#[9,3,32]⟩) 58,lm 18 25 58,lo 26 (.extract (.tmp 18) 0) 9,lo 27 (.extract (.tmp 18) 1) 4,lo 7 (.assign (.tmp 26)) 9,lo 8 (.assign (.tmp 27)) 4]
abbrev RR:List LO:=[lm 28 8 4]
abbrev RS:List LO:=[lo 29 (.load 78 (.tmp 2)) 78,lm 30 6 3,lm 31 7 9,lo 32 (.call ⟨.builtin .len,#[.tmp 31],#[9]⟩) 3,lo 33 (.binOp .add 3 (.tmp 30) (.tmp 32) 3) 3,lo 34 (.nilCheck (.tmp 29)) 0,lo 35 (.fieldAddr 80 (.tmp 34) 1) 0,ln (.store 3 (.tmp 35) (.tmp 33)) 0]
abbrev SO:List LO:=[lm 36 7 9,ln (.store 9 (.tmp 4) (.tmp 36)) 0,ln (.store 4 (.tmp 5) (.const (.bool true))) 0]
noncomputable def Ds:Code:=Ea (Jx Go.Proofs.Tryz.f52) [1,1,0,1,0,0]
theorem GT:FR E Ds=some (.reg false RN):=by kernel_rfl
noncomputable def Dz:Code:=Ea (Jx Go.Proofs.Tryz.f52) [1,1,0,1,0,1]
theorem GZ:FR E Dz=some (.block 1 (.seq (.reg true Ro) (.seq (.reg false RR) (.cond (.tmp 28) (.seq (.reg false RS) (.seq (.reg false SO) .ret)) .skip)))):=by kernel_rfl
abbrev QX:List LO:=[ln (.store 9 (.tmp 4) (.const (.string ⟨#[]⟩))) 0,ln (.store 4 (.tmp 5) (.const (.bool false))) 0]
noncomputable abbrev Ks:LC:=.seq (.reg false RO) (.seq (.seq (.reg false Rw) (.cond (.tmp 14) (.seq (.reg false Rx) .ret) .skip)) (.seq (.seq (.reg false Ry) (.block 0 (.rng (.tmp 16) [17] Ds Dz))) (.seq (.reg false QX) .ret)))
theorem Ts:BE E 52 37 [.cell 4 9,.cell 5 4] Ks:=⟨⟨Go.Proofs.Tryz.f52,by kernel_rfl,by kernel_rfl,by kernel_rfl,by kernel_rfl,by kernel_rfl⟩,rfl,rfl⟩
noncomputable abbrev AW (q:LoopState) (p:Option Code):B6:=.loop { state:=q,pending:=p,tmps:=tl 37 [V 2 (pt 2 1),V 3 (pt 3 1),V 4 (pt 4 1),V 5 (pt 5 1),V 16 (.fn 103 [pt 6 1])] none,params:=[17],assign:=Ds,body:=Dz }
abbrev Ec (a0:Str) (a1:Int) (a2:Int) (a3:Int) (a4:List Str) (r:Str × Bool × Int):CS:=⟨[V 4 (pt 2 1),V 5 (pt 3 1)],[W 0 4 [bs a0,iv r.2.2,iv a2,iv a3],(1,.rows 1 (List.map cS a4)),W 2 1 [bs r.1],W 3 1 [bv r.2.1]],4⟩
noncomputable def BY (a0:Str) (a1:Int) (a2:Int) (a3:Int) (a4:List Str):Option (Str × Bool × Int):=(if (a2 != 0)=true then some ([],false,a1) else Option.bind (FC a0 a1 a2 a3) (fun _=>Option.bind (BQ a0 a1 a2 a3) (fun x13=>Option.bind (if x13=true then Option.bind (Option.bind (FM a0 (w64 (a1 + 1)) a4) (fun x22=>(if x22.2=true then some (Sum.inl ((w64 ((w64 (a1 + 1)) + (List.length x22.1:Int))),x22.1)) else some (Sum.inr ()))):Option ((Int × Str) ⊕ (Unit))) (fun y=>match y with | Sum.inl (x20,x21)=>some (Sum.inl (x20,x21)) | Sum.inr _=>some (Sum.inr ())) else some (Sum.inr ()):Option ((Int × Str) ⊕ (Unit))) (fun y=>match y with | Sum.inl (x17,x18)=>some (x18,true,x17) | Sum.inr _=>Option.bind (Option.bind (FM a0 a1 a4) (fun x26=>(if x26.2=true then some (Sum.inl ((w64 (a1 + (List.length x26.1:Int))),x26.1)) else some (Sum.inr ()))):Option ((Int × Str) ⊕ (Unit))) (fun y=>match y with | Sum.inl (x24,x25)=>some (x25,true,x24) | Sum.inr _=>some ([],false,a1))))))
theorem Fu (a0:Str) (a1:Int) (a2:Int) (a3:Int) (a4:List Str):CtM E 52 [pt 0 4,.osl 1 0 (List.length a4) 1] [W 0 4 [bs a0,iv a1,iv a2,iv a3],(1,.rows 1 (List.map cS a4))] 2 (BY a0 a1 a2 a3 a4) (fun r:Str × Bool × Int=>.tup [bs r.1,bv r.2.1]) (fun r:Str × Bool × Int=>[W 0 4 [bs a0,iv r.2.2,iv a2,iv a3],(1,.rows 1 (List.map cS a4))]) 4:=Bf (N:=37) (L:=Ks) Ts rfl (Nat.le_of_ble_eq_true rfl) (fun F hF=>by
 unfold BY
 refine jS ⟨[V 2 (pt 2 1),V 3 (pt 3 1),V 4 (pt 4 1),V 5 (pt 5 1)],[W 0 4 [bs a0,iv a1,iv a2,iv a3],(1,.rows 1 (List.map cS a4)),W 2 1 [pt 0 4],W 3 1 [.osl 1 0 (List.length a4) 1],W 4 1 [bs []],W 5 1 [bv false]],6⟩ ?_
 refine AT ?_
 refine jS ⟨[V 2 (pt 2 1),V 3 (pt 3 1),V 4 (pt 4 1),V 5 (pt 5 1),V 14 (bv (a2 != 0))],[W 0 4 [bs a0,iv a1,iv a2,iv a3],(1,.rows 1 (List.map cS a4)),W 2 1 [pt 0 4],W 3 1 [.osl 1 0 (List.length a4) 1],W 4 1 [bs []],W 5 1 [bv false]],6⟩ ?_
 refine jIf ?_ ?_
 ·refine jS ⟨[V 4 (pt 4 1),V 5 (pt 5 1)],[W 0 4 [bs a0,iv a1,iv a2,iv a3],(1,.rows 1 (List.map cS a4)),W 4 1 [bs []],W 5 1 [bv false]],6⟩ ?_
  refine AO ?_
  refine AZ ?_
  exact A7 (Ec a0 a1 a2 a3 a4 ([],false,a1)) (.inr rfl) (wkR [(0,some 0),(1,some 1),(2,some 4),(3,some 5)] (AY hF (k:=2) rfl) (pc (hC 0) (pc (hL 1 (AM BS _)) (pc (hC 4) (pc (hC 5) AB)))))
 refine AS ?_
 refine AN ?_
 refine AT ?_
 refine jR ?_
 refine jG 0 1 ⟨[V 2 (pt 2 1),V 3 (pt 3 1),V 4 (pt 4 1),V 5 (pt 5 1),V 15 (pt 0 4)],[W 0 4 [bs a0,iv a1,iv a2,iv a3],(1,.rows 1 (List.map cS a4)),W 2 1 [pt 0 4],W 3 1 [.osl 1 0 (List.length a4) 1],W 4 1 [bs []],W 5 1 [bv false]],6⟩ ?_
 refine Am 1 [(0,some 0)] [(0,some 0),(6,some 1)] (fun r:Unit=>[W 0 4 [bs a0,iv a1,iv a2,iv a3],(1,.rows 1 (List.map cS a4)),W 2 1 [pt 0 4],W 3 1 [.osl 1 0 (List.length a4) 1],W 4 1 [bs []],W 5 1 [bv false],W 6 1 [pt 0 4]]) (fun r:Unit=>.fn 103 [pt 6 1]) 7 (Qs a0 a1 a2 a3) (pc (hC 0) AB) (fun r=>(pc (.inr (hC 0)) (pc (.inl ⟨rfl,rfl⟩) (pc (.inl ⟨rfl,rfl⟩) (pc (.inl ⟨rfl,rfl⟩) (pc (.inl ⟨rfl,rfl⟩) (pc (.inl ⟨rfl,rfl⟩) (pc (.inr (hC 1)) AB)))))))) ?_
 rintro⟨⟩ hm9
 refine jN ?_
 refine Ai ?_
 refine pF [2,3,4,5,16] [0,1,2,3,4,5,6] (st1:=⟨[V 2 (pt 2 1),V 3 (pt 3 1),V 4 (pt 4 1),V 5 (pt 5 1),V 16 (.fn 103 [pt 6 1])],[W 0 4 [bs a0,iv a1,iv a2,iv a3],(1,.rows 1 (List.map cS a4)),W 2 1 [pt 0 4],W 3 1 [.osl 1 0 (List.length a4) 1],W 4 1 [bs []],W 5 1 [bv false],W 6 1 [pt 0 4]],7⟩) (by kernel_rfl) ?_
 refine rV (g:=103) (caps:=[pt 6 1]) (by kernel_rfl) MS (Nat.le_of_ble_eq_true rfl) ?_
 intro F5 hc5
 refine AT ?_
 refine jR ?_
 refine jG 0 1 ⟨[V 0 (.yld 7),V 1 (pt 6 1),V 3 (pt 0 4)],[W 0 4 [bs a0,iv a1,iv a2,iv a3],(1,.rows 1 (List.map cS a4)),W 2 1 [pt 0 4],W 3 1 [.osl 1 0 (List.length a4) 1],W 4 1 [bs []],W 5 1 [bv false],W 6 1 [pt 0 4],(7,AW .ready none)],8⟩ ?_
 refine Bh (i:=1) rfl rfl rfl rfl (vs:=[pt 0 4]) (vs0:=[.fptr [bs a0,iv a1,iv a2,iv a3] 0]) (b:=true) (by kernel_rfl) (by kernel_rfl) (AJ (AE _) Aj) (C0 a0 a1 a2 a3) (fun _=>rfl) (fun _=>rfl) ?_
 intro x13 h13
 refine jG 2 1 ⟨[V 0 (.yld 7),V 1 (pt 6 1),V 5 (bv x13)],[W 0 4 [bs a0,iv a1,iv a2,iv a3],(1,.rows 1 (List.map cS a4)),W 2 1 [pt 0 4],W 3 1 [.osl 1 0 (List.length a4) 1],W 4 1 [bs []],W 5 1 [bv false],W 6 1 [pt 0 4],(7,AW .ready none)],8⟩ ?_
 refine Ak 3 9 (fun y=>match y with | Sum.inl (x17,x18)=>⟨[V 0 (.yld 7),V 1 (pt 6 1),V 14 (bv true)],[W 0 4 [bs a0,iv x17,iv a2,iv a3],(1,.rows 1 (List.map cS a4)),W 2 1 [pt 0 4],W 3 1 [.osl 1 0 (List.length a4) 1],W 4 1 [bs x18],W 5 1 [bv true],W 6 1 [pt 0 4],(7,AW .done (some .ret))],8⟩ | Sum.inr _=>⟨[V 0 (.yld 7),V 1 (pt 6 1),V 14 (bv false)],[W 0 4 [bs a0,iv a1,iv a2,iv a3],(1,.rows 1 (List.map cS a4)),W 2 1 [pt 0 4],W 3 1 [.osl 1 0 (List.length a4) 1],W 4 1 [bs []],W 5 1 [bv false],W 6 1 [pt 0 4],(7,AW .ready none)],8⟩) ?_ ?_
 ·refine jSp 5 ?_ ?_
  ·refine jG 0 6 ⟨[V 0 (.yld 7),V 1 (pt 6 1),(5,.lit true),V 6 (.yld 7),V 11 (iv (w64 (a1 + 1)))],[W 0 4 [bs a0,iv a1,iv a2,iv a3],(1,.rows 1 (List.map cS a4)),W 2 1 [pt 0 4],W 3 1 [.osl 1 0 (List.length a4) 1],W 4 1 [bs []],W 5 1 [bv false],W 6 1 [pt 0 4],(7,AW .ready none)],8⟩ ?_
   refine Xv (i:=6) (l:=7) (Nc:=37) (Kc:=[V 2 (pt 2 1),V 3 (pt 3 1),V 4 (pt 4 1),V 5 (pt 5 1),V 16 (.fn 103 [pt 6 1])]) (ps:=[17]) (vs:=[iv (w64 (a1 + 1))]) (fun y=>match y with | Sum.inl (x20,x21)=>⟨[],[W 0 4 [bs a0,iv x20,iv a2,iv a3],(1,.rows 1 (List.map cS a4)),W 2 1 [pt 0 4],W 3 1 [.osl 1 0 (List.length a4) 1],W 4 1 [bs x21],W 5 1 [bv true],W 6 1 [pt 0 4],(7,AW .busy none)],8⟩ | Sum.inr _=>⟨[],[W 0 4 [bs a0,iv a1,iv a2,iv a3],(1,.rows 1 (List.map cS a4)),W 2 1 [pt 0 4],W 3 1 [.osl 1 0 (List.length a4) 1],W 4 1 [bs []],W 5 1 [bv false],W 6 1 [pt 0 4],(7,AW .busy none)],8⟩) (fun y=>match y with | Sum.inl (x20,x21)=>.ret | Sum.inr _=>.normal) [0,1,5,12] [0,1,2,3,4,5,6,7] (after:=(fun y=>match y with | Sum.inl (x20,x21)=>⟨[V 0 (.yld 7),V 1 (pt 6 1),(5,.lit true),V 12 (bv false)],[W 0 4 [bs a0,iv x20,iv a2,iv a3],(1,.rows 1 (List.map cS a4)),W 2 1 [pt 0 4],W 3 1 [.osl 1 0 (List.length a4) 1],W 4 1 [bs x21],W 5 1 [bv true],W 6 1 [pt 0 4],(7,AW .done (some .ret))],8⟩ | Sum.inr _=>⟨[V 0 (.yld 7),V 1 (pt 6 1),(5,.lit true),V 12 (bv true)],[W 0 4 [bs a0,iv a1,iv a2,iv a3],(1,.rows 1 (List.map cS a4)),W 2 1 [pt 0 4],W 3 1 [.osl 1 0 (List.length a4) 1],W 4 1 [bs []],W 5 1 [bv false],W 6 1 [pt 0 4],(7,AW .ready none)],8⟩)) rfl rfl GT GZ (by kernel_rfl) (by kernel_rfl) (dC hc5 rfl) rfl (by kernel_rfl) rfl ?_ (by rintro (⟨x20,x21⟩ | _) <;> exact⟨none,by kernel_rfl⟩) (by rintro (⟨x20,x21⟩ | _) <;> kernel_rfl) ?_
   ·intro F7 hy7
    refine jT ⟨[V 2 (pt 2 1),V 3 (pt 3 1),V 4 (pt 4 1),V 5 (pt 5 1),V 6 (iv (w64 (a1 + 1)))],[W 0 4 [bs a0,iv a1,iv a2,iv a3],(1,.rows 1 (List.map cS a4)),W 2 1 [pt 0 4],W 3 1 [.osl 1 0 (List.length a4) 1],W 4 1 [bs []],W 5 1 [bv false],W 6 1 [pt 0 4],(7,AW .ready none)],8⟩ ?_
    refine nW hy7 rfl ?_
    refine Ai ?_
    refine jR ?_
    refine jG 0 6 ⟨[V 2 (pt 2 1),V 4 (pt 4 1),V 5 (pt 5 1),V 6 (iv (w64 (a1 + 1))),V 22 (bs a0),V 23 (iv (w64 (a1 + 1))),V 24 (.osl 1 0 (List.length a4) 1)],[W 0 4 [bs a0,iv a1,iv a2,iv a3],(1,.rows 1 (List.map cS a4)),W 2 1 [pt 0 4],W 3 1 [.osl 1 0 (List.length a4) 1],W 4 1 [bs []],W 5 1 [bv false],W 6 1 [pt 0 4],(7,AW .busy none)],8⟩ ?_
    refine Bh (i:=6) rfl rfl rfl rfl (vs:=[bs a0,iv (w64 (a1 + 1)),.osl 1 0 (List.length a4) 1]) (by kernel_rfl) (AL rfl (AL rfl (AL (Dc qY (by kernel_rfl)) (Aw _)))) (AJ (AE _) (AJ (AE _) (AJ (AE _) Aj))) (Nh a0 (w64 (a1 + 1)) a4) (fun _=>rfl) (fun _=>rfl) ?_
    intro x22 h22
    refine jG 7 5 ⟨[V 2 (pt 2 1),V 4 (pt 4 1),V 5 (pt 5 1),V 6 (iv (w64 (a1 + 1))),V 7 (bs x22.1),V 8 (bv x22.2)],[W 0 4 [bs a0,iv a1,iv a2,iv a3],(1,.rows 1 (List.map cS a4)),W 2 1 [pt 0 4],W 3 1 [.osl 1 0 (List.length a4) 1],W 4 1 [bs []],W 5 1 [bv false],W 6 1 [pt 0 4],(7,AW .busy none)],8⟩ ?_
    refine jN ?_
    refine jS ⟨[V 2 (pt 2 1),V 4 (pt 4 1),V 5 (pt 5 1),V 6 (iv (w64 (a1 + 1))),V 7 (bs x22.1),V 28 (bv x22.2)],[W 0 4 [bs a0,iv a1,iv a2,iv a3],(1,.rows 1 (List.map cS a4)),W 2 1 [pt 0 4],W 3 1 [.osl 1 0 (List.length a4) 1],W 4 1 [bs []],W 5 1 [bv false],W 6 1 [pt 0 4],(7,AW .busy none)],8⟩ ?_
    refine jIf ?_ ?_
    ·refine jS ⟨[V 4 (pt 4 1),V 5 (pt 5 1),V 7 (bs x22.1)],[W 0 4 [bs a0,iv (w64 ((w64 (a1 + 1)) + (List.length x22.1:Int))),iv a2,iv a3],(1,.rows 1 (List.map cS a4)),W 2 1 [pt 0 4],W 3 1 [.osl 1 0 (List.length a4) 1],W 4 1 [bs []],W 5 1 [bv false],W 6 1 [pt 0 4],(7,AW .busy none)],8⟩ ?_
     refine jS ⟨[],[W 0 4 [bs a0,iv (w64 ((w64 (a1 + 1)) + (List.length x22.1:Int))),iv a2,iv a3],(1,.rows 1 (List.map cS a4)),W 2 1 [pt 0 4],W 3 1 [.osl 1 0 (List.length a4) 1],W 4 1 [bs x22.1],W 5 1 [bv true],W 6 1 [pt 0 4],(7,AW .busy none)],8⟩ ?_
     refine AO ?_
     refine Aq ?_
     exact AK rfl (wkR [(0,some 0),(1,some 1),(2,some 2),(3,some 3),(4,some 4),(5,some 5),(6,some 6),(7,some 7)] (AY hy7.2 (k:=8) rfl) (pc (hC 0) (pc (hL 1 (AM BS _)) (pc (hC 2) (pc (hC 3) (pc (hC 4) (pc (hC 5) (pc (hC 6) (pc (.inr (.inr (.inl ⟨7,_,_,rfl,rfl,rfl,by kernel_rfl⟩))) AB)))))))))
    refine AS ?_
    refine A8 ?_
    exact AK rfl (wkR [(0,some 0),(1,some 1),(2,some 2),(3,some 3),(4,some 4),(5,some 5),(6,some 6),(7,some 7)] (AY hy7.2 (k:=8) rfl) (pc (hC 0) (pc (hL 1 (AM BS _)) (pc (hC 2) (pc (hC 3) (pc (hC 4) (pc (hC 5) (pc (hC 6) (pc (.inr (.inr (.inl ⟨7,_,_,rfl,rfl,rfl,by kernel_rfl⟩))) AB)))))))))
   rintro (⟨x20,x21⟩ | _)
   ·refine jG 7 2 ⟨[V 0 (.yld 7),V 1 (pt 6 1),V 14 (bv true)],[W 0 4 [bs a0,iv x20,iv a2,iv a3],(1,.rows 1 (List.map cS a4)),W 2 1 [pt 0 4],W 3 1 [.osl 1 0 (List.length a4) 1],W 4 1 [bs x21],W 5 1 [bv true],W 6 1 [pt 0 4],(7,AW .done (some .ret))],8⟩ ?_
    refine AQ rfl ?_
    exact AK rfl (wkR [(0,some 0),(1,some 1),(2,some 2),(3,some 3),(4,some 4),(5,some 5),(6,some 6),(7,some 7)] (AY hc5.2.2 (k:=8) rfl) (pc (hC 0) (pc (hL 1 (AM BS _)) (pc (hC 2) (pc (hC 3) (pc (hC 4) (pc (hC 5) (pc (hC 6) (pc (.inr (.inr (.inl ⟨7,_,_,rfl,rfl,rfl,by kernel_rfl⟩))) AB)))))))))
   refine jG 7 2 ⟨[V 0 (.yld 7),V 1 (pt 6 1),V 14 (bv false)],[W 0 4 [bs a0,iv a1,iv a2,iv a3],(1,.rows 1 (List.map cS a4)),W 2 1 [pt 0 4],W 3 1 [.osl 1 0 (List.length a4) 1],W 4 1 [bs []],W 5 1 [bv false],W 6 1 [pt 0 4],(7,AW .ready none)],8⟩ ?_
   refine AQ rfl ?_
   exact AK rfl (wkR [(0,some 0),(1,some 1),(2,some 2),(3,some 3),(4,some 4),(5,some 5),(6,some 6),(7,some 7)] (AY hc5.2.2 (k:=8) rfl) (pc (hC 0) (pc (hL 1 (AM BS _)) (pc (hC 2) (pc (hC 3) (pc (hC 4) (pc (hC 5) (pc (hC 6) (pc (.inr (.inr (.inl ⟨7,_,_,rfl,rfl,rfl,by kernel_rfl⟩))) AB)))))))))
  refine jG 0 9 ⟨[V 0 (.yld 7),V 1 (pt 6 1),V 14 (bv false)],[W 0 4 [bs a0,iv a1,iv a2,iv a3],(1,.rows 1 (List.map cS a4)),W 2 1 [pt 0 4],W 3 1 [.osl 1 0 (List.length a4) 1],W 4 1 [bs []],W 5 1 [bv false],W 6 1 [pt 0 4],(7,AW .ready none)],8⟩ ?_
  refine AQ rfl ?_
  exact AK rfl (wkR [(0,some 0),(1,some 1),(2,some 2),(3,some 3),(4,some 4),(5,some 5),(6,some 6),(7,some 7)] (AY hc5.2.2 (k:=8) rfl) (pc (hC 0) (pc (hL 1 (AM BS _)) (pc (hC 2) (pc (hC 3) (pc (hC 4) (pc (hC 5) (pc (hC 6) (pc (.inr (.inr (.inl ⟨7,_,_,rfl,rfl,rfl,by kernel_rfl⟩))) AB)))))))))
 rintro (⟨x17,x18⟩ | _)
 ·refine jN ?_
  refine Ow (c:=true) (by kernel_rfl) ?_
  refine AO ?_
  refine AZ ?_
  refine VP hc5 (.inr rfl) rfl nofun rfl ?_
  refine Aq ?_
  refine AZ ?_
  exact A7 (Ec a0 a1 a2 a3 a4 (x18,true,x17)) (.inr rfl) (wkR [(0,some 0),(1,some 1),(2,some 4),(3,some 5)] (AY hF (k:=2) rfl) (pc (hC 0) (pc (hL 1 (AM BS _)) (pc (hC 4) (pc (hC 5) AB)))))
 refine jN ?_
 refine Ow (c:=false) (by kernel_rfl) ?_
 refine AS ?_
 refine AN ?_
 refine CA ?_
 refine jG 0 5 ⟨[V 15 (.yld 7),V 19 (iv a1)],[W 0 4 [bs a0,iv a1,iv a2,iv a3],(1,.rows 1 (List.map cS a4)),W 2 1 [pt 0 4],W 3 1 [.osl 1 0 (List.length a4) 1],W 4 1 [bs []],W 5 1 [bv false],W 6 1 [pt 0 4],(7,AW .ready none)],8⟩ ?_
 refine Xv (i:=5) (l:=7) (Nc:=37) (Kc:=[V 2 (pt 2 1),V 3 (pt 3 1),V 4 (pt 4 1),V 5 (pt 5 1),V 16 (.fn 103 [pt 6 1])]) (ps:=[17]) (vs:=[iv a1]) (fun y=>match y with | Sum.inl (x24,x25)=>⟨[],[W 0 4 [bs a0,iv x24,iv a2,iv a3],(1,.rows 1 (List.map cS a4)),W 2 1 [pt 0 4],W 3 1 [.osl 1 0 (List.length a4) 1],W 4 1 [bs x25],W 5 1 [bv true],W 6 1 [pt 0 4],(7,AW .busy none)],8⟩ | Sum.inr _=>⟨[],[W 0 4 [bs a0,iv a1,iv a2,iv a3],(1,.rows 1 (List.map cS a4)),W 2 1 [pt 0 4],W 3 1 [.osl 1 0 (List.length a4) 1],W 4 1 [bs []],W 5 1 [bv false],W 6 1 [pt 0 4],(7,AW .busy none)],8⟩) (fun y=>match y with | Sum.inl (x24,x25)=>.ret | Sum.inr _=>.normal) [20] [0,1,2,3,4,5,6,7] (after:=(fun y=>match y with | Sum.inl (x24,x25)=>⟨[V 20 (bv false)],[W 0 4 [bs a0,iv x24,iv a2,iv a3],(1,.rows 1 (List.map cS a4)),W 2 1 [pt 0 4],W 3 1 [.osl 1 0 (List.length a4) 1],W 4 1 [bs x25],W 5 1 [bv true],W 6 1 [pt 0 4],(7,AW .done (some .ret))],8⟩ | Sum.inr _=>⟨[V 20 (bv true)],[W 0 4 [bs a0,iv a1,iv a2,iv a3],(1,.rows 1 (List.map cS a4)),W 2 1 [pt 0 4],W 3 1 [.osl 1 0 (List.length a4) 1],W 4 1 [bs []],W 5 1 [bv false],W 6 1 [pt 0 4],(7,AW .ready none)],8⟩)) rfl rfl GT GZ (by kernel_rfl) (by kernel_rfl) (dC hc5 rfl) rfl (by kernel_rfl) rfl ?_ (by rintro (⟨x24,x25⟩ | _) <;> exact⟨none,by kernel_rfl⟩) (by rintro (⟨x24,x25⟩ | _) <;> kernel_rfl) ?_
 ·intro F8 hy8
  refine jT ⟨[V 2 (pt 2 1),V 3 (pt 3 1),V 4 (pt 4 1),V 5 (pt 5 1),V 6 (iv a1)],[W 0 4 [bs a0,iv a1,iv a2,iv a3],(1,.rows 1 (List.map cS a4)),W 2 1 [pt 0 4],W 3 1 [.osl 1 0 (List.length a4) 1],W 4 1 [bs []],W 5 1 [bv false],W 6 1 [pt 0 4],(7,AW .ready none)],8⟩ ?_
  refine nW hy8 rfl ?_
  refine Ai ?_
  refine jR ?_
  refine jG 0 6 ⟨[V 2 (pt 2 1),V 4 (pt 4 1),V 5 (pt 5 1),V 6 (iv a1),V 22 (bs a0),V 23 (iv a1),V 24 (.osl 1 0 (List.length a4) 1)],[W 0 4 [bs a0,iv a1,iv a2,iv a3],(1,.rows 1 (List.map cS a4)),W 2 1 [pt 0 4],W 3 1 [.osl 1 0 (List.length a4) 1],W 4 1 [bs []],W 5 1 [bv false],W 6 1 [pt 0 4],(7,AW .busy none)],8⟩ ?_
  refine Bh (i:=6) rfl rfl rfl rfl (vs:=[bs a0,iv a1,.osl 1 0 (List.length a4) 1]) (by kernel_rfl) (AL rfl (AL rfl (AL (Dc qY (by kernel_rfl)) (Aw _)))) (AJ (AE _) (AJ (AE _) (AJ (AE _) Aj))) (Nh a0 a1 a4) (fun _=>rfl) (fun _=>rfl) ?_
  intro x26 h26
  refine jG 7 5 ⟨[V 2 (pt 2 1),V 4 (pt 4 1),V 5 (pt 5 1),V 6 (iv a1),V 7 (bs x26.1),V 8 (bv x26.2)],[W 0 4 [bs a0,iv a1,iv a2,iv a3],(1,.rows 1 (List.map cS a4)),W 2 1 [pt 0 4],W 3 1 [.osl 1 0 (List.length a4) 1],W 4 1 [bs []],W 5 1 [bv false],W 6 1 [pt 0 4],(7,AW .busy none)],8⟩ ?_
  refine jN ?_
  refine jS ⟨[V 2 (pt 2 1),V 4 (pt 4 1),V 5 (pt 5 1),V 6 (iv a1),V 7 (bs x26.1),V 28 (bv x26.2)],[W 0 4 [bs a0,iv a1,iv a2,iv a3],(1,.rows 1 (List.map cS a4)),W 2 1 [pt 0 4],W 3 1 [.osl 1 0 (List.length a4) 1],W 4 1 [bs []],W 5 1 [bv false],W 6 1 [pt 0 4],(7,AW .busy none)],8⟩ ?_
  refine jIf ?_ ?_
  ·refine jS ⟨[V 4 (pt 4 1),V 5 (pt 5 1),V 7 (bs x26.1)],[W 0 4 [bs a0,iv (w64 (a1 + (List.length x26.1:Int))),iv a2,iv a3],(1,.rows 1 (List.map cS a4)),W 2 1 [pt 0 4],W 3 1 [.osl 1 0 (List.length a4) 1],W 4 1 [bs []],W 5 1 [bv false],W 6 1 [pt 0 4],(7,AW .busy none)],8⟩ ?_
   refine jS ⟨[],[W 0 4 [bs a0,iv (w64 (a1 + (List.length x26.1:Int))),iv a2,iv a3],(1,.rows 1 (List.map cS a4)),W 2 1 [pt 0 4],W 3 1 [.osl 1 0 (List.length a4) 1],W 4 1 [bs x26.1],W 5 1 [bv true],W 6 1 [pt 0 4],(7,AW .busy none)],8⟩ ?_
   refine AO ?_
   refine Aq ?_
   exact AK rfl (wkR [(0,some 0),(1,some 1),(2,some 2),(3,some 3),(4,some 4),(5,some 5),(6,some 6),(7,some 7)] (AY hy8.2 (k:=8) rfl) (pc (hC 0) (pc (hL 1 (AM BS _)) (pc (hC 2) (pc (hC 3) (pc (hC 4) (pc (hC 5) (pc (hC 6) (pc (.inr (.inr (.inl ⟨7,_,_,rfl,rfl,rfl,by kernel_rfl⟩))) AB)))))))))
  refine AS ?_
  refine A8 ?_
  exact AK rfl (wkR [(0,some 0),(1,some 1),(2,some 2),(3,some 3),(4,some 4),(5,some 5),(6,some 6),(7,some 7)] (AY hy8.2 (k:=8) rfl) (pc (hC 0) (pc (hL 1 (AM BS _)) (pc (hC 2) (pc (hC 3) (pc (hC 4) (pc (hC 5) (pc (hC 6) (pc (.inr (.inr (.inl ⟨7,_,_,rfl,rfl,rfl,by kernel_rfl⟩))) AB)))))))))
 rintro (⟨x24,x25⟩ | _)
 ·refine AQ rfl ?_
  refine VP hc5 (.inl rfl) rfl nofun rfl ?_
  refine Aq ?_
  refine AZ ?_
  exact A7 (Ec a0 a1 a2 a3 a4 (x25,true,x24)) (.inr rfl) (wkR [(0,some 0),(1,some 1),(2,some 4),(3,some 5)] (AY hF (k:=2) rfl) (pc (hC 0) (pc (hL 1 (AM BS _)) (pc (hC 4) (pc (hC 5) AB)))))
 refine AQ rfl ?_
 refine VP hc5 (.inl rfl) rfl nofun rfl ?_
 refine A8 ?_
 refine AN ?_
 refine jS ⟨[V 4 (pt 4 1),V 5 (pt 5 1)],[W 0 4 [bs a0,iv a1,iv a2,iv a3],(1,.rows 1 (List.map cS a4)),W 4 1 [bs []],W 5 1 [bv false]],8⟩ ?_
 refine AO ?_
 exact A7 (Ec a0 a1 a2 a3 a4 ([],false,a1)) (.inr rfl) (wkR [(0,some 0),(1,some 1),(2,some 4),(3,some 5)] (AY hF (k:=2) rfl) (pc (hC 0) (pc (hL 1 (AM BS _)) (pc (hC 4) (pc (hC 5) AB))))))
abbrev QS:List LO:=[lo 2 (.assign (.const (.slice none 0 0))) 32]
abbrev Qa:List LO:=[lo 3 (.assign (.const (.slice none 0 0))) 32]
abbrev Qh:List LO:=[lm 5 0 78,lo 6 (.nilCheck (.tmp 5)) 0,lo 7 (.fieldAddr 80 (.tmp 6) 1) 0,lo 8 (.load 3 (.tmp 7)) 3,lm 9 0 78,lo 10 (.nilCheck (.tmp 9)) 0,lo 11 (.fieldAddr 80 (.tmp 10) 0) 0,lo 12 (.load 9 (.tmp 11)) 9,lo 13 (.call ⟨.builtin .len,#[.tmp 12],#[9]⟩) 3,lo 14 (.binOp .geq 3 (.tmp 8) (.tmp 13) 3) 4,lm 15 14 4,lmg 16 0 78 15 false,lg 17 (.nilCheck (.tmp 16)) 0 15 false,lg 18 (.fieldAddr 80 (.tmp 17) 0) 0 15 false,lg 19 (.load 9 (.tmp 18)) 9 15 false,lmg 20 0 78 15 false,lg 21 (.nilCheck (.tmp 20)) 0 15 false,lg 22 (.fieldAddr 80 (.tmp 21) 1) 0 15 false,lg 23 (.load 3 (.tmp 22)) 3 15 false,lg 24 (.index 9 (.tmp 19) (.tmp 23)) 5 15 false,lg 25 (.binOp .neq 5 (.tmp 24) (.const (.int .u8 43)) 5) 4 15 false,lo 26 (.pick (.tmp 15) (.const (.bool true)) (.tmp 25)) 4]
abbrev Qf:List LO:=[lo 2 (.assign (.const (.slice none 0 0))) 32]
abbrev Qd:List LO:=[lm 27 0 78,lo 28 (.nilCheck (.tmp 27)) 0,lo 29 (.fieldAddr 80 (.tmp 28) 1) 0,lo 30 (.load 3 (.tmp 29)) 3,lo 31 (.binOp .add 3 (.tmp 30) (.const (.int .i64 1)) 3) 3,lo 32 (.nilCheck (.tmp 27)) 0,lo 33 (.fieldAddr 80 (.tmp 32) 1) 0,ln (.store 3 (.tmp 33) (.tmp 31)) 0]
abbrev Qg:List LO:=[lm 34 0 78,lo 35 (.call ⟨.value (.func 80),#[.tmp 34,.const (.int .i64 5)],#[78,3]⟩) 4]
abbrev QM:List LO:=[lm 36 0 78,lo 37 (.call ⟨.value (.func 85),#[.tmp 36,.const (.int .i64 5)],#[78,3]⟩) 9,lo 4 (.assign (.tmp 37)) 9]
abbrev Qu:List LO:=[lm 38 4 9,lo 39 (.call ⟨.value (.func 69),#[.tmp 38,.const (.int .i64 0),.const (.int .i64 1)],#[9,3,3]⟩) 3,lm 40 4 9,lo 41 (.call ⟨.builtin .len,#[.tmp 40],#[9]⟩) 3,lo 42 (.binOp .eql 3 (.tmp 39) (.tmp 41) 3) 4]
abbrev Qq:List LO:=[lm 43 4 9,lo 44 (.call ⟨.value (.func 86),#[.tmp 43],#[9]⟩) 9,lo 4 (.assign (.tmp 44)) 9]
abbrev PF:List LO:=[lm 45 3 32,lm 46 4 9,lo 47 (.buildSlice 32 1 #[(0,.tmp 46)]) 32,lo 48 (.call ⟨.builtin .append,#[.tmp 45,.tmp 47],#[32,32]⟩) 32,lo 3 (.assign (.tmp 48)) 32]
abbrev Ph:List LO:=[lm 49 0 78,lo 50 (.call ⟨.value (.func 83),#[.tmp 49],#[78]⟩) 4,lo 51 (.unOp .not 4 (.tmp 50)) 4,lm 52 51 4,lmg 53 0 78 52 false,lg 54 (.nilCheck (.tmp 53)) 0 52 false,lg 55 (.fieldAddr 80 (.tmp 54) 1) 0 52 false,lg 56 (.load 3 (.tmp 55)) 3 52 false,lg 57 (.binOp .add 3 (.tmp 56) (.const (.int .i64 1)) 3) 3 52 false,lmg 58 0 78 52 false,lg 59 (.nilCheck (.tmp 58)) 0 52 false,lg 60 (.fieldAddr 80 (.tmp 59) 0) 0 52 false,lg 61 (.load 9 (.tmp 60)) 9 52 false,lg 62 (.call ⟨.builtin .len,#[.tmp 61],#[9]⟩) 3 52 false,lg 63 (.binOp .geq 3 (.tmp 57) (.tmp 62) 3) 4 52 false,lo 64 (.pick (.tmp 52) (.const (.bool true)) (.tmp 63)) 4,lm 65 64 4,lmg 66 0 78 65 false,lg 67 (.nilCheck (.tmp 66)) 0 65 false,lg 68 (.fieldAddr 80 (.tmp 67) 0) 0 65 false,lg 69 (.load 9 (.tmp 68)) 9 65 false,lmg 70 0 78 65 false,lg 71 (.nilCheck (.tmp 70)) 0 65 false,lg 72 (.fieldAddr 80 (.tmp 71) 1) 0 65 false,lg 73 (.load 3 (.tmp 72)) 3 65 false,lg 74 (.binOp .add 3 (.tmp 73) (.const (.int .i64 1)) 3) 3 65 false,lg 75 (.index 9 (.tmp 69) (.tmp 74)) 5 65 false,lg 76 (.call ⟨.value (.func 71),#[.tmp 75,.const (.int .i64 5)],#[5,3]⟩) 4 65 false,lg 77 (.unOp .not 4 (.tmp 76)) 4 65 false,lo 78 (.pick (.tmp 65) (.const (.bool true)) (.tmp 77)) 4]
abbrev PK:List LO:=[lm 79 3 32,lo 2 (.assign (.tmp 79)) 32]
abbrev Ok:List LO:=[lm 80 0 78,lo 81 (.nilCheck (.tmp 80)) 0,lo 82 (.fieldAddr 80 (.tmp 81) 1) 0,lo 83 (.load 3 (.tmp 82)) 3,lo 84 (.binOp .add 3 (.tmp 83) (.const (.int .i64 1)) 3) 3,lo 85 (.nilCheck (.tmp 80)) 0,lo 86 (.fieldAddr 80 (.tmp 85) 1) 0,ln (.store 3 (.tmp 86) (.tmp 84)) 0]
abbrev PB:List LO:=[lm 87 3 32,lo 2 (.assign (.tmp 87)) 32]
abbrev KG:LC:=.seq (.reg false QS) (.seq (.reg false Qa) (.seq (.seq (.reg true Qh) (.cond (.tmp 26) (.seq (.reg false Qf) .ret) .skip)) (.seq (.reg false Qd) (.seq (.block 0 (.loop (.seq (.seq (.reg false Qg) (.cond (.tmp 35) .skip (.exit 0))) (.block 1 (.seq (.reg false QM) (.seq (.seq (.reg false Qu) (.cond (.tmp 42) (.reg false Qq) .skip)) (.seq (.reg false PF) (.seq (.seq (.reg true Ph) (.cond (.tmp 78) (.seq (.reg false PK) .ret) .skip)) (.reg false Ok))))))))) (.seq (.reg false PB) .ret)))))
theorem R3:BE E 56 88 [.tmp 2] KG:=⟨⟨Go.Proofs.Tryz.f56,by kernel_rfl,by kernel_rfl,by kernel_rfl,by kernel_rfl,by kernel_rfl⟩,rfl,rfl⟩
noncomputable def Bp (a0:Str):(Int × Int × Int × List Str)→Option (Step (Int × Int × Int × List Str) ((List Str × Int × Int × Int) ⊕ (List Str × Int × Int × Int))):=fun (x65,x66,x67,x68)=>Option.bind (DG a0 x65 x66 x67 5) (fun (x94,x95,x96)=>(if x94=true then Option.bind (Dj a0 x65 x95 x96 5) (fun (x97,x98)=>Option.bind (Option.bind (Cq x97 0 1) (fun x102=>(if (x102 == (List.length x97:Int))=true then Option.bind (DF x97) (fun x103=>some x103) else some x97)):Option (Str)) (fun x101=>Option.bind (app 16 x68 [x101]) (fun x104=>Option.bind (BQ a0 x98 x95 x96) (fun x105=>Option.bind (if ((!x105) || (decide ((w64 (x98 + 1))≥(List.length a0:Int))))=true then some true else Option.bind (idx a0 (w64 (x98 + 1))) (fun x109=>Option.bind (DZ x109 5) (fun x110=>some (!x110))):Option (Bool)) (fun x108=>(if x108=true then some (Step.done (Sum.inl (x104,x98,x95,x96))) else some (Step.next ((w64 (x98 + 1)),x95,x96,x104)))))))) else some (Step.done (Sum.inr (x68,x65,x95,x96)))))
abbrev Ft (a0:Str) (a1:Int) (a2:Int) (a3:Int) (r:List Str × Int × Int × Int):CS:=⟨[V 2 (.osl 1 0 (List.length r.1) 1)],[W 0 4 [bs a0,iv r.2.1,iv r.2.2.1,iv r.2.2.2],(1,.rows 1 (List.map cS r.1))],2⟩
noncomputable def Dk (a0:Str) (a1:Int) (a2:Int) (a3:Int):Option (List Str × Int × Int × Int):=Option.bind (if (decide (a1≥(List.length a0:Int)))=true then some true else Option.bind (idx a0 a1) (fun x51=>some (x51 != 43)):Option (Bool)) (fun x50=>(if x50=true then some ([],a1,a2,a3) else Option.bind (Bi (Bp a0) ((w64 (a1 + 1)),a2,a3,[])) (fun y=>match y with | Sum.inl (x86,x87,x88,x89)=>some (x86,x87,x88,x89) | Sum.inr (x90,x91,x92,x93)=>some (x90,x91,x92,x93))))
theorem Qo (a0:Str) (a1:Int) (a2:Int) (a3:Int):CtM E 56 [pt 0 4] [W 0 4 [bs a0,iv a1,iv a2,iv a3]] 1 (Dk a0 a1 a2 a3) (fun r:List Str × Int × Int × Int=>.osl 1 0 (List.length r.1) 1) (fun r:List Str × Int × Int × Int=>[W 0 4 [bs a0,iv r.2.1,iv r.2.2.1,iv r.2.2.2],(1,.rows 1 (List.map cS r.1))]) 2:=Bf (N:=88) (L:=KG) R3 rfl (Nat.le_of_ble_eq_true rfl) (fun F hF=>by
 unfold Dk
 refine jS ⟨[V 0 (pt 0 4)],[W 0 4 [bs a0,iv a1,iv a2,iv a3]],1⟩ ?_
 refine jS ⟨[V 0 (pt 0 4),V 3 (Af)],[W 0 4 [bs a0,iv a1,iv a2,iv a3]],1⟩ ?_
 refine AT ?_
 refine jR ?_
 refine jG 0 11 ⟨[V 0 (pt 0 4),V 3 (Af),V 15 (bv (decide (a1≥(List.length a0:Int))))],[W 0 4 [bs a0,iv a1,iv a2,iv a3]],1⟩ ?_
 refine Ak 11 11 (fun x50=>⟨[V 0 (pt 0 4),V 3 (Af),V 26 (bv x50)],[W 0 4 [bs a0,iv a1,iv a2,iv a3]],1⟩) ?_ ?_
 ·refine jSp 15 ?_ ?_
  ·refine jG 0 11 ⟨[V 0 (pt 0 4),V 3 (Af),V 26 (bv true)],[W 0 4 [bs a0,iv a1,iv a2,iv a3]],1⟩ ?_
   refine AQ rfl ?_
   exact AK rfl (wkR [(0,some 0)] (AY hF (k:=1) rfl) (pc (hC 0) AB))
  refine jG 0 8 ⟨[V 0 (pt 0 4),V 3 (Af),(15,.lit false),V 19 (bs a0),V 23 (iv a1)],[W 0 4 [bs a0,iv a1,iv a2,iv a3]],1⟩ ?_
  refine An (i:=8) (mo:=idx a0 a1) rfl rfl rfl rfl (fun _ hc=>Bd (kk:=.i64) (by kernel_rfl) (by kernel_rfl) (by kernel_rfl) hc) (fun _=>rfl) ?_
  intro x51 h51
  refine jG 9 2 ⟨[V 0 (pt 0 4),V 3 (Af),V 26 (bv (x51 != 43))],[W 0 4 [bs a0,iv a1,iv a2,iv a3]],1⟩ ?_
  refine AQ rfl ?_
  exact AK rfl (wkR [(0,some 0)] (AY hF (k:=1) rfl) (pc (hC 0) AB))
 intro x50
 refine jN ?_
 refine jIf ?_ ?_
 ·refine jS ⟨[V 2 (Af)],[W 0 4 [bs a0,iv a1,iv a2,iv a3]],1⟩ ?_
  refine AO ?_
  refine AZ ?_
  exact A7 (Ft a0 a1 a2 a3 ([],a1,a2,a3)) (.inr rfl) (wkR [(0,some 0),(1,none)] (AY hF (k:=1) rfl) (pc (hC 0) (pc hZ AB)))
 refine AS ?_
 refine AN ?_
 refine jS ⟨[V 0 (pt 0 4),V 3 (Af)],[W 0 4 [bs a0,iv (w64 (a1 + 1)),iv a2,iv a3]],1⟩ ?_
 refine AT ?_
 refine Ai ?_
 refine As (fun y=>match y with | Sum.inl (x86,x87,x88,x89)=>⟨[V 2 (.osl 1 0 (List.length x86) 1)],[W 0 4 [bs a0,iv x87,iv x88,iv x89],(1,.rows 1 (List.map cS x86))],2⟩ | Sum.inr (x90,x91,x92,x93)=>⟨[V 3 (.osl 1 0 (List.length x90) 1)],[W 0 4 [bs a0,iv x91,iv x92,iv x93],(1,.rows 1 (List.map cS x90))],2⟩) (fun y=>match y with | Sum.inl (x86,x87,x88,x89)=>.ret | Sum.inr (x90,x91,x92,x93)=>(.exit 0)) (Cj (fun (x65,x66,x67,x68)=>⟨[V 0 (pt 0 4),V 3 (.osl 1 0 (List.length x68) 1)],[W 0 4 [bs a0,iv x65,iv x66,iv x67],(1,.rows 1 (List.map cS x68))],2⟩) (wkR [(0,some 0),(1,none)] (AY hF (k:=1) rfl) (pc (hC 0) (pc hZ AB))) ?_) ?_
 ·rintro⟨x65,x66,x67,x68⟩
  unfold Bp
  refine AT ?_
  refine jR ?_
  refine jG 0 1 ⟨[V 0 (pt 0 4),V 3 (.osl 1 0 (List.length x68) 1),V 34 (pt 0 4)],[W 0 4 [bs a0,iv x65,iv x66,iv x67],(1,.rows 1 (List.map cS x68))],2⟩ ?_
  refine Am 1 [(0,some 0)] [(0,some 0)] (fun r:Bool × Int × Int=>[W 0 4 [bs a0,iv x65,iv r.2.1,iv r.2.2],(1,.rows 1 (List.map cS x68))]) (fun r:Bool × Int × Int=>bv r.1) 2 (Jv a0 x65 x66 x67 5) (pc (hC 0) AB) (fun r=>(pc (.inr (hC 0)) (pc (.inl ⟨rfl,rfl⟩) AB))) ?_
  rintro⟨x94,x95,x96⟩ hm10
  refine jN ?_
  refine jIf ?_ ?_
  ·refine AS ?_
   refine AN ?_
   refine Ai ?_
   refine jR ?_
   refine jG 0 1 ⟨[V 0 (pt 0 4),V 3 (.osl 1 0 (List.length x68) 1),V 36 (pt 0 4)],[W 0 4 [bs a0,iv x65,iv x95,iv x96],(1,.rows 1 (List.map cS x68))],2⟩ ?_
   refine Am 1 [(0,some 0)] [(0,some 0)] (fun r:Str × Int=>[W 0 4 [bs a0,iv r.2,iv x95,iv x96],(1,.rows 1 (List.map cS x68))]) (fun r:Str × Int=>bs r.1) 2 (Kt a0 x65 x95 x96 5) (pc (hC 0) AB) (fun r=>(pc (.inr (hC 0)) (pc (.inl ⟨rfl,rfl⟩) AB))) ?_
   rintro⟨x97,x98⟩ hm9
   refine jG 2 1 ⟨[V 0 (pt 0 4),V 3 (.osl 1 0 (List.length x68) 1),V 4 (bs x97)],[W 0 4 [bs a0,iv x98,iv x95,iv x96],(1,.rows 1 (List.map cS x68))],2⟩ ?_
   refine jN ?_
   refine AT ?_
   refine As (fun x101=>⟨[V 0 (pt 0 4),V 3 (.osl 1 0 (List.length x68) 1),V 4 (bs x101)],[W 0 4 [bs a0,iv x98,iv x95,iv x96],(1,.rows 1 (List.map cS x68))],2⟩) (fun x101=>.normal) ?_ ?_
   ·refine jR ?_
    refine jG 0 1 ⟨[V 0 (pt 0 4),V 3 (.osl 1 0 (List.length x68) 1),V 4 (bs x97),V 38 (bs x97)],[W 0 4 [bs a0,iv x98,iv x95,iv x96],(1,.rows 1 (List.map cS x68))],2⟩ ?_
    refine jK 1 (Dm x97 0 1) ?_
    intro x102 h102
    refine jG 2 3 ⟨[V 0 (pt 0 4),V 3 (.osl 1 0 (List.length x68) 1),V 4 (bs x97),V 42 (bv (x102 == (List.length x97:Int)))],[W 0 4 [bs a0,iv x98,iv x95,iv x96],(1,.rows 1 (List.map cS x68))],2⟩ ?_
    refine jN ?_
    refine jIf ?_ ?_
    ·refine CA ?_
     refine jG 0 1 ⟨[V 0 (pt 0 4),V 3 (.osl 1 0 (List.length x68) 1),V 43 (bs x97)],[W 0 4 [bs a0,iv x98,iv x95,iv x96],(1,.rows 1 (List.map cS x68))],2⟩ ?_
     refine jK 1 (FK x97) ?_
     intro x103 h103
     refine jG 2 1 ⟨[V 0 (pt 0 4),V 3 (.osl 1 0 (List.length x68) 1),V 4 (bs x103)],[W 0 4 [bs a0,iv x98,iv x95,iv x96],(1,.rows 1 (List.map cS x68))],2⟩ ?_
     refine AQ rfl ?_
     exact AK rfl (wkR [(0,some 0),(1,some 1)] (AY hF (k:=1) rfl) (pc (hC 0) (pc (hL 1 (AM BS _)) AB)))
    refine AS ?_
    exact AK rfl (wkR [(0,some 0),(1,some 1)] (AY hF (k:=1) rfl) (pc (hC 0) (pc (hL 1 (AM BS _)) AB)))
   intro x101
   refine AN ?_
   refine jR ?_
   refine jG 0 3 ⟨[V 0 (pt 0 4),V 45 (.osl 1 0 (List.length x68) 1),V 47 (.osl 2 0 (List.length [x101]) 1)],[W 0 4 [bs a0,iv x98,iv x95,iv x96],(1,.rows 1 (List.map cS x68)),(2,.rows 1 (List.map cS [x101]))],3⟩ ?_
   refine An (i:=3) (mo:=app 16 x68 [x101]) rfl rfl rfl rfl (fun _ hc=>QD (u:=.osl 1 0 (List.length x68) 1) (w:=.osl 2 0 (List.length [x101]) 1) (e:=9) (td:=.slice 9) (by kernel_rfl) (by kernel_rfl) (by kernel_rfl) (by kernel_rfl) (.inl ⟨_,rfl⟩) (GY (c:=cS) (sz:=1) (b:=16) (id:=1) (by kernel_rfl) (by kernel_rfl) (PV (by kernel_rfl)) (List.cons_ne_nil _ _) hc)) (fun _=>rfl) ?_
   intro x104 h104
   refine jG 4 1 ⟨[V 0 (pt 0 4),V 3 (.osl 3 0 (List.length x104) 1)],[W 0 4 [bs a0,iv x98,iv x95,iv x96],(3,.rows 1 (List.map cS x104))],4⟩ ?_
   refine jN ?_
   refine AT ?_
   refine jR ?_
   refine jG 0 1 ⟨[V 0 (pt 0 4),V 3 (.osl 3 0 (List.length x104) 1),V 49 (pt 0 4)],[W 0 4 [bs a0,iv x98,iv x95,iv x96],(3,.rows 1 (List.map cS x104))],4⟩ ?_
   refine Bh (i:=1) rfl rfl rfl rfl (vs:=[pt 0 4]) (vs0:=[.fptr [bs a0,iv x98,iv x95,iv x96] 0]) (b:=true) (by kernel_rfl) (by kernel_rfl) (AJ (AE _) Aj) (C0 a0 x98 x95 x96) (fun _=>rfl) (fun _=>rfl) ?_
   intro x105 h105
   refine jG 2 15 ⟨[V 0 (pt 0 4),V 3 (.osl 3 0 (List.length x104) 1),V 65 (bv ((!x105) || (decide ((w64 (x98 + 1))≥(List.length a0:Int)))))],[W 0 4 [bs a0,iv x98,iv x95,iv x96],(3,.rows 1 (List.map cS x104))],4⟩ ?_
   refine Ak 17 13 (fun x108=>⟨[V 0 (pt 0 4),V 3 (.osl 1 0 (List.length x104) 1),V 78 (bv x108)],[W 0 4 [bs a0,iv x98,iv x95,iv x96],(1,.rows 1 (List.map cS x104))],2⟩) ?_ ?_
   ·refine jSp 65 ?_ ?_
    ·refine jG 0 13 ⟨[V 0 (pt 0 4),V 3 (.osl 3 0 (List.length x104) 1),V 78 (bv true)],[W 0 4 [bs a0,iv x98,iv x95,iv x96],(3,.rows 1 (List.map cS x104))],4⟩ ?_
     refine AQ rfl ?_
     exact AK rfl (wkR [(0,some 0),(1,some 3)] (AY hF (k:=1) rfl) (pc (hC 0) (pc (hL 3 (AM BS _)) AB)))
    refine jG 0 9 ⟨[V 0 (pt 0 4),V 3 (.osl 3 0 (List.length x104) 1),(65,.lit false),V 69 (bs a0),V 74 (iv (w64 (x98 + 1)))],[W 0 4 [bs a0,iv x98,iv x95,iv x96],(3,.rows 1 (List.map cS x104))],4⟩ ?_
    refine An (i:=9) (mo:=idx a0 (w64 (x98 + 1))) rfl rfl rfl rfl (fun _ hc=>Bd (kk:=.i64) (by kernel_rfl) (by kernel_rfl) (by kernel_rfl) hc) (fun _=>rfl) ?_
    intro x109 h109
    refine jK 10 (E0 x109 5) ?_
    intro x110 h110
    refine jG 11 2 ⟨[V 0 (pt 0 4),V 3 (.osl 3 0 (List.length x104) 1),V 78 (bv (!x110))],[W 0 4 [bs a0,iv x98,iv x95,iv x96],(3,.rows 1 (List.map cS x104))],4⟩ ?_
    refine AQ rfl ?_
    exact AK rfl (wkR [(0,some 0),(1,some 3)] (AY hF (k:=1) rfl) (pc (hC 0) (pc (hL 3 (AM BS _)) AB)))
   intro x108
   refine jN ?_
   refine jIf ?_ ?_
   ·refine jS ⟨[V 2 (.osl 1 0 (List.length x104) 1)],[W 0 4 [bs a0,iv x98,iv x95,iv x96],(1,.rows 1 (List.map cS x104))],2⟩ ?_
    refine AO ?_
    refine AZ ?_
    refine Aq ?_
    exact BD rfl nofun (wkR [(0,some 0),(1,some 1)] (AY hF (k:=1) rfl) (pc (hC 0) (pc (hL 1 (AM BS _)) AB)))
   refine AS ?_
   refine AN ?_
   refine jT ⟨[V 0 (pt 0 4),V 3 (.osl 1 0 (List.length x104) 1)],[W 0 4 [bs a0,iv (w64 (x98 + 1)),iv x95,iv x96],(1,.rows 1 (List.map cS x104))],2⟩ ?_
   refine A8 ?_
   exact Ck (wkR [(0,some 0),(1,some 1)] (AY hF (k:=1) rfl) (pc (hC 0) (pc (hL 1 (AM BS _)) AB)))
  refine CN ?_
  refine CM ?_
  exact BD rfl nofun (wkR [(0,some 0),(1,some 1)] (AY hF (k:=1) rfl) (pc (hC 0) (pc (hL 1 (AM BS _)) AB)))
 rintro (⟨x86,x87,x88,x89⟩ | ⟨x90,x91,x92,x93⟩)
 ·refine Aq ?_
  refine AZ ?_
  exact A7 (Ft a0 a1 a2 a3 (x86,x87,x88,x89)) (.inr rfl) (wkR [(0,some 0),(1,some 1)] (AY hF (k:=1) rfl) (pc (hC 0) (pc (hL 1 (AM BS _)) AB)))
 refine CY ?_
 refine AN ?_
 refine jS ⟨[V 2 (.osl 1 0 (List.length x90) 1)],[W 0 4 [bs a0,iv x91,iv x92,iv x93],(1,.rows 1 (List.map cS x90))],2⟩ ?_
 refine AO ?_
 exact A7 (Ft a0 a1 a2 a3 (x90,x91,x92,x93)) (.inr rfl) (wkR [(0,some 0),(1,some 1)] (AY hF (k:=1) rfl) (pc (hC 0) (pc (hL 1 (AM BS _)) AB))))
abbrev R9:List LO:=[lm 6 0 78,lo 7 (.nilCheck (.tmp 6)) 0,lo 8 (.fieldAddr 80 (.tmp 7) 1) 0,lo 9 (.load 3 (.tmp 8)) 3,lo 10 (.binOp .add 3 (.tmp 9) (.const (.int .i64 1)) 3) 3,lm 11 0 78,lo 12 (.nilCheck (.tmp 11)) 0,lo 13 (.fieldAddr 80 (.tmp 12) 0) 0,lo 14 (.load 9 (.tmp 13)) 9,lo 15 (.call ⟨.builtin .len,#[.tmp 14],#[9]⟩) 3,lo 16 (.binOp .lss 3 (.tmp 10) (.tmp 15) 3) 4,lm 17 16 4,lmg 18 0 78 17 true,lg 19 (.nilCheck (.tmp 18)) 0 17 true,lg 20 (.fieldAddr 80 (.tmp 19) 0) 0 17 true,lg 21 (.load 9 (.tmp 20)) 9 17 true,lmg 22 0 78 17 true,lg 23 (.nilCheck (.tmp 22)) 0 17 true,lg 24 (.fieldAddr 80 (.tmp 23) 1) 0 17 true,lg 25 (.load 3 (.tmp 24)) 3 17 true,lg 26 (.index 9 (.tmp 21) (.tmp 25)) 5 17 true,lg 27 (.binOp .eql 5 (.tmp 26) (.const (.int .u8 45)) 5) 4 17 true,lo 28 (.pick (.tmp 17) (.tmp 27) (.const (.bool false))) 4,lm 29 28 4,lmg 30 0 78 29 true,lg 31 (.nilCheck (.tmp 30)) 0 29 true,lg 32 (.fieldAddr 80 (.tmp 31) 0) 0 29 true,lg 33 (.load 9 (.tmp 32)) 9 29 true,lmg 34 0 78 29 true,lg 35 (.nilCheck (.tmp 34)) 0 29 true,lg 36 (.fieldAddr 80 (.tmp 35) 1) 0 29 true,lg 37 (.load 3 (.tmp 36)) 3 29 true,lg 38 (.binOp .add 3 (.tmp 37) (.const (.int .i64 1)) 3) 3 29 true,lg 39 (.index 9 (.tmp 33) (.tmp 38)) 5 29 true,lg 40 (.call ⟨.value (.func 71),#[.tmp 39,.const (.int .i64 1)],#[5,3]⟩) 4 29 true,lo 41 (.pick (.tmp 29) (.tmp 40) (.const (.bool false))) 4]
abbrev Ru:List LO:=[lm 42 0 78,lo 43 (.nilCheck (.tmp 42)) 0,lo 44 (.fieldAddr 80 (.tmp 43) 1) 0,lo 45 (.load 3 (.tmp 44)) 3,lo 46 (.binOp .add 3 (.tmp 45) (.const (.int .i64 1)) 3) 3,lo 47 (.nilCheck (.tmp 42)) 0,lo 48 (.fieldAddr 80 (.tmp 47) 1) 0,ln (.store 3 (.tmp 48) (.tmp 46)) 0]
abbrev RV:List LO:=[lm 49 1 83,lm 50 1 83,lm 51 0 78,lo 52 (.call ⟨.value (.func 79),#[.tmp 51],#[78]⟩) 9,lo 53 (.nilCheck (.tmp 49)) 0,lo 54 (.fieldAddr 34 (.tmp 53) 4) 0,ln (.store 4 (.tmp 54) (.const (.bool true))) 0,lo 55 (.nilCheck (.tmp 50)) 0,lo 56 (.fieldAddr 34 (.tmp 55) 5) 0,ln (.store 9 (.tmp 56) (.tmp 52)) 0]
abbrev Rs:List LO:=[lm 58 0 78,lo 59 (.buildSlice 32 3 #[(0,.const (.string ⟨#[112,111,115,116]⟩)),(1,.const (.string ⟨#[114,101,118]⟩)),(2,.const (.string ⟨#[114]⟩))]) 32,lo 60 (.call ⟨.value (.func 52),#[.tmp 58,.tmp 59],#[78,32]⟩) 58,lm 57 60 58,lo 61 (.extract (.tmp 57) 0) 9,lo 62 (.extract (.tmp 57) 1) 4,lo 4 (.assign (.tmp 61)) 9,lo 5 (.assign (.tmp 62)) 4]
abbrev Re:List LO:=[lm 63 5 4]
abbrev SH:List LO:=[lm 64 1 83,lm 65 1 83,lm 66 0 78,lo 67 (.call ⟨.value (.func 54),#[.tmp 66],#[78]⟩) 9,lo 68 (.nilCheck (.tmp 64)) 0,lo 69 (.fieldAddr 34 (.tmp 68) 4) 0,ln (.store 4 (.tmp 69) (.const (.bool true))) 0,lo 70 (.nilCheck (.tmp 65)) 0,lo 71 (.fieldAddr 34 (.tmp 70) 5) 0,ln (.store 9 (.tmp 71) (.tmp 67)) 0]
abbrev Kz:LC:=.seq (.seq (.reg true R9) (.cond (.tmp 41) (.seq (.reg false Ru) (.seq (.reg false RV) .ret)) .skip)) (.seq (.reg false Rs) (.seq (.reg false Re) (.cond (.tmp 63) (.reg false SH) .skip)))
theorem S7:BE E 55 72 [] Kz:=⟨⟨Go.Proofs.Tryz.f55,by kernel_rfl,by kernel_rfl,by kernel_rfl,by kernel_rfl,by kernel_rfl⟩,rfl,rfl⟩
abbrev GX (a0:Str) (a1:Int) (a2:Int) (a3:Int) (a4:Str) (a5:List Str) (a6:Int) (a7:Str) (a8:Bool) (a9:Str) (a10:Bool) (a11:Str) (a12:List Str) (r:Int × Bool × Str):CS:=⟨[],[W 0 4 [bs a0,iv r.1,iv a2,iv a3],W 1 9 [bs a4,.osl 2 0 (List.length a5) 1,.s (.int .u8 a6),bs a7,bv r.2.1,bs r.2.2,bv a10,bs a11,.osl 3 0 (List.length a12) 1],(2,.rows 1 (List.map cS a5)),(3,.rows 1 (List.map cS a12))],4⟩
noncomputable def D7 (a0:Str) (a1:Int) (a2:Int) (a3:Int) (a4:Str) (a5:List Str) (a6:Int) (a7:Str) (a8:Bool) (a9:Str) (a10:Bool) (a11:Str) (a12:List Str):Option (Int × Bool × Str):=Option.bind (if (decide ((w64 (a1 + 1)) < (List.length a0:Int)))=true then Option.bind (idx a0 a1) (fun x18=>some (x18 == 45)) else some false:Option (Bool)) (fun x17=>Option.bind (if x17=true then Option.bind (idx a0 (w64 (a1 + 1))) (fun x22=>Option.bind (DZ x22 1) (fun x23=>some x23)) else some false:Option (Bool)) (fun x21=>(if x21=true then Option.bind (Br a0 (w64 (a1 + 1)) a2 a3) (fun (x24,x25)=>some (x25,true,x24)) else Option.bind (BY a0 a1 a2 a3 ([[112,111,115,116],[114,101,118],[114]])) (fun (x26,x27,x28)=>(if x27=true then Option.bind (Bc a0 x28 a2 a3) (fun (x29,x30)=>some (x30,true,x29)) else some (x28,a8,a9))))))
theorem Sb (a0:Str) (a1:Int) (a2:Int) (a3:Int) (a4:Str) (a5:List Str) (a6:Int) (a7:Str) (a8:Bool) (a9:Str) (a10:Bool) (a11:Str) (a12:List Str):CtM E 55 [pt 0 4,pt 1 9] [W 0 4 [bs a0,iv a1,iv a2,iv a3],W 1 9 [bs a4,.osl 2 0 (List.length a5) 1,.s (.int .u8 a6),bs a7,bv a8,bs a9,bv a10,bs a11,.osl 3 0 (List.length a12) 1],(2,.rows 1 (List.map cS a5)),(3,.rows 1 (List.map cS a12))] 4 (D7 a0 a1 a2 a3 a4 a5 a6 a7 a8 a9 a10 a11 a12) (fun r:Int × Bool × Str=>.tup []) (fun r:Int × Bool × Str=>[W 0 4 [bs a0,iv r.1,iv a2,iv a3],W 1 9 [bs a4,.osl 2 0 (List.length a5) 1,.s (.int .u8 a6),bs a7,bv r.2.1,bs r.2.2,bv a10,bs a11,.osl 3 0 (List.length a12) 1],(2,.rows 1 (List.map cS a5)),(3,.rows 1 (List.map cS a12))]) 4:=Bf (N:=72) (L:=Kz) S7 rfl (Nat.le_of_ble_eq_true rfl) (fun F hF=>by
 unfold D7
 refine AT ?_
 refine jR ?_
 refine jG 0 12 ⟨[V 0 (pt 0 4),V 1 (pt 1 9),V 17 (bv (decide ((w64 (a1 + 1)) < (List.length a0:Int))))],[W 0 4 [bs a0,iv a1,iv a2,iv a3],W 1 9 [bs a4,.osl 2 0 (List.length a5) 1,.s (.int .u8 a6),bs a7,bv a8,bs a9,bv a10,bs a11,.osl 3 0 (List.length a12) 1],(2,.rows 1 (List.map cS a5)),(3,.rows 1 (List.map cS a12))],4⟩ ?_
 refine Ak 12 11 (fun x17=>⟨[V 0 (pt 0 4),V 1 (pt 1 9),V 28 (bv x17)],[W 0 4 [bs a0,iv a1,iv a2,iv a3],W 1 9 [bs a4,.osl 2 0 (List.length a5) 1,.s (.int .u8 a6),bs a7,bv a8,bs a9,bv a10,bs a11,.osl 3 0 (List.length a12) 1],(2,.rows 1 (List.map cS a5)),(3,.rows 1 (List.map cS a12))],4⟩) ?_ ?_
 ·refine jSp 17 ?_ ?_
  ·refine jG 0 8 ⟨[V 0 (pt 0 4),V 1 (pt 1 9),(17,.lit true),V 21 (bs a0),V 25 (iv a1)],[W 0 4 [bs a0,iv a1,iv a2,iv a3],W 1 9 [bs a4,.osl 2 0 (List.length a5) 1,.s (.int .u8 a6),bs a7,bv a8,bs a9,bv a10,bs a11,.osl 3 0 (List.length a12) 1],(2,.rows 1 (List.map cS a5)),(3,.rows 1 (List.map cS a12))],4⟩ ?_
   refine An (i:=8) (mo:=idx a0 a1) rfl rfl rfl rfl (fun _ hc=>Bd (kk:=.i64) (by kernel_rfl) (by kernel_rfl) (by kernel_rfl) hc) (fun _=>rfl) ?_
   intro x18 h18
   refine jG 9 2 ⟨[V 0 (pt 0 4),V 1 (pt 1 9),V 28 (bv (x18 == 45))],[W 0 4 [bs a0,iv a1,iv a2,iv a3],W 1 9 [bs a4,.osl 2 0 (List.length a5) 1,.s (.int .u8 a6),bs a7,bv a8,bs a9,bv a10,bs a11,.osl 3 0 (List.length a12) 1],(2,.rows 1 (List.map cS a5)),(3,.rows 1 (List.map cS a12))],4⟩ ?_
   refine AQ rfl ?_
   exact AK rfl (wkR [(0,some 0),(1,some 1),(2,some 2),(3,some 3)] (AY hF (k:=4) rfl) (pc (hC 0) (pc (hC 1) (pc (hL 2 (AM BS _)) (pc (hL 3 (AM BS _)) AB)))))
  refine jG 0 11 ⟨[V 0 (pt 0 4),V 1 (pt 1 9),V 28 (bv false)],[W 0 4 [bs a0,iv a1,iv a2,iv a3],W 1 9 [bs a4,.osl 2 0 (List.length a5) 1,.s (.int .u8 a6),bs a7,bv a8,bs a9,bv a10,bs a11,.osl 3 0 (List.length a12) 1],(2,.rows 1 (List.map cS a5)),(3,.rows 1 (List.map cS a12))],4⟩ ?_
  refine AQ rfl ?_
  exact AK rfl (wkR [(0,some 0),(1,some 1),(2,some 2),(3,some 3)] (AY hF (k:=4) rfl) (pc (hC 0) (pc (hC 1) (pc (hL 2 (AM BS _)) (pc (hL 3 (AM BS _)) AB)))))
 intro x17
 refine jG 23 1 ⟨[V 0 (pt 0 4),V 1 (pt 1 9),V 29 (bv x17)],[W 0 4 [bs a0,iv a1,iv a2,iv a3],W 1 9 [bs a4,.osl 2 0 (List.length a5) 1,.s (.int .u8 a6),bs a7,bv a8,bs a9,bv a10,bs a11,.osl 3 0 (List.length a12) 1],(2,.rows 1 (List.map cS a5)),(3,.rows 1 (List.map cS a12))],4⟩ ?_
 refine Ak 24 12 (fun x21=>⟨[V 0 (pt 0 4),V 1 (pt 1 9),V 41 (bv x21)],[W 0 4 [bs a0,iv a1,iv a2,iv a3],W 1 9 [bs a4,.osl 2 0 (List.length a5) 1,.s (.int .u8 a6),bs a7,bv a8,bs a9,bv a10,bs a11,.osl 3 0 (List.length a12) 1],(2,.rows 1 (List.map cS a5)),(3,.rows 1 (List.map cS a12))],4⟩) ?_ ?_
 ·refine jSp 29 ?_ ?_
  ·refine jG 0 9 ⟨[V 0 (pt 0 4),V 1 (pt 1 9),(29,.lit true),V 33 (bs a0),V 38 (iv (w64 (a1 + 1)))],[W 0 4 [bs a0,iv a1,iv a2,iv a3],W 1 9 [bs a4,.osl 2 0 (List.length a5) 1,.s (.int .u8 a6),bs a7,bv a8,bs a9,bv a10,bs a11,.osl 3 0 (List.length a12) 1],(2,.rows 1 (List.map cS a5)),(3,.rows 1 (List.map cS a12))],4⟩ ?_
   refine An (i:=9) (mo:=idx a0 (w64 (a1 + 1))) rfl rfl rfl rfl (fun _ hc=>Bd (kk:=.i64) (by kernel_rfl) (by kernel_rfl) (by kernel_rfl) hc) (fun _=>rfl) ?_
   intro x22 h22
   refine jK 10 (E0 x22 1) ?_
   intro x23 h23
   refine jG 11 1 ⟨[V 0 (pt 0 4),V 1 (pt 1 9),V 41 (bv x23)],[W 0 4 [bs a0,iv a1,iv a2,iv a3],W 1 9 [bs a4,.osl 2 0 (List.length a5) 1,.s (.int .u8 a6),bs a7,bv a8,bs a9,bv a10,bs a11,.osl 3 0 (List.length a12) 1],(2,.rows 1 (List.map cS a5)),(3,.rows 1 (List.map cS a12))],4⟩ ?_
   refine AQ rfl ?_
   exact AK rfl (wkR [(0,some 0),(1,some 1),(2,some 2),(3,some 3)] (AY hF (k:=4) rfl) (pc (hC 0) (pc (hC 1) (pc (hL 2 (AM BS _)) (pc (hL 3 (AM BS _)) AB)))))
  refine jG 0 12 ⟨[V 0 (pt 0 4),V 1 (pt 1 9),V 41 (bv false)],[W 0 4 [bs a0,iv a1,iv a2,iv a3],W 1 9 [bs a4,.osl 2 0 (List.length a5) 1,.s (.int .u8 a6),bs a7,bv a8,bs a9,bv a10,bs a11,.osl 3 0 (List.length a12) 1],(2,.rows 1 (List.map cS a5)),(3,.rows 1 (List.map cS a12))],4⟩ ?_
  refine AQ rfl ?_
  exact AK rfl (wkR [(0,some 0),(1,some 1),(2,some 2),(3,some 3)] (AY hF (k:=4) rfl) (pc (hC 0) (pc (hC 1) (pc (hL 2 (AM BS _)) (pc (hL 3 (AM BS _)) AB)))))
 intro x21
 refine jN ?_
 refine jIf ?_ ?_
 ·refine jS ⟨[V 0 (pt 0 4),V 1 (pt 1 9)],[W 0 4 [bs a0,iv (w64 (a1 + 1)),iv a2,iv a3],W 1 9 [bs a4,.osl 2 0 (List.length a5) 1,.s (.int .u8 a6),bs a7,bv a8,bs a9,bv a10,bs a11,.osl 3 0 (List.length a12) 1],(2,.rows 1 (List.map cS a5)),(3,.rows 1 (List.map cS a12))],4⟩ ?_
  refine jR ?_
  refine jG 0 3 ⟨[V 49 (pt 1 9),V 50 (pt 1 9),V 51 (pt 0 4)],[W 0 4 [bs a0,iv (w64 (a1 + 1)),iv a2,iv a3],W 1 9 [bs a4,.osl 2 0 (List.length a5) 1,.s (.int .u8 a6),bs a7,bv a8,bs a9,bv a10,bs a11,.osl 3 0 (List.length a12) 1],(2,.rows 1 (List.map cS a5)),(3,.rows 1 (List.map cS a12))],4⟩ ?_
  refine Am 3 [(0,some 0)] [(0,some 0)] (fun r:Str × Int=>[W 0 4 [bs a0,iv r.2,iv a2,iv a3],W 1 9 [bs a4,.osl 2 0 (List.length a5) 1,.s (.int .u8 a6),bs a7,bv a8,bs a9,bv a10,bs a11,.osl 3 0 (List.length a12) 1],(2,.rows 1 (List.map cS a5)),(3,.rows 1 (List.map cS a12))]) (fun r:Str × Int=>bs r.1) 4 (DN a0 (w64 (a1 + 1)) a2 a3) (pc (hC 0) AB) (fun r=>(pc (.inr (hC 0)) (pc (.inl ⟨rfl,rfl⟩) (pc (.inl ⟨rfl,rfl⟩) (pc (.inl ⟨rfl,rfl⟩) AB))))) ?_
  rintro⟨x24,x25⟩ hm4
  refine jG 4 6 ⟨[],[W 0 4 [bs a0,iv x25,iv a2,iv a3],W 1 9 [bs a4,.osl 2 0 (List.length a5) 1,.s (.int .u8 a6),bs a7,bv true,bs x24,bv a10,bs a11,.osl 3 0 (List.length a12) 1],(2,.rows 1 (List.map cS a5)),(3,.rows 1 (List.map cS a12))],4⟩ ?_
  refine jN ?_
  refine AO ?_
  refine AZ ?_
  exact A7 (GX a0 a1 a2 a3 a4 a5 a6 a7 a8 a9 a10 a11 a12 (x25,true,x24)) (.inr rfl) (wkR [(0,some 0),(1,some 1),(2,some 2),(3,some 3)] (AY hF (k:=4) rfl) (pc (hC 0) (pc (hC 1) (pc (hL 2 (AM BS _)) (pc (hL 3 (AM BS _)) AB)))))
 refine AS ?_
 refine AN ?_
 refine jR ?_
 refine jG 0 2 ⟨[V 0 (pt 0 4),V 1 (pt 1 9),V 58 (pt 0 4),V 59 (.osl 4 0 (List.length ([[112,111,115,116],[114,101,118],[114]])) 1)],[W 0 4 [bs a0,iv a1,iv a2,iv a3],W 1 9 [bs a4,.osl 2 0 (List.length a5) 1,.s (.int .u8 a6),bs a7,bv a8,bs a9,bv a10,bs a11,.osl 3 0 (List.length a12) 1],(2,.rows 1 (List.map cS a5)),(3,.rows 1 (List.map cS a12)),(4,.rows 1 (List.map cS ([[112,111,115,116],[114,101,118],[114]])))],5⟩ ?_
 refine Am 2 [(0,some 0),(1,some 4)] [(0,some 0),(4,some 1)] (fun r:Str × Bool × Int=>[W 0 4 [bs a0,iv r.2.2,iv a2,iv a3],W 1 9 [bs a4,.osl 2 0 (List.length a5) 1,.s (.int .u8 a6),bs a7,bv a8,bs a9,bv a10,bs a11,.osl 3 0 (List.length a12) 1],(2,.rows 1 (List.map cS a5)),(3,.rows 1 (List.map cS a12)),(4,.rows 1 (List.map cS ([[112,111,115,116],[114,101,118],[114]])))]) (fun r:Str × Bool × Int=>.tup [bs r.1,bv r.2.1]) 7 (Fu a0 a1 a2 a3 ([[112,111,115,116],[114,101,118],[114]])) (pc (hC 0) (pc (hL 4 (AM BS _)) AB)) (fun r=>(pc (.inr (hC 0)) (pc (.inl ⟨rfl,rfl⟩) (pc (.inl ⟨rfl,rfl⟩) (pc (.inl ⟨rfl,rfl⟩) (pc (.inr (hL 1 (AM BS _))) AB)))))) ?_
 rintro⟨x26,x27,x28⟩ hm6
 refine jG 3 5 ⟨[V 0 (pt 0 4),V 1 (pt 1 9),V 5 (bv x27)],[W 0 4 [bs a0,iv x28,iv a2,iv a3],W 1 9 [bs a4,.osl 2 0 (List.length a5) 1,.s (.int .u8 a6),bs a7,bv a8,bs a9,bv a10,bs a11,.osl 3 0 (List.length a12) 1],(2,.rows 1 (List.map cS a5)),(3,.rows 1 (List.map cS a12))],7⟩ ?_
 refine jN ?_
 refine jS ⟨[V 0 (pt 0 4),V 1 (pt 1 9),V 63 (bv x27)],[W 0 4 [bs a0,iv x28,iv a2,iv a3],W 1 9 [bs a4,.osl 2 0 (List.length a5) 1,.s (.int .u8 a6),bs a7,bv a8,bs a9,bv a10,bs a11,.osl 3 0 (List.length a12) 1],(2,.rows 1 (List.map cS a5)),(3,.rows 1 (List.map cS a12))],7⟩ ?_
 refine jIf ?_ ?_
 ·refine CA ?_
  refine jG 0 3 ⟨[V 64 (pt 1 9),V 65 (pt 1 9),V 66 (pt 0 4)],[W 0 4 [bs a0,iv x28,iv a2,iv a3],W 1 9 [bs a4,.osl 2 0 (List.length a5) 1,.s (.int .u8 a6),bs a7,bv a8,bs a9,bv a10,bs a11,.osl 3 0 (List.length a12) 1],(2,.rows 1 (List.map cS a5)),(3,.rows 1 (List.map cS a12))],7⟩ ?_
  refine Am 3 [(0,some 0)] [(0,some 0)] (fun r:Str × Int=>[W 0 4 [bs a0,iv r.2,iv a2,iv a3],W 1 9 [bs a4,.osl 2 0 (List.length a5) 1,.s (.int .u8 a6),bs a7,bv a8,bs a9,bv a10,bs a11,.osl 3 0 (List.length a12) 1],(2,.rows 1 (List.map cS a5)),(3,.rows 1 (List.map cS a12))]) (fun r:Str × Int=>bs r.1) 7 (E2 a0 x28 a2 a3) (pc (hC 0) AB) (fun r=>(pc (.inr (hC 0)) (pc (.inl ⟨rfl,rfl⟩) (pc (.inl ⟨rfl,rfl⟩) (pc (.inl ⟨rfl,rfl⟩) AB))))) ?_
  rintro⟨x29,x30⟩ hm5
  refine jG 4 6 ⟨[],[W 0 4 [bs a0,iv x30,iv a2,iv a3],W 1 9 [bs a4,.osl 2 0 (List.length a5) 1,.s (.int .u8 a6),bs a7,bv true,bs x29,bv a10,bs a11,.osl 3 0 (List.length a12) 1],(2,.rows 1 (List.map cS a5)),(3,.rows 1 (List.map cS a12))],7⟩ ?_
  refine AQ rfl ?_
  exact A7 (GX a0 a1 a2 a3 a4 a5 a6 a7 a8 a9 a10 a11 a12 (x30,true,x29)) (.inl rfl) (wkR [(0,some 0),(1,some 1),(2,some 2),(3,some 3)] (AY hF (k:=4) rfl) (pc (hC 0) (pc (hC 1) (pc (hL 2 (AM BS _)) (pc (hL 3 (AM BS _)) AB)))))
 refine AS ?_
 exact A7 (GX a0 a1 a2 a3 a4 a5 a6 a7 a8 a9 a10 a11 a12 (x28,a8,a9)) (.inl rfl) (wkR [(0,some 0),(1,some 1),(2,some 2),(3,some 3)] (AY hF (k:=4) rfl) (pc (hC 0) (pc (hC 1) (pc (hL 2 (AM BS _)) (pc (hL 3 (AM BS _)) AB))))))
abbrev cZ:List LO:=[lo 2 (.alloc 34) 0,lo 3 (.alloc 25) 0]
abbrev dU:List LO:=[lm 10 0 9,lo 11 (.call ⟨.builtin .len,#[.tmp 10],#[9]⟩) 3,lo 12 (.binOp .gtr 3 (.tmp 11) (.const (.int .i64 64)) 3) 4]
abbrev eZ:List LO:=[lo 13 (.build 34 #[]) 34,lo 14 (.build 25 #[(0,.const (.int .i64 12)),(1,.const (.int .i64 64))]) 25,ln (.store 34 (.tmp 2) (.tmp 13)) 0,ln (.store 25 (.tmp 3) (.tmp 14)) 0]
abbrev eG:List LO:=[lm 15 0 9,lo 16 (.call ⟨.value (.func 49),#[.tmp 15],#[9]⟩) 9,lo 17 (.build 80 #[(0,.tmp 16)]) 80,lo 18 (.box 80 (.tmp 17)) 78,lo 4 (.assign (.tmp 18)) 78]
abbrev eP:List LO:=[lm 19 4 78,lo 20 (.nilCheck (.tmp 19)) 0,lo 21 (.fieldAddr 80 (.tmp 20) 1) 0,lo 22 (.load 3 (.tmp 21)) 3,lm 23 4 78,lo 24 (.nilCheck (.tmp 23)) 0,lo 25 (.fieldAddr 80 (.tmp 24) 0) 0,lo 26 (.load 9 (.tmp 25)) 9,lo 27 (.call ⟨.builtin .len,#[.tmp 26],#[9]⟩) 3,lo 28 (.binOp .lss 3 (.tmp 22) (.tmp 27) 3) 4,lm 29 28 4,lmg 30 4 78 29 true,lg 31 (.nilCheck (.tmp 30)) 0 29 true,lg 32 (.fieldAddr 80 (.tmp 31) 0) 0 29 true,lg 33 (.load 9 (.tmp 32)) 9 29 true,lg 34 (.index 9 (.tmp 33) (.const (.int .i64 0))) 5 29 true,lg 35 (.binOp .eql 5 (.tmp 34) (.const (.int .u8 118)) 5) 4 29 true,lo 36 (.pick (.tmp 29) (.tmp 35) (.const (.bool false))) 4]
abbrev cX:List LO:=[lm 37 4 78,lo 38 (.nilCheck (.tmp 37)) 0,lo 39 (.fieldAddr 80 (.tmp 38) 1) 0,lo 40 (.load 3 (.tmp 39)) 3,lo 41 (.binOp .add 3 (.tmp 40) (.const (.int .i64 1)) 3) 3,lo 42 (.nilCheck (.tmp 37)) 0,lo 43 (.fieldAddr 80 (.tmp 42) 1) 0,ln (.store 3 (.tmp 43) (.tmp 41)) 0]
abbrev fE:List LO:=[lo 5 (.alloc 34) 0]
abbrev fP:List LO:=[lm 44 4 78,lo 45 (.call ⟨.value (.func 50),#[.tmp 44],#[78]⟩) 9,lo 46 (.fieldAddr 34 (.tmp 5) 0) 0,ln (.store 9 (.tmp 46) (.tmp 45)) 0]
abbrev dJ:List LO:=[lm 47 4 78,lo 48 (.call ⟨.value (.func 51),#[.tmp 47],#[78]⟩) 32,lo 49 (.fieldAddr 34 (.tmp 5) 1) 0,ln (.store 32 (.tmp 49) (.tmp 48)) 0]
abbrev ZY:List LO:=[lm 51 4 78,lo 52 (.buildSlice 32 8 #[(0,.const (.string ⟨#[97,108,112,104,97]⟩)),(1,.const (.string ⟨#[97]⟩)),(2,.const (.string ⟨#[98,101,116,97]⟩)),(3,.const (.string ⟨#[98]⟩)),(4,.const (.string ⟨#[112,114,101,118,105,101,119]⟩)),(5,.const (.string ⟨#[112,114,101]⟩)),(6,.const (.string ⟨#[99]⟩)),(7,.const (.string ⟨#[114,99]⟩))]) 32,lo 53 (.call ⟨.value (.func 52),#[.tmp 51,.tmp 52],#[78,32]⟩) 58,lm 50 53 58,lo 54 (.extract (.tmp 50) 0) 9,lo 55 (.extract (.tmp 50) 1) 4,lo 6 (.assign (.tmp 54)) 9,lo 7 (.assign (.tmp 55)) 4]
abbrev ZZ:List LO:=[lm 56 7 4]
abbrev Zg:List LO:=[lm 57 6 9,lo 58 (.index 9 (.tmp 57) (.const (.int .i64 0))) 5,lo 59 (.fieldAddr 34 (.tmp 5) 2) 0,ln (.store 5 (.tmp 59) (.tmp 58)) 0]
abbrev Zz:List LO:=[lm 60 6 9,lo 61 (.slice 9 (.tmp 60) none (some (.const (.int .i64 1))) none) 9,lo 62 (.call ⟨.value (.func 53),#[.tmp 61,.const (.string ⟨#[99,112,114]⟩)],#[9,9]⟩) 4]
abbrev Yp:List LO:=[lo 63 (.fieldAddr 34 (.tmp 5) 2) 0,ln (.store 5 (.tmp 63) (.const (.int .u8 114))) 0]
abbrev Y7:List LO:=[lm 64 4 78,lo 65 (.call ⟨.value (.func 54),#[.tmp 64],#[78]⟩) 9,lo 66 (.fieldAddr 34 (.tmp 5) 3) 0,ln (.store 9 (.tmp 66) (.tmp 65)) 0]
abbrev Zl:List LO:=[lm 67 4 78,lo 68 (.nilCheck (.tmp 67)) 0,lo 69 (.fieldAddr 80 (.tmp 68) 2) 0,lo 70 (.fieldAddr 25 (.tmp 69) 0) 0,lo 71 (.load 23 (.tmp 70)) 23,lo 72 (.binOp .eql 23 (.tmp 71) (.const (.int .i64 0)) 23) 4]
abbrev Zv:List LO:=[lm 73 4 78,lo 74 (.call ⟨.value (.func 55),#[.tmp 73,.tmp 5],#[78,83]⟩) 0]
abbrev Zx:List LO:=[lm 76 4 78,lo 77 (.buildSlice 32 1 #[(0,.const (.string ⟨#[100,101,118]⟩))]) 32,lo 78 (.call ⟨.value (.func 52),#[.tmp 76,.tmp 77],#[78,32]⟩) 58,lm 75 78 58,lo 79 (.extract (.tmp 75) 0) 9,lo 80 (.extract (.tmp 75) 1) 4,lo 8 (.assign (.tmp 79)) 9,lo 9 (.assign (.tmp 80)) 4]
abbrev ZH:List LO:=[lm 81 9 4]
abbrev ZB:List LO:=[lm 82 4 78,lo 83 (.call ⟨.value (.func 54),#[.tmp 82],#[78]⟩) 9,lo 84 (.fieldAddr 34 (.tmp 5) 6) 0,ln (.store 4 (.tmp 84) (.const (.bool true))) 0,lo 85 (.fieldAddr 34 (.tmp 5) 7) 0,ln (.store 9 (.tmp 85) (.tmp 83)) 0]
abbrev Y1:List LO:=[lm 86 4 78,lo 87 (.nilCheck (.tmp 86)) 0,lo 88 (.fieldAddr 80 (.tmp 87) 2) 0,lo 89 (.fieldAddr 25 (.tmp 88) 0) 0,lo 90 (.load 23 (.tmp 89)) 23,lo 91 (.binOp .eql 23 (.tmp 90) (.const (.int .i64 0)) 23) 4]
abbrev ZM:List LO:=[lm 92 4 78,lo 93 (.call ⟨.value (.func 56),#[.tmp 92],#[78]⟩) 32,lo 94 (.fieldAddr 34 (.tmp 5) 8) 0,ln (.store 32 (.tmp 94) (.tmp 93)) 0]
abbrev ZQ:List LO:=[lm 95 4 78,lo 96 (.nilCheck (.tmp 95)) 0,lo 97 (.fieldAddr 80 (.tmp 96) 2) 0,lo 98 (.fieldAddr 25 (.tmp 97) 0) 0,lo 99 (.load 23 (.tmp 98)) 23,lo 100 (.binOp .eql 23 (.tmp 99) (.const (.int .i64 0)) 23) 4,lm 101 100 4,lmg 102 4 78 101 true,lg 103 (.nilCheck (.tmp 102)) 0 101 true,lg 104 (.fieldAddr 80 (.tmp 103) 1) 0 101 true,lg 105 (.load 3 (.tmp 104)) 3 101 true,lmg 106 4 78 101 true,lg 107 (.nilCheck (.tmp 106)) 0 101 true,lg 108 (.fieldAddr 80 (.tmp 107) 0) 0 101 true,lg 109 (.load 9 (.tmp 108)) 9 101 true,lg 110 (.call ⟨.builtin .len,#[.tmp 109],#[9]⟩) 3 101 true,lg 111 (.binOp .lss 3 (.tmp 105) (.tmp 110) 3) 4 101 true,lo 112 (.pick (.tmp 101) (.tmp 111) (.const (.bool false))) 4]
abbrev ZI:List LO:=[lm 113 4 78,lm 114 4 78,lo 115 (.nilCheck (.tmp 114)) 0,lo 116 (.fieldAddr 80 (.tmp 115) 1) 0,lo 117 (.load 3 (.tmp 116)) 3,lo 118 (.build 25 #[(0,.const (.int .i64 10)),(1,.tmp 117)]) 25,lo 119 (.nilCheck (.tmp 113)) 0,lo 120 (.fieldAddr 80 (.tmp 119) 2) 0,ln (.store 25 (.tmp 120) (.tmp 118)) 0]
abbrev Y9:List LO:=[lm 121 4 78,lo 122 (.nilCheck (.tmp 121)) 0,lo 123 (.fieldAddr 80 (.tmp 122) 2) 0,lo 124 (.fieldAddr 25 (.tmp 123) 0) 0,lo 125 (.load 23 (.tmp 124)) 23,lo 126 (.binOp .neq 23 (.tmp 125) (.const (.int .i64 0)) 23) 4]
abbrev Ym:List LO:=[lo 127 (.build 34 #[]) 34,lm 128 4 78,lo 129 (.nilCheck (.tmp 128)) 0,lo 130 (.fieldAddr 80 (.tmp 129) 2) 0,lo 131 (.load 25 (.tmp 130)) 25,ln (.store 34 (.tmp 2) (.tmp 127)) 0,ln (.store 25 (.tmp 3) (.tmp 131)) 0]
abbrev ZL:List LO:=[lo 132 (.load 34 (.tmp 5)) 34,lo 133 (.build 25 #[]) 25,ln (.store 34 (.tmp 2) (.tmp 132)) 0,ln (.store 25 (.tmp 3) (.tmp 133)) 0]
noncomputable abbrev Va:LC:=.seq (.reg false cZ) (.seq (.seq (.reg false dU) (.cond (.tmp 12) (.seq (.reg false eZ) .ret) .skip)) (.seq (.reg false eG) (.seq (.seq (.reg true eP) (.cond (.tmp 36) (.reg false cX) .skip)) (.seq (.reg false fE) (.seq (.reg false fP) (.seq (.reg false dJ) (.seq (.seq (.reg false ZY) (.seq (.reg false ZZ) (.cond (.tmp 56) (.seq (.reg false Zg) (.seq (.seq (.reg false Zz) (.cond (.tmp 62) (.reg false Yp) .skip)) (.reg false Y7))) .skip))) (.seq (.seq (.reg false Zl) (.cond (.tmp 72) (.reg false Zv) .skip)) (.seq (.seq (.reg false Zx) (.seq (.reg false ZH) (.cond (.tmp 81) (.reg false ZB) .skip))) (.seq (.seq (.reg false Y1) (.cond (.tmp 91) (.reg false ZM) .skip)) (.seq (.seq (.reg true ZQ) (.cond (.tmp 112) (.reg false ZI) .skip)) (.seq (.seq (.reg false Y9) (.cond (.tmp 126) (.seq (.full (xV (Ea (Jx Go.Proofs.Tryz.f31) [1,1,1,1,1,1,1,1,1,1,1,1,0,1,0,0]))) .ret) .skip)) (.seq (.reg false ZL) .ret)))))))))))))
theorem iP:BE E 31 134 [.cell 2 34,.cell 3 25] Va:=⟨⟨Go.Proofs.Tryz.f31,by kernel_rfl,by kernel_rfl,by kernel_rfl,by kernel_rfl,by kernel_rfl⟩,rfl,rfl⟩
noncomputable def FG (a0:Str):Option (AF × FB):=(if (decide ((List.length a0:Int) > 64))=true then some ((AF.mk [] [] 0 [] false [] false [] []),(FB.mk 12 64)) else Option.bind (E9 a0) (fun x1=>Option.bind (Option.bind (if (decide (0 < (List.length x1:Int)))=true then Option.bind (idx x1 0) (fun x7=>some (x7 == 118)) else some false:Option (Bool)) (fun x6=>(if x6=true then some (w64 (0 + 1)) else some 0)):Option (Int)) (fun x4=>Option.bind (Dg x1 x4 0 0) (fun (x8,x9)=>Option.bind (CI x1 x9 0 0) (fun (x10,x11,x12,x13)=>Option.bind (Option.bind (BY x1 x11 x12 x13 ([[97,108,112,104,97],[97],[98,101,116,97],[98],[112,114,101,118,105,101,119],[112,114,101],[99],[114,99]])) (fun (x26,x27,x28)=>(if x27=true then Option.bind (idx x26 0) (fun x29=>Option.bind (Option.bind (Fj x26 0 1) (fun x33=>Option.bind (strings_ContainsAny x33 [99,112,114]) (fun x34=>(if x34=true then some 114 else some x29))):Option (Int)) (fun x32=>Option.bind (Bc x1 x28 x12 x13) (fun (x35,x36)=>some (x36,x32,x35)))) else some (x28,0,[]))):Option (Int × Int × Str)) (fun (x23,x24,x25)=>Option.bind ((if (x12 == 0)=true then Option.bind (D7 x1 x23 x12 x13 x8 x10 x24 x25 false [] false [] ([]:List Str)) (fun (x44,x45,x46)=>some (x44,x45,x46,([]:List Str))) else some (x23,false,[],[])):Option (Int × Bool × Str × List Str)) (fun (x40,x41,x42,x43)=>Option.bind (Option.bind (BY x1 x40 x12 x13 ([[100,101,118]])) (fun (x55,x56,x57)=>(if x56=true then Option.bind (Bc x1 x57 x12 x13) (fun (x58,x59)=>some (x59,true,x58)) else some (x57,false,[]))):Option (Int × Bool × Str)) (fun (x52,x53,x54)=>Option.bind ((if (x12 == 0)=true then Option.bind (Dk x1 x52 x12 x13) (fun (x68,x69,x70,x71)=>some (x69,x70,x71,x68)) else some (x52,x12,x13,x43)):Option (Int × Int × Int × List Str)) (fun (x64,x65,x66,x67)=>Option.bind ((if ((x65 == 0) && (decide (x64 < (List.length x1:Int))))=true then some (10,x64) else some (x65,x66)):Option (Int × Int)) (fun (x72,x73)=>(if (x72 != 0)=true then some ((AF.mk [] [] 0 [] false [] false [] []),(FB.mk x72 x73)) else some ((AF.mk x8 x10 x24 x25 x41 x42 x53 x54 x67),(FB.mk 0 0)))))))))))))
theorem GR (a0:Str):Ct E 31 [bs a0] (FG a0) (fun r:AF × FB=>.tup [.agg [bs r.1.Epoch,.fsl 1 (List.map cS r.1.Release),.s (.int .u8 r.1.Pre),bs r.1.PreNum,bv r.1.Post,bs r.1.PostNum,bv r.1.Dev,bs r.1.DevNum,.fsl 1 (List.map cS r.1.Local)],.agg [iv r.2.Err,iv r.2.At]]):=Ad (N:=134) (L:=Va) iP rfl (Nat.le_of_ble_eq_true rfl) (by kernel_rfl) (by
 unfold FG
 refine jS ⟨[V 0 (bs a0),V 2 (pt 0 9),V 3 (pt 1 2)],[W 0 9 [bs [],Af,.s (.int .u8 0),bs [],bv false,bs [],bv false,bs [],Af],W 1 2 [iv 0,iv 0]],2⟩ ?_
 refine AT ?_
 refine jS ⟨[V 0 (bs a0),V 2 (pt 0 9),V 3 (pt 1 2),V 12 (bv (decide ((List.length a0:Int) > 64)))],[W 0 9 [bs [],Af,.s (.int .u8 0),bs [],bv false,bs [],bv false,bs [],Af],W 1 2 [iv 0,iv 0]],2⟩ ?_
 refine jIf ?_ ?_
 ·refine jS ⟨[V 2 (pt 0 9),V 3 (pt 1 2)],[W 0 9 [bs [],Af,.s (.int .u8 0),bs [],bv false,bs [],bv false,bs [],Af],W 1 2 [iv 12,iv 64]],2⟩ ?_
  refine AO ?_
  refine AZ ?_
  exact AP (.inr rfl) (v:=.tup [.agg [bs [],Af,.s (.int .u8 0),bs [],bv false,bs [],bv false,bs [],Af],.agg [iv 12,iv 64]]) (by kernel_rfl) (Ua (AL (Mj (AL rfl (AL rfl (AL rfl (AL rfl (AL rfl (AL rfl (AL rfl (AL rfl (AL rfl (Aw _))))))))))) (AL rfl (Aw _)))) (dN (AJ (TJ (AJ (AE _) (AJ (Pz _) (AJ (AE _) (AJ (AE _) (AJ (AE _) (AJ (AE _) (AJ (AE _) (AJ (AE _) (AJ (Pz _) Aj)))))))))) (AJ (AE _) Aj)))
 refine AS ?_
 refine AN ?_
 refine jR ?_
 refine jG 0 1 ⟨[V 2 (pt 0 9),V 3 (pt 1 2),V 15 (bs a0)],[W 0 9 [bs [],Af,.s (.int .u8 0),bs [],bv false,bs [],bv false,bs [],Af],W 1 2 [iv 0,iv 0]],2⟩ ?_
 refine jK 1 (HR a0) ?_
 intro x1 h1
 refine jG 2 3 ⟨[V 2 (pt 0 9),V 3 (pt 1 2),V 4 (pt 2 4)],[W 0 9 [bs [],Af,.s (.int .u8 0),bs [],bv false,bs [],bv false,bs [],Af],W 1 2 [iv 0,iv 0],W 2 4 [bs x1,iv 0,iv 0,iv 0]],3⟩ ?_
 refine jN ?_
 refine AT ?_
 refine As (fun x4=>⟨[V 2 (pt 0 9),V 3 (pt 1 2),V 4 (pt 2 4)],[W 0 9 [bs [],Af,.s (.int .u8 0),bs [],bv false,bs [],bv false,bs [],Af],W 1 2 [iv 0,iv 0],W 2 4 [bs x1,iv x4,iv 0,iv 0]],3⟩) (fun x4=>.normal) ?_ ?_
 ·refine jR ?_
  refine jG 0 11 ⟨[V 2 (pt 0 9),V 3 (pt 1 2),V 4 (pt 2 4),V 29 (bv (decide (0 < (List.length x1:Int))))],[W 0 9 [bs [],Af,.s (.int .u8 0),bs [],bv false,bs [],bv false,bs [],Af],W 1 2 [iv 0,iv 0],W 2 4 [bs x1,iv 0,iv 0,iv 0]],3⟩ ?_
  refine Ak 11 7 (fun x6=>⟨[V 2 (pt 0 9),V 3 (pt 1 2),V 4 (pt 2 4),V 36 (bv x6)],[W 0 9 [bs [],Af,.s (.int .u8 0),bs [],bv false,bs [],bv false,bs [],Af],W 1 2 [iv 0,iv 0],W 2 4 [bs x1,iv 0,iv 0,iv 0]],3⟩) ?_ ?_
  ·refine jSp 29 ?_ ?_
   ·refine jG 0 4 ⟨[V 2 (pt 0 9),V 3 (pt 1 2),V 4 (pt 2 4),(29,.lit true),V 33 (bs x1)],[W 0 9 [bs [],Af,.s (.int .u8 0),bs [],bv false,bs [],bv false,bs [],Af],W 1 2 [iv 0,iv 0],W 2 4 [bs x1,iv 0,iv 0,iv 0]],3⟩ ?_
    refine An (i:=4) (mo:=idx x1 0) rfl rfl rfl rfl (fun _ hc=>Bd (kk:=.i64) (by kernel_rfl) (by kernel_rfl) (by kernel_rfl) hc) (fun _=>rfl) ?_
    intro x7 h7
    refine jG 5 2 ⟨[V 2 (pt 0 9),V 3 (pt 1 2),V 4 (pt 2 4),V 36 (bv (x7 == 118))],[W 0 9 [bs [],Af,.s (.int .u8 0),bs [],bv false,bs [],bv false,bs [],Af],W 1 2 [iv 0,iv 0],W 2 4 [bs x1,iv 0,iv 0,iv 0]],3⟩ ?_
    refine AQ rfl ?_
    exact AK rfl (wkR [(0,some 0),(1,some 1),(2,some 2)] (AH _) (pc (hC 0) (pc (hC 1) (pc (hC 2) AB))))
   refine jG 0 7 ⟨[V 2 (pt 0 9),V 3 (pt 1 2),V 4 (pt 2 4),V 36 (bv false)],[W 0 9 [bs [],Af,.s (.int .u8 0),bs [],bv false,bs [],bv false,bs [],Af],W 1 2 [iv 0,iv 0],W 2 4 [bs x1,iv 0,iv 0,iv 0]],3⟩ ?_
   refine AQ rfl ?_
   exact AK rfl (wkR [(0,some 0),(1,some 1),(2,some 2)] (AH _) (pc (hC 0) (pc (hC 1) (pc (hC 2) AB))))
  intro x6
  refine jN ?_
  refine jIf ?_ ?_
  ·refine jT ⟨[V 2 (pt 0 9),V 3 (pt 1 2),V 4 (pt 2 4)],[W 0 9 [bs [],Af,.s (.int .u8 0),bs [],bv false,bs [],bv false,bs [],Af],W 1 2 [iv 0,iv 0],W 2 4 [bs x1,iv (w64 (0 + 1)),iv 0,iv 0]],3⟩ ?_
   exact AK rfl (wkR [(0,some 0),(1,some 1),(2,some 2)] (AH _) (pc (hC 0) (pc (hC 1) (pc (hC 2) AB))))
  refine AS ?_
  exact AK rfl (wkR [(0,some 0),(1,some 1),(2,some 2)] (AH _) (pc (hC 0) (pc (hC 1) (pc (hC 2) AB))))
 intro x4
 refine AN ?_
 refine jS ⟨[V 2 (pt 0 9),V 3 (pt 1 2),V 4 (pt 2 4),V 5 (pt 3 9)],[W 0 9 [bs [],Af,.s (.int .u8 0),bs [],bv false,bs [],bv false,bs [],Af],W 1 2 [iv 0,iv 0],W 2 4 [bs x1,iv x4,iv 0,iv 0],W 3 9 [bs [],Af,.s (.int .u8 0),bs [],bv false,bs [],bv false,bs [],Af]],4⟩ ?_
 refine jR ?_
 refine jG 0 1 ⟨[V 2 (pt 0 9),V 3 (pt 1 2),V 4 (pt 2 4),V 5 (pt 3 9),V 44 (pt 2 4)],[W 0 9 [bs [],Af,.s (.int .u8 0),bs [],bv false,bs [],bv false,bs [],Af],W 1 2 [iv 0,iv 0],W 2 4 [bs x1,iv x4,iv 0,iv 0],W 3 9 [bs [],Af,.s (.int .u8 0),bs [],bv false,bs [],bv false,bs [],Af]],4⟩ ?_
 refine Am 1 [(0,some 2)] [(2,some 0)] (fun r:Str × Int=>[W 0 9 [bs [],Af,.s (.int .u8 0),bs [],bv false,bs [],bv false,bs [],Af],W 1 2 [iv 0,iv 0],W 2 4 [bs x1,iv r.2,iv 0,iv 0],W 3 9 [bs [],Af,.s (.int .u8 0),bs [],bv false,bs [],bv false,bs [],Af]]) (fun r:Str × Int=>bs r.1) 4 (QU x1 x4 0 0) (pc (hC 2) AB) (fun r=>(pc (.inl ⟨rfl,rfl⟩) (pc (.inl ⟨rfl,rfl⟩) (pc (.inr (hC 0)) (pc (.inl ⟨rfl,rfl⟩) AB))))) ?_
 rintro⟨x8,x9⟩ hm14
 refine jG 2 2 ⟨[V 2 (pt 0 9),V 3 (pt 1 2),V 4 (pt 2 4),V 5 (pt 3 9)],[W 0 9 [bs [],Af,.s (.int .u8 0),bs [],bv false,bs [],bv false,bs [],Af],W 1 2 [iv 0,iv 0],W 2 4 [bs x1,iv x9,iv 0,iv 0],W 3 9 [bs x8,Af,.s (.int .u8 0),bs [],bv false,bs [],bv false,bs [],Af]],4⟩ ?_
 refine jN ?_
 refine jR ?_
 refine jG 0 1 ⟨[V 2 (pt 0 9),V 3 (pt 1 2),V 4 (pt 2 4),V 5 (pt 3 9),V 47 (pt 2 4)],[W 0 9 [bs [],Af,.s (.int .u8 0),bs [],bv false,bs [],bv false,bs [],Af],W 1 2 [iv 0,iv 0],W 2 4 [bs x1,iv x9,iv 0,iv 0],W 3 9 [bs x8,Af,.s (.int .u8 0),bs [],bv false,bs [],bv false,bs [],Af]],4⟩ ?_
 refine Am 1 [(0,some 2)] [(2,some 0),(4,some 1)] (fun r:List Str × Int × Int × Int=>[W 0 9 [bs [],Af,.s (.int .u8 0),bs [],bv false,bs [],bv false,bs [],Af],W 1 2 [iv 0,iv 0],W 2 4 [bs x1,iv r.2.1,iv r.2.2.1,iv r.2.2.2],W 3 9 [bs x8,Af,.s (.int .u8 0),bs [],bv false,bs [],bv false,bs [],Af],(4,.rows 1 (List.map cS r.1))]) (fun r:List Str × Int × Int × Int=>.osl 4 0 (List.length r.1) 1) 5 (OW x1 x9 0 0) (pc (hC 2) AB) (fun r=>(pc (.inl ⟨rfl,rfl⟩) (pc (.inl ⟨rfl,rfl⟩) (pc (.inr (hC 0)) (pc (.inl ⟨rfl,rfl⟩) (pc (.inr (hL 1 (AM BS _))) AB)))))) ?_
 rintro⟨x10,x11,x12,x13⟩ hm13
 refine jG 2 2 ⟨[V 2 (pt 0 9),V 3 (pt 1 2),V 4 (pt 2 4),V 5 (pt 3 9)],[W 0 9 [bs [],Af,.s (.int .u8 0),bs [],bv false,bs [],bv false,bs [],Af],W 1 2 [iv 0,iv 0],W 2 4 [bs x1,iv x11,iv x12,iv x13],W 3 9 [bs x8,.osl 4 0 (List.length x10) 1,.s (.int .u8 0),bs [],bv false,bs [],bv false,bs [],Af],(4,.rows 1 (List.map cS x10))],5⟩ ?_
 refine jN ?_
 refine AT ?_
 refine As (fun (x23,x24,x25)=>⟨[V 2 (pt 0 9),V 3 (pt 1 2),V 4 (pt 2 4),V 5 (pt 3 9)],[W 0 9 [bs [],Af,.s (.int .u8 0),bs [],bv false,bs [],bv false,bs [],Af],W 1 2 [iv 0,iv 0],W 2 4 [bs x1,iv x23,iv x12,iv x13],W 3 9 [bs x8,.osl 4 0 (List.length x10) 1,.s (.int .u8 x24),bs x25,bv false,bs [],bv false,bs [],Af],(4,.rows 1 (List.map cS x10))],5⟩) (fun (x23,x24,x25)=>.normal) ?_ ?_
 ·refine jR ?_
  refine jG 0 2 ⟨[V 2 (pt 0 9),V 3 (pt 1 2),V 4 (pt 2 4),V 5 (pt 3 9),V 51 (pt 2 4),V 52 (.osl 5 0 (List.length ([[97,108,112,104,97],[97],[98,101,116,97],[98],[112,114,101,118,105,101,119],[112,114,101],[99],[114,99]])) 1)],[W 0 9 [bs [],Af,.s (.int .u8 0),bs [],bv false,bs [],bv false,bs [],Af],W 1 2 [iv 0,iv 0],W 2 4 [bs x1,iv x11,iv x12,iv x13],W 3 9 [bs x8,.osl 4 0 (List.length x10) 1,.s (.int .u8 0),bs [],bv false,bs [],bv false,bs [],Af],(4,.rows 1 (List.map cS x10)),(5,.rows 1 (List.map cS ([[97,108,112,104,97],[97],[98,101,116,97],[98],[112,114,101,118,105,101,119],[112,114,101],[99],[114,99]])))],6⟩ ?_
  refine Am 2 [(0,some 2),(1,some 5)] [(2,some 0),(5,some 1)] (fun r:Str × Bool × Int=>[W 0 9 [bs [],Af,.s (.int .u8 0),bs [],bv false,bs [],bv false,bs [],Af],W 1 2 [iv 0,iv 0],W 2 4 [bs x1,iv r.2.2,iv x12,iv x13],W 3 9 [bs x8,.osl 4 0 (List.length x10) 1,.s (.int .u8 0),bs [],bv false,bs [],bv false,bs [],Af],(4,.rows 1 (List.map cS x10)),(5,.rows 1 (List.map cS ([[97,108,112,104,97],[97],[98,101,116,97],[98],[112,114,101,118,105,101,119],[112,114,101],[99],[114,99]])))]) (fun r:Str × Bool × Int=>.tup [bs r.1,bv r.2.1]) 8 (Fu x1 x11 x12 x13 ([[97,108,112,104,97],[97],[98,101,116,97],[98],[112,114,101,118,105,101,119],[112,114,101],[99],[114,99]])) (pc (hC 2) (pc (hL 5 (AM BS _)) AB)) (fun r=>(pc (.inl ⟨rfl,rfl⟩) (pc (.inl ⟨rfl,rfl⟩) (pc (.inr (hC 0)) (pc (.inl ⟨rfl,rfl⟩) (pc (.inl ⟨rfl,rfl⟩) (pc (.inr (hL 1 (AM BS _))) AB))))))) ?_
  rintro⟨x26,x27,x28⟩ hm4
  refine jG 3 5 ⟨[V 2 (pt 0 9),V 3 (pt 1 2),V 4 (pt 2 4),V 5 (pt 3 9),V 6 (bs x26),V 7 (bv x27)],[W 0 9 [bs [],Af,.s (.int .u8 0),bs [],bv false,bs [],bv false,bs [],Af],W 1 2 [iv 0,iv 0],W 2 4 [bs x1,iv x28,iv x12,iv x13],W 3 9 [bs x8,.osl 4 0 (List.length x10) 1,.s (.int .u8 0),bs [],bv false,bs [],bv false,bs [],Af],(4,.rows 1 (List.map cS x10))],8⟩ ?_
  refine jN ?_
  refine jS ⟨[V 2 (pt 0 9),V 3 (pt 1 2),V 4 (pt 2 4),V 5 (pt 3 9),V 6 (bs x26),V 56 (bv x27)],[W 0 9 [bs [],Af,.s (.int .u8 0),bs [],bv false,bs [],bv false,bs [],Af],W 1 2 [iv 0,iv 0],W 2 4 [bs x1,iv x28,iv x12,iv x13],W 3 9 [bs x8,.osl 4 0 (List.length x10) 1,.s (.int .u8 0),bs [],bv false,bs [],bv false,bs [],Af],(4,.rows 1 (List.map cS x10))],8⟩ ?_
  refine jIf ?_ ?_
  ·refine jR ?_
   refine jG 0 1 ⟨[V 2 (pt 0 9),V 3 (pt 1 2),V 4 (pt 2 4),V 5 (pt 3 9),V 6 (bs x26),V 57 (bs x26)],[W 0 9 [bs [],Af,.s (.int .u8 0),bs [],bv false,bs [],bv false,bs [],Af],W 1 2 [iv 0,iv 0],W 2 4 [bs x1,iv x28,iv x12,iv x13],W 3 9 [bs x8,.osl 4 0 (List.length x10) 1,.s (.int .u8 0),bs [],bv false,bs [],bv false,bs [],Af],(4,.rows 1 (List.map cS x10))],8⟩ ?_
   refine An (i:=1) (mo:=idx x26 0) rfl rfl rfl rfl (fun _ hc=>Bd (kk:=.i64) (by kernel_rfl) (by kernel_rfl) (by kernel_rfl) hc) (fun _=>rfl) ?_
   intro x29 h29
   refine jG 2 2 ⟨[V 2 (pt 0 9),V 3 (pt 1 2),V 4 (pt 2 4),V 5 (pt 3 9),V 6 (bs x26)],[W 0 9 [bs [],Af,.s (.int .u8 0),bs [],bv false,bs [],bv false,bs [],Af],W 1 2 [iv 0,iv 0],W 2 4 [bs x1,iv x28,iv x12,iv x13],W 3 9 [bs x8,.osl 4 0 (List.length x10) 1,.s (.int .u8 x29),bs [],bv false,bs [],bv false,bs [],Af],(4,.rows 1 (List.map cS x10))],8⟩ ?_
   refine jN ?_
   refine AT ?_
   refine As (fun x32=>⟨[V 2 (pt 0 9),V 3 (pt 1 2),V 4 (pt 2 4),V 5 (pt 3 9)],[W 0 9 [bs [],Af,.s (.int .u8 0),bs [],bv false,bs [],bv false,bs [],Af],W 1 2 [iv 0,iv 0],W 2 4 [bs x1,iv x28,iv x12,iv x13],W 3 9 [bs x8,.osl 4 0 (List.length x10) 1,.s (.int .u8 x32),bs [],bv false,bs [],bv false,bs [],Af],(4,.rows 1 (List.map cS x10))],5⟩) (fun x32=>.normal) ?_ ?_
   ·refine jR ?_
    refine jG 0 1 ⟨[V 2 (pt 0 9),V 3 (pt 1 2),V 4 (pt 2 4),V 5 (pt 3 9),V 60 (bs x26)],[W 0 9 [bs [],Af,.s (.int .u8 0),bs [],bv false,bs [],bv false,bs [],Af],W 1 2 [iv 0,iv 0],W 2 4 [bs x1,iv x28,iv x12,iv x13],W 3 9 [bs x8,.osl 4 0 (List.length x10) 1,.s (.int .u8 x29),bs [],bv false,bs [],bv false,bs [],Af],(4,.rows 1 (List.map cS x10))],8⟩ ?_
    refine An (i:=1) (mo:=Fj x26 0 1) rfl rfl rfl rfl (fun _ hc=>He (by kernel_rfl) (by kernel_rfl) (by kernel_rfl) (by kernel_rfl) hc) (fun _=>rfl) ?_
    intro x33 h33
    refine aE (i:=2) rfl rfl (vs:=[bs x33,bs [99,112,114]]) (by kernel_rfl) rfl (M3 x33 [99,112,114]) (fun _=>rfl) ?_
    intro x34 h34
    refine jN ?_
    refine jIf ?_ ?_
    ·refine jT ⟨[V 2 (pt 0 9),V 3 (pt 1 2),V 4 (pt 2 4),V 5 (pt 3 9)],[W 0 9 [bs [],Af,.s (.int .u8 0),bs [],bv false,bs [],bv false,bs [],Af],W 1 2 [iv 0,iv 0],W 2 4 [bs x1,iv x28,iv x12,iv x13],W 3 9 [bs x8,.osl 4 0 (List.length x10) 1,.s (.int .u8 114),bs [],bv false,bs [],bv false,bs [],Af],(4,.rows 1 (List.map cS x10))],8⟩ ?_
     exact AK rfl (wkR [(0,some 0),(1,some 1),(2,some 2),(3,some 3),(4,some 4)] (AH _) (pc (hC 0) (pc (hC 1) (pc (hC 2) (pc (hC 3) (pc (hL 4 (AM BS _)) AB))))))
    refine AS ?_
    exact AK rfl (wkR [(0,some 0),(1,some 1),(2,some 2),(3,some 3),(4,some 4)] (AH _) (pc (hC 0) (pc (hC 1) (pc (hC 2) (pc (hC 3) (pc (hL 4 (AM BS _)) AB))))))
   intro x32
   refine AN ?_
   refine CA ?_
   refine jG 0 1 ⟨[V 2 (pt 0 9),V 3 (pt 1 2),V 4 (pt 2 4),V 5 (pt 3 9),V 64 (pt 2 4)],[W 0 9 [bs [],Af,.s (.int .u8 0),bs [],bv false,bs [],bv false,bs [],Af],W 1 2 [iv 0,iv 0],W 2 4 [bs x1,iv x28,iv x12,iv x13],W 3 9 [bs x8,.osl 4 0 (List.length x10) 1,.s (.int .u8 x32),bs [],bv false,bs [],bv false,bs [],Af],(4,.rows 1 (List.map cS x10))],5⟩ ?_
   refine Am 1 [(0,some 2)] [(2,some 0)] (fun r:Str × Int=>[W 0 9 [bs [],Af,.s (.int .u8 0),bs [],bv false,bs [],bv false,bs [],Af],W 1 2 [iv 0,iv 0],W 2 4 [bs x1,iv r.2,iv x12,iv x13],W 3 9 [bs x8,.osl 4 0 (List.length x10) 1,.s (.int .u8 x32),bs [],bv false,bs [],bv false,bs [],Af],(4,.rows 1 (List.map cS x10))]) (fun r:Str × Int=>bs r.1) 5 (E2 x1 x28 x12 x13) (pc (hC 2) AB) (fun r=>(pc (.inl ⟨rfl,rfl⟩) (pc (.inl ⟨rfl,rfl⟩) (pc (.inr (hC 0)) (pc (.inl ⟨rfl,rfl⟩) (pc (.inl ⟨rfl,rfl⟩) AB)))))) ?_
   rintro⟨x35,x36⟩ hm3
   refine jG 2 2 ⟨[V 2 (pt 0 9),V 3 (pt 1 2),V 4 (pt 2 4),V 5 (pt 3 9)],[W 0 9 [bs [],Af,.s (.int .u8 0),bs [],bv false,bs [],bv false,bs [],Af],W 1 2 [iv 0,iv 0],W 2 4 [bs x1,iv x36,iv x12,iv x13],W 3 9 [bs x8,.osl 4 0 (List.length x10) 1,.s (.int .u8 x32),bs x35,bv false,bs [],bv false,bs [],Af],(4,.rows 1 (List.map cS x10))],5⟩ ?_
   refine AQ rfl ?_
   exact AK rfl (wkR [(0,some 0),(1,some 1),(2,some 2),(3,some 3),(4,some 4)] (AH _) (pc (hC 0) (pc (hC 1) (pc (hC 2) (pc (hC 3) (pc (hL 4 (AM BS _)) AB))))))
  refine AS ?_
  exact AK rfl (wkR [(0,some 0),(1,some 1),(2,some 2),(3,some 3),(4,some 4)] (AH _) (pc (hC 0) (pc (hC 1) (pc (hC 2) (pc (hC 3) (pc (hL 4 (AM BS _)) AB))))))
 rintro⟨x23,x24,x25⟩
 refine AN ?_
 refine AT ?_
 refine As (fun (x40,x41,x42,x43)=>⟨[V 2 (pt 0 9),V 3 (pt 1 2),V 4 (pt 2 4),V 5 (pt 3 9)],[W 0 9 [bs [],Af,.s (.int .u8 0),bs [],bv false,bs [],bv false,bs [],Af],W 1 2 [iv 0,iv 0],W 2 4 [bs x1,iv x40,iv x12,iv x13],W 3 9 [bs x8,.osl 4 0 (List.length x10) 1,.s (.int .u8 x24),bs x25,bv x41,bs x42,bv false,bs [],.osl 5 0 (List.length x43) 1],(4,.rows 1 (List.map cS x10)),(5,.rows 1 (List.map cS x43))],6⟩) (fun (x40,x41,x42,x43)=>.normal) ?_ ?_
 ·refine jS ⟨[V 2 (pt 0 9),V 3 (pt 1 2),V 4 (pt 2 4),V 5 (pt 3 9),V 72 (bv (x12 == 0))],[W 0 9 [bs [],Af,.s (.int .u8 0),bs [],bv false,bs [],bv false,bs [],Af],W 1 2 [iv 0,iv 0],W 2 4 [bs x1,iv x23,iv x12,iv x13],W 3 9 [bs x8,.osl 4 0 (List.length x10) 1,.s (.int .u8 x24),bs x25,bv false,bs [],bv false,bs [],Af],(4,.rows 1 (List.map cS x10))],5⟩ ?_
  refine jIf ?_ ?_
  ·refine CA ?_
   refine jG 0 1 ⟨[V 2 (pt 0 9),V 3 (pt 1 2),V 4 (pt 2 4),V 5 (pt 3 9),V 73 (pt 2 4)],[W 0 9 [bs [],Af,.s (.int .u8 0),bs [],bv false,bs [],bv false,bs [],Af],W 1 2 [iv 0,iv 0],W 2 4 [bs x1,iv x23,iv x12,iv x13],W 3 9 [bs x8,.osl 4 0 (List.length x10) 1,.s (.int .u8 x24),bs x25,bv false,bs [],bv false,bs [],Af],(4,.rows 1 (List.map cS x10))],5⟩ ?_
   refine Am 1 [(0,some 2),(1,some 3),(2,some 4),(3,none)] [(2,some 0),(3,some 1),(4,some 2),(5,some 3)] (fun r:Int × Bool × Str=>[W 0 9 [bs [],Af,.s (.int .u8 0),bs [],bv false,bs [],bv false,bs [],Af],W 1 2 [iv 0,iv 0],W 2 4 [bs x1,iv r.1,iv x12,iv x13],W 3 9 [bs x8,.osl 4 0 (List.length x10) 1,.s (.int .u8 x24),bs x25,bv r.2.1,bs r.2.2,bv false,bs [],.osl 5 0 (List.length ([]:List Str)) 1],(4,.rows 1 (List.map cS x10)),(5,.rows 1 (List.map cS ([]:List Str)))]) (fun r:Int × Bool × Str=>.tup []) 6 (Sb x1 x23 x12 x13 x8 x10 x24 x25 false [] false [] ([]:List Str)) (pc (hC 2) (pc (hC 3) (pc (hL 4 (AM BS _)) (pc hZ AB)))) (fun r=>(pc (.inl ⟨rfl,rfl⟩) (pc (.inl ⟨rfl,rfl⟩) (pc (.inr (hC 0)) (pc (.inr (hC 1)) (pc (.inr (hL 2 (AM BS _))) (pc (.inr (hL 3 (AM BS _))) AB))))))) ?_
   rintro⟨x44,x45,x46⟩ hm6
   refine AQ rfl ?_
   exact AK rfl (wkR [(0,some 0),(1,some 1),(2,some 2),(3,some 3),(4,some 4),(5,some 5)] (AH _) (pc (hC 0) (pc (hC 1) (pc (hC 2) (pc (hC 3) (pc (hL 4 (AM BS _)) (pc (hL 5 (AM BS _)) AB)))))))
  refine AS ?_
  exact AK rfl (wkR [(0,some 0),(1,some 1),(2,some 2),(3,some 3),(4,some 4),(5,none)] (AH _) (pc (hC 0) (pc (hC 1) (pc (hC 2) (pc (hC 3) (pc (hL 4 (AM BS _)) (pc hZ AB)))))))
 rintro⟨x40,x41,x42,x43⟩
 refine AN ?_
 refine AT ?_
 refine As (fun (x52,x53,x54)=>⟨[V 2 (pt 0 9),V 3 (pt 1 2),V 4 (pt 2 4),V 5 (pt 3 9)],[W 0 9 [bs [],Af,.s (.int .u8 0),bs [],bv false,bs [],bv false,bs [],Af],W 1 2 [iv 0,iv 0],W 2 4 [bs x1,iv x52,iv x12,iv x13],W 3 9 [bs x8,.osl 4 0 (List.length x10) 1,.s (.int .u8 x24),bs x25,bv x41,bs x42,bv x53,bs x54,.osl 5 0 (List.length x43) 1],(4,.rows 1 (List.map cS x10)),(5,.rows 1 (List.map cS x43))],6⟩) (fun (x52,x53,x54)=>.normal) ?_ ?_
 ·refine jR ?_
  refine jG 0 2 ⟨[V 2 (pt 0 9),V 3 (pt 1 2),V 4 (pt 2 4),V 5 (pt 3 9),V 76 (pt 2 4),V 77 (.osl 6 0 (List.length ([[100,101,118]])) 1)],[W 0 9 [bs [],Af,.s (.int .u8 0),bs [],bv false,bs [],bv false,bs [],Af],W 1 2 [iv 0,iv 0],W 2 4 [bs x1,iv x40,iv x12,iv x13],W 3 9 [bs x8,.osl 4 0 (List.length x10) 1,.s (.int .u8 x24),bs x25,bv x41,bs x42,bv false,bs [],.osl 5 0 (List.length x43) 1],(4,.rows 1 (List.map cS x10)),(5,.rows 1 (List.map cS x43)),(6,.rows 1 (List.map cS ([[100,101,118]])))],7⟩ ?_
  refine Am 2 [(0,some 2),(1,some 6)] [(2,some 0),(6,some 1)] (fun r:Str × Bool × Int=>[W 0 9 [bs [],Af,.s (.int .u8 0),bs [],bv false,bs [],bv false,bs [],Af],W 1 2 [iv 0,iv 0],W 2 4 [bs x1,iv r.2.2,iv x12,iv x13],W 3 9 [bs x8,.osl 4 0 (List.length x10) 1,.s (.int .u8 x24),bs x25,bv x41,bs x42,bv false,bs [],.osl 5 0 (List.length x43) 1],(4,.rows 1 (List.map cS x10)),(5,.rows 1 (List.map cS x43)),(6,.rows 1 (List.map cS ([[100,101,118]])))]) (fun r:Str × Bool × Int=>.tup [bs r.1,bv r.2.1]) 9 (Fu x1 x40 x12 x13 ([[100,101,118]])) (pc (hC 2) (pc (hL 6 (AM BS _)) AB)) (fun r=>(pc (.inl ⟨rfl,rfl⟩) (pc (.inl ⟨rfl,rfl⟩) (pc (.inr (hC 0)) (pc (.inl ⟨rfl,rfl⟩) (pc (.inl ⟨rfl,rfl⟩) (pc (.inl ⟨rfl,rfl⟩) (pc (.inr (hL 1 (AM BS _))) AB)))))))) ?_
  rintro⟨x55,x56,x57⟩ hm10
  refine jG 3 5 ⟨[V 2 (pt 0 9),V 3 (pt 1 2),V 4 (pt 2 4),V 5 (pt 3 9),V 9 (bv x56)],[W 0 9 [bs [],Af,.s (.int .u8 0),bs [],bv false,bs [],bv false,bs [],Af],W 1 2 [iv 0,iv 0],W 2 4 [bs x1,iv x57,iv x12,iv x13],W 3 9 [bs x8,.osl 4 0 (List.length x10) 1,.s (.int .u8 x24),bs x25,bv x41,bs x42,bv false,bs [],.osl 5 0 (List.length x43) 1],(4,.rows 1 (List.map cS x10)),(5,.rows 1 (List.map cS x43))],9⟩ ?_
  refine jN ?_
  refine jS ⟨[V 2 (pt 0 9),V 3 (pt 1 2),V 4 (pt 2 4),V 5 (pt 3 9),V 81 (bv x56)],[W 0 9 [bs [],Af,.s (.int .u8 0),bs [],bv false,bs [],bv false,bs [],Af],W 1 2 [iv 0,iv 0],W 2 4 [bs x1,iv x57,iv x12,iv x13],W 3 9 [bs x8,.osl 4 0 (List.length x10) 1,.s (.int .u8 x24),bs x25,bv x41,bs x42,bv false,bs [],.osl 5 0 (List.length x43) 1],(4,.rows 1 (List.map cS x10)),(5,.rows 1 (List.map cS x43))],9⟩ ?_
  refine jIf ?_ ?_
  ·refine CA ?_
   refine jG 0 1 ⟨[V 2 (pt 0 9),V 3 (pt 1 2),V 4 (pt 2 4),V 5 (pt 3 9),V 82 (pt 2 4)],[W 0 9 [bs [],Af,.s (.int .u8 0),bs [],bv false,bs [],bv false,bs [],Af],W 1 2 [iv 0,iv 0],W 2 4 [bs x1,iv x57,iv x12,iv x13],W 3 9 [bs x8,.osl 4 0 (List.length x10) 1,.s (.int .u8 x24),bs x25,bv x41,bs x42,bv false,bs [],.osl 5 0 (List.length x43) 1],(4,.rows 1 (List.map cS x10)),(5,.rows 1 (List.map cS x43))],9⟩ ?_
   refine Am 1 [(0,some 2)] [(2,some 0)] (fun r:Str × Int=>[W 0 9 [bs [],Af,.s (.int .u8 0),bs [],bv false,bs [],bv false,bs [],Af],W 1 2 [iv 0,iv 0],W 2 4 [bs x1,iv r.2,iv x12,iv x13],W 3 9 [bs x8,.osl 4 0 (List.length x10) 1,.s (.int .u8 x24),bs x25,bv x41,bs x42,bv false,bs [],.osl 5 0 (List.length x43) 1],(4,.rows 1 (List.map cS x10)),(5,.rows 1 (List.map cS x43))]) (fun r:Str × Int=>bs r.1) 9 (E2 x1 x57 x12 x13) (pc (hC 2) AB) (fun r=>(pc (.inl ⟨rfl,rfl⟩) (pc (.inl ⟨rfl,rfl⟩) (pc (.inr (hC 0)) (pc (.inl ⟨rfl,rfl⟩) (pc (.inl ⟨rfl,rfl⟩) (pc (.inl ⟨rfl,rfl⟩) AB))))))) ?_
   rintro⟨x58,x59⟩ hm9
   refine jG 2 4 ⟨[V 2 (pt 0 9),V 3 (pt 1 2),V 4 (pt 2 4),V 5 (pt 3 9)],[W 0 9 [bs [],Af,.s (.int .u8 0),bs [],bv false,bs [],bv false,bs [],Af],W 1 2 [iv 0,iv 0],W 2 4 [bs x1,iv x59,iv x12,iv x13],W 3 9 [bs x8,.osl 4 0 (List.length x10) 1,.s (.int .u8 x24),bs x25,bv x41,bs x42,bv true,bs x58,.osl 5 0 (List.length x43) 1],(4,.rows 1 (List.map cS x10)),(5,.rows 1 (List.map cS x43))],9⟩ ?_
   refine AQ rfl ?_
   exact AK rfl (wkR [(0,some 0),(1,some 1),(2,some 2),(3,some 3),(4,some 4),(5,some 5)] (AH _) (pc (hC 0) (pc (hC 1) (pc (hC 2) (pc (hC 3) (pc (hL 4 (AM BS _)) (pc (hL 5 (AM BS _)) AB)))))))
  refine AS ?_
  exact AK rfl (wkR [(0,some 0),(1,some 1),(2,some 2),(3,some 3),(4,some 4),(5,some 5)] (AH _) (pc (hC 0) (pc (hC 1) (pc (hC 2) (pc (hC 3) (pc (hL 4 (AM BS _)) (pc (hL 5 (AM BS _)) AB)))))))
 rintro⟨x52,x53,x54⟩
 refine AN ?_
 refine AT ?_
 refine As (fun (x64,x65,x66,x67)=>⟨[V 2 (pt 0 9),V 3 (pt 1 2),V 4 (pt 2 4),V 5 (pt 3 9)],[W 0 9 [bs [],Af,.s (.int .u8 0),bs [],bv false,bs [],bv false,bs [],Af],W 1 2 [iv 0,iv 0],W 2 4 [bs x1,iv x64,iv x65,iv x66],W 3 9 [bs x8,.osl 4 0 (List.length x10) 1,.s (.int .u8 x24),bs x25,bv x41,bs x42,bv x53,bs x54,.osl 5 0 (List.length x67) 1],(4,.rows 1 (List.map cS x10)),(5,.rows 1 (List.map cS x67))],6⟩) (fun (x64,x65,x66,x67)=>.normal) ?_ ?_
 ·refine jS ⟨[V 2 (pt 0 9),V 3 (pt 1 2),V 4 (pt 2 4),V 5 (pt 3 9),V 91 (bv (x12 == 0))],[W 0 9 [bs [],Af,.s (.int .u8 0),bs [],bv false,bs [],bv false,bs [],Af],W 1 2 [iv 0,iv 0],W 2 4 [bs x1,iv x52,iv x12,iv x13],W 3 9 [bs x8,.osl 4 0 (List.length x10) 1,.s (.int .u8 x24),bs x25,bv x41,bs x42,bv x53,bs x54,.osl 5 0 (List.length x43) 1],(4,.rows 1 (List.map cS x10)),(5,.rows 1 (List.map cS x43))],6⟩ ?_
  refine jIf ?_ ?_
  ·refine CA ?_
   refine jG 0 1 ⟨[V 2 (pt 0 9),V 3 (pt 1 2),V 4 (pt 2 4),V 5 (pt 3 9),V 92 (pt 2 4)],[W 0 9 [bs [],Af,.s (.int .u8 0),bs [],bv false,bs [],bv false,bs [],Af],W 1 2 [iv 0,iv 0],W 2 4 [bs x1,iv x52,iv x12,iv x13],W 3 9 [bs x8,.osl 4 0 (List.length x10) 1,.s (.int .u8 x24),bs x25,bv x41,bs x42,bv x53,bs x54,.osl 5 0 (List.length x43) 1],(4,.rows 1 (List.map cS x10)),(5,.rows 1 (List.map cS x43))],6⟩ ?_
   refine Am 1 [(0,some 2)] [(2,some 0),(6,some 1)] (fun r:List Str × Int × Int × Int=>[W 0 9 [bs [],Af,.s (.int .u8 0),bs [],bv false,bs [],bv false,bs [],Af],W 1 2 [iv 0,iv 0],W 2 4 [bs x1,iv r.2.1,iv r.2.2.1,iv r.2.2.2],W 3 9 [bs x8,.osl 4 0 (List.length x10) 1,.s (.int .u8 x24),bs x25,bv x41,bs x42,bv x53,bs x54,.osl 5 0 (List.length x43) 1],(4,.rows 1 (List.map cS x10)),(5,.rows 1 (List.map cS x43)),(6,.rows 1 (List.map cS r.1))]) (fun r:List Str × Int × Int × Int=>.osl 6 0 (List.length r.1) 1) 7 (Qo x1 x52 x12 x13) (pc (hC 2) AB) (fun r=>(pc (.inl ⟨rfl,rfl⟩) (pc (.inl ⟨rfl,rfl⟩) (pc (.inr (hC 0)) (pc (.inl ⟨rfl,rfl⟩) (pc (.inl ⟨rfl,rfl⟩) (pc (.inl ⟨rfl,rfl⟩) (pc (.inr (hL 1 (AM BS _))) AB)))))))) ?_
   rintro⟨x68,x69,x70,x71⟩ hm12
   refine jG 2 2 ⟨[V 2 (pt 0 9),V 3 (pt 1 2),V 4 (pt 2 4),V 5 (pt 3 9)],[W 0 9 [bs [],Af,.s (.int .u8 0),bs [],bv false,bs [],bv false,bs [],Af],W 1 2 [iv 0,iv 0],W 2 4 [bs x1,iv x69,iv x70,iv x71],W 3 9 [bs x8,.osl 4 0 (List.length x10) 1,.s (.int .u8 x24),bs x25,bv x41,bs x42,bv x53,bs x54,.osl 6 0 (List.length x68) 1],(4,.rows 1 (List.map cS x10)),(6,.rows 1 (List.map cS x68))],7⟩ ?_
   refine AQ rfl ?_
   exact AK rfl (wkR [(0,some 0),(1,some 1),(2,some 2),(3,some 3),(4,some 4),(5,some 6)] (AH _) (pc (hC 0) (pc (hC 1) (pc (hC 2) (pc (hC 3) (pc (hL 4 (AM BS _)) (pc (hL 6 (AM BS _)) AB)))))))
  refine AS ?_
  exact AK rfl (wkR [(0,some 0),(1,some 1),(2,some 2),(3,some 3),(4,some 4),(5,some 5)] (AH _) (pc (hC 0) (pc (hC 1) (pc (hC 2) (pc (hC 3) (pc (hL 4 (AM BS _)) (pc (hL 5 (AM BS _)) AB)))))))
 rintro⟨x64,x65,x66,x67⟩
 refine AN ?_
 refine AT ?_
 refine As (fun (x72,x73)=>⟨[V 2 (pt 0 9),V 3 (pt 1 2),V 4 (pt 2 4),V 5 (pt 3 9)],[W 0 9 [bs [],Af,.s (.int .u8 0),bs [],bv false,bs [],bv false,bs [],Af],W 1 2 [iv 0,iv 0],W 2 4 [bs x1,iv x64,iv x72,iv x73],W 3 9 [bs x8,.osl 4 0 (List.length x10) 1,.s (.int .u8 x24),bs x25,bv x41,bs x42,bv x53,bs x54,.osl 5 0 (List.length x67) 1],(4,.rows 1 (List.map cS x10)),(5,.rows 1 (List.map cS x67))],6⟩) (fun (x72,x73)=>.normal) ?_ ?_
 ·refine jS ⟨[V 2 (pt 0 9),V 3 (pt 1 2),V 4 (pt 2 4),V 5 (pt 3 9),V 112 (bv ((x65 == 0) && (decide (x64 < (List.length x1:Int)))))],[W 0 9 [bs [],Af,.s (.int .u8 0),bs [],bv false,bs [],bv false,bs [],Af],W 1 2 [iv 0,iv 0],W 2 4 [bs x1,iv x64,iv x65,iv x66],W 3 9 [bs x8,.osl 4 0 (List.length x10) 1,.s (.int .u8 x24),bs x25,bv x41,bs x42,bv x53,bs x54,.osl 5 0 (List.length x67) 1],(4,.rows 1 (List.map cS x10)),(5,.rows 1 (List.map cS x67))],6⟩ ?_
  refine jIf ?_ ?_
  ·refine jT ⟨[V 2 (pt 0 9),V 3 (pt 1 2),V 4 (pt 2 4),V 5 (pt 3 9)],[W 0 9 [bs [],Af,.s (.int .u8 0),bs [],bv false,bs [],bv false,bs [],Af],W 1 2 [iv 0,iv 0],W 2 4 [bs x1,iv x64,iv 10,iv x64],W 3 9 [bs x8,.osl 4 0 (List.length x10) 1,.s (.int .u8 x24),bs x25,bv x41,bs x42,bv x53,bs x54,.osl 5 0 (List.length x67) 1],(4,.rows 1 (List.map cS x10)),(5,.rows 1 (List.map cS x67))],6⟩ ?_
   exact AK rfl (wkR [(0,some 0),(1,some 1),(2,some 2),(3,some 3),(4,some 4),(5,some 5)] (AH _) (pc (hC 0) (pc (hC 1) (pc (hC 2) (pc (hC 3) (pc (hL 4 (AM BS _)) (pc (hL 5 (AM BS _)) AB)))))))
  refine AS ?_
  exact AK rfl (wkR [(0,some 0),(1,some 1),(2,some 2),(3,some 3),(4,some 4),(5,some 5)] (AH _) (pc (hC 0) (pc (hC 1) (pc (hC 2) (pc (hC 3) (pc (hL 4 (AM BS _)) (pc (hL 5 (AM BS _)) AB)))))))
 rintro⟨x72,x73⟩
 refine AN ?_
 refine AT ?_
 refine jS ⟨[V 2 (pt 0 9),V 3 (pt 1 2),V 4 (pt 2 4),V 5 (pt 3 9),V 126 (bv (x72 != 0))],[W 0 9 [bs [],Af,.s (.int .u8 0),bs [],bv false,bs [],bv false,bs [],Af],W 1 2 [iv 0,iv 0],W 2 4 [bs x1,iv x64,iv x72,iv x73],W 3 9 [bs x8,.osl 4 0 (List.length x10) 1,.s (.int .u8 x24),bs x25,bv x41,bs x42,bv x53,bs x54,.osl 5 0 (List.length x67) 1],(4,.rows 1 (List.map cS x10)),(5,.rows 1 (List.map cS x67))],6⟩ ?_
 refine jIf ?_ ?_
 ·refine AT ?_
  refine wL Ym [(130,2)] ?_
  refine jG 0 7 ⟨[V 2 (pt 0 9),V 3 (pt 1 2),V 130 (.ptr 2 0 4 2)],[W 0 9 [bs [],Af,.s (.int .u8 0),bs [],bv false,bs [],bv false,bs [],Af],W 1 2 [iv x72,iv x73],W 2 4 [bs x1,iv x64,iv x72,iv x73]],6⟩ ?_
  refine AQ rfl ?_
  refine wU ?_
  refine AN ?_
  refine AO ?_
  refine AZ ?_
  exact AP (.inr rfl) (v:=.tup [.agg [bs [],Af,.s (.int .u8 0),bs [],bv false,bs [],bv false,bs [],Af],.agg [iv x72,iv x73]]) (by kernel_rfl) (Ua (AL (Mj (AL rfl (AL rfl (AL rfl (AL rfl (AL rfl (AL rfl (AL rfl (AL rfl (AL rfl (Aw _))))))))))) (AL rfl (Aw _)))) (dN (AJ (TJ (AJ (AE _) (AJ (Pz _) (AJ (AE _) (AJ (AE _) (AJ (AE _) (AJ (AE _) (AJ (AE _) (AJ (AE _) (AJ (Pz _) Aj)))))))))) (AJ (AE _) Aj)))
 refine AS ?_
 refine AN ?_
 refine jS ⟨[V 2 (pt 0 9),V 3 (pt 1 2)],[W 0 9 [bs x8,.osl 4 0 (List.length x10) 1,.s (.int .u8 x24),bs x25,bv x41,bs x42,bv x53,bs x54,.osl 5 0 (List.length x67) 1],W 1 2 [iv 0,iv 0],(4,.rows 1 (List.map cS x10)),(5,.rows 1 (List.map cS x67))],6⟩ ?_
 refine AO ?_
 exact AP (.inr rfl) (v:=.tup [.agg [bs x8,.osl 4 0 (List.length x10) 1,.s (.int .u8 x24),bs x25,bv x41,bs x42,bv x53,bs x54,.osl 5 0 (List.length x67) 1],.agg [iv 0,iv 0]]) (by kernel_rfl) (Ua (AL (Mj (AL rfl (AL (Dc qY (by kernel_rfl)) (AL rfl (AL rfl (AL rfl (AL rfl (AL rfl (AL rfl (AL (Dc qY (by kernel_rfl)) (Aw _))))))))))) (AL rfl (Aw _)))) (dN (AJ (TJ (AJ (AE _) (AJ (AE _) (AJ (AE _) (AJ (AE _) (AJ (AE _) (AJ (AE _) (AJ (AE _) (AJ (AE _) (AJ (AE _) Aj)))))))))) (AJ (AE _) Aj))))
abbrev ZT:List LO:=[lo 4 (.assign (.const (.bool false))) 4]
abbrev ZO:List LO:=[lm 5 1 4,lo 6 (.unOp .not 4 (.tmp 5)) 4]
abbrev Zj:List LO:=[lm 7 0 9,lo 8 (.binOp .eql 9 (.tmp 7) (.const (.string ⟨#[]⟩)) 9) 4,lo 4 (.assign (.tmp 8)) 4]
abbrev Zb:List LO:=[lm 9 0 9,lo 10 (.binOp .neq 9 (.tmp 9) (.const (.string ⟨#[]⟩)) 9) 4,lm 11 10 4,lmg 12 0 9 11 true,lg 13 (.call ⟨.value (.func 69),#[.tmp 12,.const (.int .i64 0),.const (.int .i64 1)],#[9,3,3]⟩) 3 11 true,lmg 14 0 9 11 true,lg 15 (.call ⟨.builtin .len,#[.tmp 14],#[9]⟩) 3 11 true,lg 16 (.binOp .eql 3 (.tmp 13) (.tmp 15) 3) 4 11 true,lo 17 (.pick (.tmp 11) (.tmp 16) (.const (.bool false))) 4,lm 18 17 4,lmg 19 0 9 18 true,lg 20 (.call ⟨.value (.func 86),#[.tmp 19],#[9]⟩) 9 18 true,lmg 21 0 9 18 true,lg 22 (.binOp .eql 9 (.tmp 20) (.tmp 21) 9) 4 18 true,lo 23 (.pick (.tmp 18) (.tmp 22) (.const (.bool false))) 4,lo 4 (.assign (.tmp 23)) 4]
abbrev TP:LC:=.seq (.reg false ZT) (.seq (.seq (.reg false ZO) (.cond (.tmp 6) (.seq (.reg false Zj) .ret) .skip)) (.seq (.reg false Zb) .ret))
theorem cN:BE E 111 24 [.tmp 4] TP:=⟨⟨Go.Proofs.Tryz.f111,by kernel_rfl,by kernel_rfl,by kernel_rfl,by kernel_rfl,by kernel_rfl⟩,rfl,rfl⟩
noncomputable def Dx (a0:Str) (a1:Bool):Option (Bool):=(if (!a1)=true then some (a0 == []) else Option.bind (if (!(a0 == []))=true then Option.bind (Cq a0 0 1) (fun x3=>some (x3 == (List.length a0:Int))) else some false:Option (Bool)) (fun x2=>Option.bind (if x2=true then Option.bind (DF a0) (fun x6=>some (x6 == a0)) else some false:Option (Bool)) (fun x5=>some x5)))
theorem FU (a0:Str) (a1:Bool):Ct E 111 [bs a0,bv a1] (Dx a0 a1) (fun r:Bool=>bv r):=Ad (N:=24) (L:=TP) cN rfl (Nat.le_of_ble_eq_true rfl) (by kernel_rfl) (by
 unfold Dx
 refine jS ⟨[V 0 (bs a0),V 1 (bv a1)],[],0⟩ ?_
 refine AT ?_
 refine jS ⟨[V 0 (bs a0),V 6 (bv (!a1))],[],0⟩ ?_
 refine jIf ?_ ?_
 ·refine jS ⟨[V 4 (bv (a0 == []))],[],0⟩ ?_
  refine AO ?_
  refine AZ ?_
  exact AP (.inr rfl) (v:=bv (a0 == [])) (by kernel_rfl) rfl (AE _)
 refine AS ?_
 refine AN ?_
 refine jR ?_
 refine jG 0 3 ⟨[V 0 (bs a0),V 11 (bv (!(a0 == [])))],[],0⟩ ?_
 refine Ak 3 6 (fun x2=>⟨[V 0 (bs a0),V 17 (bv x2)],[],0⟩) ?_ ?_
 ·refine jSp 11 ?_ ?_
  ·refine jG 0 1 ⟨[V 0 (bs a0),(11,.lit true),V 12 (bs a0)],[],0⟩ ?_
   refine jK 1 (Dm a0 0 1) ?_
   intro x3 h3
   refine jG 2 4 ⟨[V 0 (bs a0),V 17 (bv (x3 == (List.length a0:Int)))],[],0⟩ ?_
   refine AQ rfl ?_
   exact AK rfl (wkR [] (AH _) AB)
  refine jG 0 6 ⟨[V 0 (bs a0),V 17 (bv false)],[],0⟩ ?_
  refine AQ rfl ?_
  exact AK rfl (wkR [] (AH _) AB)
 intro x2
 refine jG 9 1 ⟨[V 0 (bs a0),V 18 (bv x2)],[],0⟩ ?_
 refine Ak 10 5 (fun x5=>⟨[V 23 (bv x5)],[],0⟩) ?_ ?_
 ·refine jSp 18 ?_ ?_
  ·refine jG 0 1 ⟨[V 0 (bs a0),(18,.lit true),V 19 (bs a0)],[],0⟩ ?_
   refine jK 1 (FK a0) ?_
   intro x6 h6
   refine jG 2 3 ⟨[V 23 (bv (x6 == a0))],[],0⟩ ?_
   refine AQ rfl ?_
   exact AK rfl (wkR [] (AH _) AB)
  refine jG 0 5 ⟨[V 23 (bv false)],[],0⟩ ?_
  refine AQ rfl ?_
  exact AK rfl (wkR [] (AH _) AB)
 intro x5
 refine jG 15 1 ⟨[V 4 (bv x5)],[],0⟩ ?_
 refine jN ?_
 refine AO ?_
 exact AP (.inr rfl) (v:=bv x5) (by kernel_rfl) rfl (AE _))
abbrev eV:List LO:=[lo 2 (.assign (.const (.bool false))) 4]
abbrev fU:List LO:=[lm 3 0 9,lo 4 (.call ⟨.value (.func 111),#[.tmp 3,.const (.bool true)],#[9,4]⟩) 4,lo 5 (.unOp .not 4 (.tmp 4)) 4,lo 2 (.assign (.tmp 5)) 4]
abbrev Vu:LC:=.seq (.reg false eV) (.seq (.reg false fU) .ret)
theorem iB:BE E 113 6 [.tmp 2] Vu:=⟨⟨Go.Proofs.Tryz.f113,by kernel_rfl,by kernel_rfl,by kernel_rfl,by kernel_rfl,by kernel_rfl⟩,rfl,rfl⟩
noncomputable def P4 (a0:Str):Option (Bool):=Option.bind (Dx a0 true) (fun x1=>some (!x1))
theorem gC (a0:Str):Ct E 113 [bs a0] (P4 a0) (fun r:Bool=>bv r):=Ad (N:=6) (L:=Vu) iB rfl (Nat.le_of_ble_eq_true rfl) (by kernel_rfl) (by
 unfold P4
 refine jS ⟨[V 0 (bs a0)],[],0⟩ ?_
 refine jR ?_
 refine jG 0 1 ⟨[V 3 (bs a0)],[],0⟩ ?_
 refine jK 1 (FU a0 true) ?_
 intro x1 h1
 refine jG 2 2 ⟨[V 2 (bv (!x1))],[],0⟩ ?_
 refine jN ?_
 refine AO ?_
 exact AP (.inr rfl) (v:=bv (!x1)) (by kernel_rfl) rfl (AE _))
abbrev En:List LO:=[lo 4 (.assign (.const (.int .i64 0))) 3]
abbrev Ep:List LO:=[lm 6 0 32,lo 7 (.call ⟨.builtin .len,#[.tmp 6],#[32]⟩) 3,lo 8 (.move (.const (.int .i64 0))) 3]
abbrev Er:List LO:=[lo 9 (.binOp .lss 3 (.tmp 8) (.tmp 7) 3) 0]
abbrev Ek:List LO:=[lm 10 8 3,lo 5 (.assign (.tmp 10)) 3]
abbrev Eq:List LO:=[lm 11 1 31,lm 12 0 32,lm 13 5 3,lo 14 (.indexAddr 32 (.tmp 12) (.tmp 13)) 0,lo 15 (.load 9 (.tmp 14)) 9,lo 16 (.call ⟨.value (.tmp 11),#[.tmp 15],#[9]⟩) 4]
abbrev Ei:List LO:=[lm 17 5 3,lo 4 (.assign (.tmp 17)) 3]
abbrev Ef:List LO:=[lo 18 (.binOp .add 3 (.tmp 8) (.const (.int .i64 1)) 3) 3,lm 8 18 3]
abbrev Eu:List LO:=[lo 4 (.assign (.const (.int .i64 (-1)))) 3]
abbrev Ca:LC:=.seq (.reg false En) (.seq (.seq (.reg false Ep) (.block 0 (.loop (.seq (.reg false Er) (.seq (.cond (.tmp 9) .skip (.exit 0)) (.seq (.block 1 (.seq (.reg false Ek) (.seq (.reg false Eq) (.cond (.tmp 16) (.seq (.reg false Ei) .ret) .skip)))) (.reg false Ef))))))) (.seq (.reg false Eu) .ret))
theorem FA:BE E 130 19 [.tmp 4] Ca:=⟨⟨Go.Proofs.Tryz.f130,by kernel_rfl,by kernel_rfl,by kernel_rfl,by kernel_rfl,by kernel_rfl⟩,rfl,rfl⟩
noncomputable def A0 (a0:(List Str)):Int→Option (Step (Int) ((Int) ⊕ (Unit))):=fun x3=>(if (decide (x3 < (List.length a0:Int)))=true then Option.bind (ixl a0 x3) (fun x8=>Option.bind (P4 x8) (fun x9=>(if x9=true then some (Step.done (Sum.inl x3)) else some (Step.next (w64 (x3 + 1)))))) else some (Step.done (Sum.inr ())))
noncomputable def BO (a0:(List Str)):Option (Int):=Option.bind (Bi (A0 a0) 0) (fun y=>match y with | Sum.inl x7=>some x7 | Sum.inr _=>some (-1))
theorem Eo (a0:(List Str)):Ct E 130 [.fsl 1 (List.map cS a0),.fn 113 []] (BO a0) (fun r:Int=>iv r):=Ad (N:=19) (L:=Ca) FA rfl (Nat.le_of_ble_eq_true rfl) (by kernel_rfl) (by
 unfold BO
 refine jS ⟨[V 0 (.fsl 1 (List.map cS a0)),V 1 (.fn 113 [])],[],0⟩ ?_
 refine AT ?_
 refine jR ?_
 refine jG 0 3 ⟨[V 0 (.fsl 1 (List.map cS a0)),V 1 (.fn 113 []),V 7 (iv (List.length (List.map cS a0):Int)),V 8 (iv 0)],[],0⟩ ?_
 simp only[List.length_map]
 refine jN ?_
 refine Ai ?_
 refine As (fun y=>match y with | Sum.inl x7=>⟨[V 4 (iv x7)],[],0⟩ | Sum.inr _=>⟨[],[],0⟩) (fun y=>match y with | Sum.inl x7=>.ret | Sum.inr _=>(.exit 0)) (Cj (fun x3=>⟨[V 0 (.fsl 1 (List.map cS a0)),V 1 (.fn 113 []),V 7 (iv (List.length a0:Int)),V 8 (iv x3)],[],0⟩) (wkR [] (AH _) AB) ?_) ?_
 ·intro x3
  unfold A0
  refine jS ⟨[V 0 (.fsl 1 (List.map cS a0)),V 1 (.fn 113 []),V 7 (iv (List.length a0:Int)),V 8 (iv x3),V 9 (bv (decide (x3 < (List.length a0:Int))))],[],0⟩ ?_
  refine AT ?_
  refine jIf ?_ ?_
  ·refine AS ?_
   refine AN ?_
   refine AT ?_
   refine Ai ?_
   refine jS ⟨[V 0 (.fsl 1 (List.map cS a0)),V 1 (.fn 113 []),V 5 (iv x3),V 7 (iv (List.length a0:Int)),V 8 (iv x3)],[],0⟩ ?_
   refine jR ?_
   refine jG 0 3 ⟨[V 0 (.fsl 1 (List.map cS a0)),V 1 (.fn 113 []),V 5 (iv x3),V 7 (iv (List.length a0:Int)),V 8 (iv x3),V 11 (.fn 113 []),V 12 (.fsl 1 (List.map cS a0)),V 13 (iv x3)],[],0⟩ ?_
   refine An (i:=3) (mo:=ixl a0 x3) rfl rfl rfl rfl (fun _ hc=>Da (c:=cS) (sz:=1) (e:=9) (kk:=.i64) (by kernel_rfl) (by kernel_rfl) (by kernel_rfl) (by kernel_rfl) hc) (fun _=>rfl) ?_
   intro x8 h8
   refine jG 4 1 ⟨[V 0 (.fsl 1 (List.map cS a0)),V 1 (.fn 113 []),V 5 (iv x3),V 7 (iv (List.length a0:Int)),V 8 (iv x3),V 11 (.fn 113 []),V 15 (bs x8)],[],0⟩ ?_
   refine B1 (i:=5) rfl rfl rfl rfl (g:=113) (caps:=[]) (avs:=[bs x8]) (vs:=[bs x8]) (by kernel_rfl) (by kernel_rfl) rfl (AL rfl (Aw _)) (AJ (AE _) Aj) (gC x8) (fun _=>rfl) (fun _=>rfl) ?_
   intro x9 h9
   refine jN ?_
   refine jIf ?_ ?_
   ·refine jS ⟨[V 4 (iv x3)],[],0⟩ ?_
    refine AO ?_
    refine Aq ?_
    refine AZ ?_
    exact BD rfl nofun (wkR [] (AH _) AB)
   refine AS ?_
   refine A8 ?_
   refine AN ?_
   refine jT ⟨[V 0 (.fsl 1 (List.map cS a0)),V 1 (.fn 113 []),V 7 (iv (List.length a0:Int)),V 8 (iv (w64 (x3 + 1)))],[],0⟩ ?_
   exact Ck (wkR [] (AH _) AB)
  refine CN ?_
  refine CM ?_
  exact BD rfl nofun (wkR [] (AH _) AB)
 rintro (x7 | _)
 ·refine Aq ?_
  refine AZ ?_
  exact AP (.inr rfl) (v:=iv x7) (by kernel_rfl) rfl (AE _)
 refine CY ?_
 refine AN ?_
 refine jS ⟨[V 4 (iv (-1))],[],0⟩ ?_
 refine AO ?_
 exact AP (.inr rfl) (v:=iv (-1)) (by kernel_rfl) rfl (AE _))
abbrev D1:List LO:=[lo 4 (.assign (.const (.bool false))) 4]
abbrev Du:List LO:=[lm 5 0 32,lm 6 1 31,lo 7 (.call ⟨.value (.func 130),#[.tmp 5,.tmp 6],#[32,31]⟩) 3,lo 8 (.binOp .geq 3 (.tmp 7) (.const (.int .i64 0)) 3) 4,lo 4 (.assign (.tmp 8)) 4]
abbrev CG:LC:=.seq (.reg false D1) (.seq (.reg false Du) .ret)
theorem EJ:BE E 112 9 [.tmp 4] CG:=⟨⟨Go.Proofs.Tryz.f112,by kernel_rfl,by kernel_rfl,by kernel_rfl,by kernel_rfl,by kernel_rfl⟩,rfl,rfl⟩
noncomputable def Az (a0:(List Str)):Option (Bool):=Option.bind (BO a0) (fun x1=>some (decide (x1≥0)))
theorem Dt (a0:(List Str)):Ct E 112 [.fsl 1 (List.map cS a0),.fn 113 []] (Az a0) (fun r:Bool=>bv r):=Ad (N:=9) (L:=CG) EJ rfl (Nat.le_of_ble_eq_true rfl) (by kernel_rfl) (by
 unfold Az
 refine jS ⟨[V 0 (.fsl 1 (List.map cS a0)),V 1 (.fn 113 [])],[],0⟩ ?_
 refine jR ?_
 refine jG 0 2 ⟨[V 5 (.fsl 1 (List.map cS a0)),V 6 (.fn 113 [])],[],0⟩ ?_
 refine jK 2 (Eo a0) ?_
 intro x1 h1
 refine jG 3 2 ⟨[V 4 (bv (decide (x1≥0)))],[],0⟩ ?_
 refine jN ?_
 refine AO ?_
 exact AP (.inr rfl) (v:=bv (decide (x1≥0))) (by kernel_rfl) rfl (AE _))
abbrev gT:List LO:=[lo 2 (.assign (.const (.bool false))) 4]
abbrev gI:List LO:=[lm 3 0 9,lo 4 (.binOp .eql 9 (.tmp 3) (.const (.string ⟨#[]⟩)) 9) 4,lm 5 4 4,lmg 6 0 9 5 false,lg 7 (.call ⟨.value (.func 69),#[.tmp 6,.const (.int .i64 0),.const (.int .i64 5)],#[9,3,3]⟩) 3 5 false,lmg 8 0 9 5 false,lg 9 (.call ⟨.builtin .len,#[.tmp 8],#[9]⟩) 3 5 false,lg 10 (.binOp .neq 3 (.tmp 7) (.tmp 9) 3) 4 5 false,lo 11 (.pick (.tmp 5) (.const (.bool true)) (.tmp 10)) 4,lm 12 11 4,lmg 13 0 9 12 false,lg 14 (.call ⟨.value (.func 49),#[.tmp 13],#[9]⟩) 9 12 false,lmg 15 0 9 12 false,lg 16 (.binOp .neq 9 (.tmp 14) (.tmp 15) 9) 4 12 false,lo 17 (.pick (.tmp 12) (.const (.bool true)) (.tmp 16)) 4]
abbrev iJ:List LO:=[lo 2 (.assign (.const (.bool false))) 4]
abbrev iD:List LO:=[lm 18 0 9,lo 19 (.call ⟨.value (.func 69),#[.tmp 18,.const (.int .i64 0),.const (.int .i64 1)],#[9,3,3]⟩) 3,lm 20 0 9,lo 21 (.call ⟨.builtin .len,#[.tmp 20],#[9]⟩) 3,lo 22 (.binOp .neq 3 (.tmp 19) (.tmp 21) 3) 4,lm 23 22 4,lmg 24 0 9 23 false,lg 25 (.call ⟨.value (.func 86),#[.tmp 24],#[9]⟩) 9 23 false,lmg 26 0 9 23 false,lg 27 (.binOp .eql 9 (.tmp 25) (.tmp 26) 9) 4 23 false,lo 28 (.pick (.tmp 23) (.const (.bool true)) (.tmp 27)) 4,lo 2 (.assign (.tmp 28)) 4]
abbrev XN:LC:=.seq (.reg false gT) (.seq (.seq (.reg false gI) (.cond (.tmp 17) (.seq (.reg false iJ) .ret) .skip)) (.seq (.reg false iD) .ret))
theorem nP:BE E 115 29 [.tmp 2] XN:=⟨⟨Go.Proofs.Tryz.f115,by kernel_rfl,by kernel_rfl,by kernel_rfl,by kernel_rfl,by kernel_rfl⟩,rfl,rfl⟩
noncomputable def Ob (a0:Str):Option (Bool):=Option.bind (if (a0 == [])=true then some true else Option.bind (Cq a0 0 5) (fun x3=>some (x3 != (List.length a0:Int))):Option (Bool)) (fun x2=>Option.bind (if x2=true then some true else Option.bind (E9 a0) (fun x6=>some (!(x6 == a0))):Option (Bool)) (fun x5=>(if x5=true then some false else Option.bind (Cq a0 0 1) (fun x7=>Option.bind (if (x7 != (List.length a0:Int))=true then some true else Option.bind (DF a0) (fun x10=>some (x10 == a0)):Option (Bool)) (fun x9=>some x9)))))
theorem lE (a0:Str):Ct E 115 [bs a0] (Ob a0) (fun r:Bool=>bv r):=Ad (N:=29) (L:=XN) nP rfl (Nat.le_of_ble_eq_true rfl) (by kernel_rfl) (by
 unfold Ob
 refine jS ⟨[V 0 (bs a0)],[],0⟩ ?_
 refine AT ?_
 refine jR ?_
 refine jG 0 3 ⟨[V 0 (bs a0),V 5 (bv (a0 == []))],[],0⟩ ?_
 refine Ak 3 6 (fun x2=>⟨[V 0 (bs a0),V 11 (bv x2)],[],0⟩) ?_ ?_
 ·refine jSp 5 ?_ ?_
  ·refine jG 0 6 ⟨[V 0 (bs a0),V 11 (bv true)],[],0⟩ ?_
   refine AQ rfl ?_
   exact AK rfl (wkR [] (AH _) AB)
  refine jG 0 1 ⟨[V 0 (bs a0),(5,.lit false),V 6 (bs a0)],[],0⟩ ?_
  refine jK 1 (Dm a0 0 5) ?_
  intro x3 h3
  refine jG 2 4 ⟨[V 0 (bs a0),V 11 (bv (x3 != (List.length a0:Int)))],[],0⟩ ?_
  refine AQ rfl ?_
  exact AK rfl (wkR [] (AH _) AB)
 intro x2
 refine jG 9 1 ⟨[V 0 (bs a0),V 12 (bv x2)],[],0⟩ ?_
 refine Ak 10 5 (fun x5=>⟨[V 0 (bs a0),V 17 (bv x5)],[],0⟩) ?_ ?_
 ·refine jSp 12 ?_ ?_
  ·refine jG 0 5 ⟨[V 0 (bs a0),V 17 (bv true)],[],0⟩ ?_
   refine AQ rfl ?_
   exact AK rfl (wkR [] (AH _) AB)
  refine jG 0 1 ⟨[V 0 (bs a0),(12,.lit false),V 13 (bs a0)],[],0⟩ ?_
  refine jK 1 (HR a0) ?_
  intro x6 h6
  refine jG 2 3 ⟨[V 0 (bs a0),V 17 (bv (!(x6 == a0)))],[],0⟩ ?_
  refine AQ rfl ?_
  exact AK rfl (wkR [] (AH _) AB)
 intro x5
 refine jN ?_
 refine jIf ?_ ?_
 ·refine jS ⟨[V 2 (bv false)],[],0⟩ ?_
  refine AO ?_
  refine AZ ?_
  exact AP (.inr rfl) (v:=bv false) (by kernel_rfl) rfl (AE _)
 refine AS ?_
 refine AN ?_
 refine jR ?_
 refine jG 0 1 ⟨[V 0 (bs a0),V 18 (bs a0)],[],0⟩ ?_
 refine jK 1 (Dm a0 0 1) ?_
 intro x7 h7
 refine jG 2 4 ⟨[V 0 (bs a0),V 23 (bv (x7 != (List.length a0:Int)))],[],0⟩ ?_
 refine Ak 6 5 (fun x9=>⟨[V 28 (bv x9)],[],0⟩) ?_ ?_
 ·refine jSp 23 ?_ ?_
  ·refine jG 0 5 ⟨[V 28 (bv true)],[],0⟩ ?_
   refine AQ rfl ?_
   exact AK rfl (wkR [] (AH _) AB)
  refine jG 0 1 ⟨[V 0 (bs a0),(23,.lit false),V 24 (bs a0)],[],0⟩ ?_
  refine jK 1 (FK a0) ?_
  intro x10 h10
  refine jG 2 3 ⟨[V 28 (bv (x10 == a0))],[],0⟩ ?_
  refine AQ rfl ?_
  exact AK rfl (wkR [] (AH _) AB)
 intro x9
 refine jG 11 1 ⟨[V 2 (bv x9)],[],0⟩ ?_
 refine jN ?_
 refine AO ?_
 exact AP (.inr rfl) (v:=bv x9) (by kernel_rfl) rfl (AE _))
abbrev dO:List LO:=[lo 2 (.assign (.const (.bool false))) 4]
abbrev gF:List LO:=[lm 3 0 9,lo 4 (.call ⟨.value (.func 115),#[.tmp 3],#[9]⟩) 4,lo 5 (.unOp .not 4 (.tmp 4)) 4,lo 2 (.assign (.tmp 5)) 4]
abbrev VY:LC:=.seq (.reg false dO) (.seq (.reg false gF) .ret)
theorem jY:BE E 114 6 [.tmp 2] VY:=⟨⟨Go.Proofs.Tryz.f114,by kernel_rfl,by kernel_rfl,by kernel_rfl,by kernel_rfl,by kernel_rfl⟩,rfl,rfl⟩
noncomputable def QB (a0:Str):Option (Bool):=Option.bind (Ob a0) (fun x1=>some (!x1))
theorem dR (a0:Str):Ct E 114 [bs a0] (QB a0) (fun r:Bool=>bv r):=Ad (N:=6) (L:=VY) jY rfl (Nat.le_of_ble_eq_true rfl) (by kernel_rfl) (by
 unfold QB
 refine jS ⟨[V 0 (bs a0)],[],0⟩ ?_
 refine jR ?_
 refine jG 0 1 ⟨[V 3 (bs a0)],[],0⟩ ?_
 refine jK 1 (lE a0) ?_
 intro x1 h1
 refine jG 2 2 ⟨[V 2 (bv (!x1))],[],0⟩ ?_
 refine jN ?_
 refine AO ?_
 exact AP (.inr rfl) (v:=bv (!x1)) (by kernel_rfl) rfl (AE _))
abbrev Ed:List LO:=[lo 4 (.assign (.const (.int .i64 0))) 3]
abbrev Em:List LO:=[lm 6 0 32,lo 7 (.call ⟨.builtin .len,#[.tmp 6],#[32]⟩) 3,lo 8 (.move (.const (.int .i64 0))) 3]
abbrev Ee:List LO:=[lo 9 (.binOp .lss 3 (.tmp 8) (.tmp 7) 3) 0]
abbrev Ej:List LO:=[lm 10 8 3,lo 5 (.assign (.tmp 10)) 3]
abbrev El:List LO:=[lm 11 1 31,lm 12 0 32,lm 13 5 3,lo 14 (.indexAddr 32 (.tmp 12) (.tmp 13)) 0,lo 15 (.load 9 (.tmp 14)) 9,lo 16 (.call ⟨.value (.tmp 11),#[.tmp 15],#[9]⟩) 4]
abbrev Et:List LO:=[lm 17 5 3,lo 4 (.assign (.tmp 17)) 3]
abbrev Es:List LO:=[lo 18 (.binOp .add 3 (.tmp 8) (.const (.int .i64 1)) 3) 3,lm 8 18 3]
abbrev Ev:List LO:=[lo 4 (.assign (.const (.int .i64 (-1)))) 3]
abbrev Cd:LC:=.seq (.reg false Ed) (.seq (.seq (.reg false Em) (.block 0 (.loop (.seq (.reg false Ee) (.seq (.cond (.tmp 9) .skip (.exit 0)) (.seq (.block 1 (.seq (.reg false Ej) (.seq (.reg false El) (.cond (.tmp 16) (.seq (.reg false Et) .ret) .skip)))) (.reg false Es))))))) (.seq (.reg false Ev) .ret))
theorem Ew:BE E 130 19 [.tmp 4] Cd:=⟨⟨Go.Proofs.Tryz.f130,by kernel_rfl,by kernel_rfl,by kernel_rfl,by kernel_rfl,by kernel_rfl⟩,rfl,rfl⟩
noncomputable def AI (a0:(List Str)):Int→Option (Step (Int) ((Int) ⊕ (Unit))):=fun x3=>(if (decide (x3 < (List.length a0:Int)))=true then Option.bind (ixl a0 x3) (fun x8=>Option.bind (QB x8) (fun x9=>(if x9=true then some (Step.done (Sum.inl x3)) else some (Step.next (w64 (x3 + 1)))))) else some (Step.done (Sum.inr ())))
noncomputable def BM (a0:(List Str)):Option (Int):=Option.bind (Bi (AI a0) 0) (fun y=>match y with | Sum.inl x7=>some x7 | Sum.inr _=>some (-1))
theorem Eh (a0:(List Str)):Ct E 130 [.fsl 1 (List.map cS a0),.fn 114 []] (BM a0) (fun r:Int=>iv r):=Ad (N:=19) (L:=Cd) Ew rfl (Nat.le_of_ble_eq_true rfl) (by kernel_rfl) (by
 unfold BM
 refine jS ⟨[V 0 (.fsl 1 (List.map cS a0)),V 1 (.fn 114 [])],[],0⟩ ?_
 refine AT ?_
 refine jR ?_
 refine jG 0 3 ⟨[V 0 (.fsl 1 (List.map cS a0)),V 1 (.fn 114 []),V 7 (iv (List.length (List.map cS a0):Int)),V 8 (iv 0)],[],0⟩ ?_
 simp only[List.length_map]
 refine jN ?_
 refine Ai ?_
 refine As (fun y=>match y with | Sum.inl x7=>⟨[V 4 (iv x7)],[],0⟩ | Sum.inr _=>⟨[],[],0⟩) (fun y=>match y with | Sum.inl x7=>.ret | Sum.inr _=>(.exit 0)) (Cj (fun x3=>⟨[V 0 (.fsl 1 (List.map cS a0)),V 1 (.fn 114 []),V 7 (iv (List.length a0:Int)),V 8 (iv x3)],[],0⟩) (wkR [] (AH _) AB) ?_) ?_
 ·intro x3
  unfold AI
  refine jS ⟨[V 0 (.fsl 1 (List.map cS a0)),V 1 (.fn 114 []),V 7 (iv (List.length a0:Int)),V 8 (iv x3),V 9 (bv (decide (x3 < (List.length a0:Int))))],[],0⟩ ?_
  refine AT ?_
  refine jIf ?_ ?_
  ·refine AS ?_
   refine AN ?_
   refine AT ?_
   refine Ai ?_
   refine jS ⟨[V 0 (.fsl 1 (List.map cS a0)),V 1 (.fn 114 []),V 5 (iv x3),V 7 (iv (List.length a0:Int)),V 8 (iv x3)],[],0⟩ ?_
   refine jR ?_
   refine jG 0 3 ⟨[V 0 (.fsl 1 (List.map cS a0)),V 1 (.fn 114 []),V 5 (iv x3),V 7 (iv (List.length a0:Int)),V 8 (iv x3),V 11 (.fn 114 []),V 12 (.fsl 1 (List.map cS a0)),V 13 (iv x3)],[],0⟩ ?_
   refine An (i:=3) (mo:=ixl a0 x3) rfl rfl rfl rfl (fun _ hc=>Da (c:=cS) (sz:=1) (e:=9) (kk:=.i64) (by kernel_rfl) (by kernel_rfl) (by kernel_rfl) (by kernel_rfl) hc) (fun _=>rfl) ?_
   intro x8 h8
   refine jG 4 1 ⟨[V 0 (.fsl 1 (List.map cS a0)),V 1 (.fn 114 []),V 5 (iv x3),V 7 (iv (List.length a0:Int)),V 8 (iv x3),V 11 (.fn 114 []),V 15 (bs x8)],[],0⟩ ?_
   refine B1 (i:=5) rfl rfl rfl rfl (g:=114) (caps:=[]) (avs:=[bs x8]) (vs:=[bs x8]) (by kernel_rfl) (by kernel_rfl) rfl (AL rfl (Aw _)) (AJ (AE _) Aj) (dR x8) (fun _=>rfl) (fun _=>rfl) ?_
   intro x9 h9
   refine jN ?_
   refine jIf ?_ ?_
   ·refine jS ⟨[V 4 (iv x3)],[],0⟩ ?_
    refine AO ?_
    refine Aq ?_
    refine AZ ?_
    exact BD rfl nofun (wkR [] (AH _) AB)
   refine AS ?_
   refine A8 ?_
   refine AN ?_
   refine jT ⟨[V 0 (.fsl 1 (List.map cS a0)),V 1 (.fn 114 []),V 7 (iv (List.length a0:Int)),V 8 (iv (w64 (x3 + 1)))],[],0⟩ ?_
   exact Ck (wkR [] (AH _) AB)
  refine CN ?_
  refine CM ?_
  exact BD rfl nofun (wkR [] (AH _) AB)
 rintro (x7 | _)
 ·refine Aq ?_
  refine AZ ?_
  exact AP (.inr rfl) (v:=iv x7) (by kernel_rfl) rfl (AE _)
 refine CY ?_
 refine AN ?_
 refine jS ⟨[V 4 (iv (-1))],[],0⟩ ?_
 refine AO ?_
 exact AP (.inr rfl) (v:=iv (-1)) (by kernel_rfl) rfl (AE _))
abbrev DI:List LO:=[lo 4 (.assign (.const (.bool false))) 4]
abbrev Dp:List LO:=[lm 5 0 32,lm 6 1 31,lo 7 (.call ⟨.value (.func 130),#[.tmp 5,.tmp 6],#[32,31]⟩) 3,lo 8 (.binOp .geq 3 (.tmp 7) (.const (.int .i64 0)) 3) 4,lo 4 (.assign (.tmp 8)) 4]
abbrev CF:LC:=.seq (.reg false DI) (.seq (.reg false Dp) .ret)
theorem EH:BE E 112 9 [.tmp 4] CF:=⟨⟨Go.Proofs.Tryz.f112,by kernel_rfl,by kernel_rfl,by kernel_rfl,by kernel_rfl,by kernel_rfl⟩,rfl,rfl⟩
noncomputable def A1 (a0:(List Str)):Option (Bool):=Option.bind (BM a0) (fun x1=>some (decide (x1≥0)))
theorem Dw (a0:(List Str)):Ct E 112 [.fsl 1 (List.map cS a0),.fn 114 []] (A1 a0) (fun r:Bool=>bv r):=Ad (N:=9) (L:=CF) EH rfl (Nat.le_of_ble_eq_true rfl) (by kernel_rfl) (by
 unfold A1
 refine jS ⟨[V 0 (.fsl 1 (List.map cS a0)),V 1 (.fn 114 [])],[],0⟩ ?_
 refine jR ?_
 refine jG 0 2 ⟨[V 5 (.fsl 1 (List.map cS a0)),V 6 (.fn 114 [])],[],0⟩ ?_
 refine jK 2 (Eh a0) ?_
 intro x1 h1
 refine jG 3 2 ⟨[V 4 (bv (decide (x1≥0)))],[],0⟩ ?_
 refine jN ?_
 refine AO ?_
 exact AP (.inr rfl) (v:=bv (decide (x1≥0))) (by kernel_rfl) rfl (AE _))
abbrev n7:List LO:=[lo 1 (.box 34 (.tmp 0)) 0,lo 2 (.assign (.const (.bool false))) 4]
abbrev nC:List LO:=[lo 4 (.fieldAddr 34 (.tmp 1) 2) 0,lo 5 (.load 5 (.tmp 4)) 5,lo 6 (.binOp .eql 5 (.tmp 5) (.const (.int .u8 97)) 5) 4,lm 7 6 4,lg 8 (.fieldAddr 34 (.tmp 1) 2) 0 7 false,lg 9 (.load 5 (.tmp 8)) 5 7 false,lg 10 (.binOp .eql 5 (.tmp 9) (.const (.int .u8 98)) 5) 4 7 false,lo 11 (.pick (.tmp 7) (.const (.bool true)) (.tmp 10)) 4,lm 12 11 4,lg 13 (.fieldAddr 34 (.tmp 1) 2) 0 12 false,lg 14 (.load 5 (.tmp 13)) 5 12 false,lg 15 (.binOp .eql 5 (.tmp 14) (.const (.int .u8 114)) 5) 4 12 false,lo 16 (.pick (.tmp 12) (.const (.bool true)) (.tmp 15)) 4,lo 3 (.assign (.tmp 16)) 4]
abbrev nU:List LO:=[lo 17 (.fieldAddr 34 (.tmp 1) 0) 0,lo 18 (.load 9 (.tmp 17)) 9,lo 19 (.call ⟨.value (.func 111),#[.tmp 18,.const (.bool true)],#[9,4]⟩) 4,lo 20 (.unOp .not 4 (.tmp 19)) 4,lm 21 20 4,lg 22 (.fieldAddr 34 (.tmp 1) 1) 0 21 false,lg 23 (.load 32 (.tmp 22)) 32 21 false,lg 24 (.call ⟨.builtin .len,#[.tmp 23],#[32]⟩) 3 21 false,lg 25 (.binOp .eql 3 (.tmp 24) (.const (.int .i64 0)) 3) 4 21 false,lo 26 (.pick (.tmp 21) (.const (.bool true)) (.tmp 25)) 4,lm 27 26 4,lg 28 (.fieldAddr 34 (.tmp 1) 2) 0 27 false,lg 29 (.load 5 (.tmp 28)) 5 27 false,lg 30 (.binOp .neq 5 (.tmp 29) (.const (.int .u8 0)) 5) 4 27 false,lmg 31 30 4 27 false,lmg 32 3 4 31 true,lg 33 (.unOp .not 4 (.tmp 32)) 4 31 true,lg 34 (.pick (.tmp 31) (.tmp 33) (.const (.bool false))) 4 27 false,lo 35 (.pick (.tmp 27) (.const (.bool true)) (.tmp 34)) 4,lm 36 35 4,lg 37 (.fieldAddr 34 (.tmp 1) 3) 0 36 false,lg 38 (.load 9 (.tmp 37)) 9 36 false,lmg 39 3 4 36 false,lg 40 (.call ⟨.value (.func 111),#[.tmp 38,.tmp 39],#[9,4]⟩) 4 36 false,lg 41 (.unOp .not 4 (.tmp 40)) 4 36 false,lo 42 (.pick (.tmp 36) (.const (.bool true)) (.tmp 41)) 4,lm 43 42 4,lg 44 (.fieldAddr 34 (.tmp 1) 5) 0 43 false,lg 45 (.load 9 (.tmp 44)) 9 43 false,lg 46 (.fieldAddr 34 (.tmp 1) 4) 0 43 false,lg 47 (.load 4 (.tmp 46)) 4 43 false,lg 48 (.call ⟨.value (.func 111),#[.tmp 45,.tmp 47],#[9,4]⟩) 4 43 false,lg 49 (.unOp .not 4 (.tmp 48)) 4 43 false,lo 50 (.pick (.tmp 43) (.const (.bool true)) (.tmp 49)) 4,lm 51 50 4,lg 52 (.fieldAddr 34 (.tmp 1) 7) 0 51 false,lg 53 (.load 9 (.tmp 52)) 9 51 false,lg 54 (.fieldAddr 34 (.tmp 1) 6) 0 51 false,lg 55 (.load 4 (.tmp 54)) 4 51 false,lg 56 (.call ⟨.value (.func 111),#[.tmp 53,.tmp 55],#[9,4]⟩) 4 51 false,lg 57 (.unOp .not 4 (.tmp 56)) 4 51 false,lo 58 (.pick (.tmp 51) (.const (.bool true)) (.tmp 57)) 4]
abbrev oA:List LO:=[lo 2 (.assign (.const (.bool false))) 4]
abbrev lI:List LO:=[lo 59 (.fieldAddr 34 (.tmp 1) 1) 0,lo 60 (.load 32 (.tmp 59)) 32,lo 61 (.call ⟨.value (.func 112),#[.tmp 60,.func 113],#[32,31]⟩) 4,lo 62 (.unOp .not 4 (.tmp 61)) 4,lm 63 62 4,lg 64 (.fieldAddr 34 (.tmp 1) 8) 0 63 true,lg 65 (.load 32 (.tmp 64)) 32 63 true,lg 66 (.call ⟨.value (.func 112),#[.tmp 65,.func 114],#[32,31]⟩) 4 63 true,lg 67 (.unOp .not 4 (.tmp 66)) 4 63 true,lo 68 (.pick (.tmp 63) (.tmp 67) (.const (.bool false))) 4,lo 2 (.assign (.tmp 68)) 4]
abbrev bA:LC:=.seq (.reg false n7) (.seq (.reg false nC) (.seq (.seq (.reg false nU) (.cond (.tmp 58) (.seq (.reg false oA) .ret) .skip)) (.seq (.reg false lI) .ret)))
theorem pT:BE E 88 69 [.tmp 2] bA:=⟨⟨Go.Proofs.Tryz.f88,by kernel_rfl,by kernel_rfl,by kernel_rfl,by kernel_rfl,by kernel_rfl⟩,rfl,rfl⟩
noncomputable def P5 (a0:AF):Option (Bool):=Option.bind (Dx a0.Epoch true) (fun x1=>Option.bind (if (((!x1) || ((List.length a0.Release:Int) == 0)) || ((a0.Pre != 0) && (!(((a0.Pre == 97) || (a0.Pre == 98)) || (a0.Pre == 114)))))=true then some true else Option.bind (Dx a0.PreNum (((a0.Pre == 97) || (a0.Pre == 98)) || (a0.Pre == 114))) (fun x4=>some (!x4)):Option (Bool)) (fun x3=>Option.bind (if x3=true then some true else Option.bind (Dx a0.PostNum a0.Post) (fun x7=>some (!x7)):Option (Bool)) (fun x6=>Option.bind (if x6=true then some true else Option.bind (Dx a0.DevNum a0.Dev) (fun x10=>some (!x10)):Option (Bool)) (fun x9=>(if x9=true then some false else Option.bind (Az a0.Release) (fun x11=>Option.bind (if (!x11)=true then Option.bind (A1 a0.Local) (fun x14=>some (!x14)) else some false:Option (Bool)) (fun x13=>some x13)))))))
theorem YS (a0:AF):Ct E 88 [.agg [bs a0.Epoch,.fsl 1 (List.map cS a0.Release),.s (.int .u8 a0.Pre),bs a0.PreNum,bv a0.Post,bs a0.PostNum,bv a0.Dev,bs a0.DevNum,.fsl 1 (List.map cS a0.Local)]] (P5 a0) (fun r:Bool=>bv r):=Ad (N:=69) (L:=bA) pT rfl (Nat.le_of_ble_eq_true rfl) (by kernel_rfl) (by
 unfold P5
 refine jS ⟨[V 1 (pt 0 9)],[W 0 9 [bs a0.Epoch,.fsl 1 (List.map cS a0.Release),.s (.int .u8 a0.Pre),bs a0.PreNum,bv a0.Post,bs a0.PostNum,bv a0.Dev,bs a0.DevNum,.fsl 1 (List.map cS a0.Local)]],1⟩ ?_
 refine jS ⟨[V 1 (pt 0 9),V 3 (bv (((a0.Pre == 97) || (a0.Pre == 98)) || (a0.Pre == 114)))],[W 0 9 [bs a0.Epoch,.fsl 1 (List.map cS a0.Release),.s (.int .u8 a0.Pre),bs a0.PreNum,bv a0.Post,bs a0.PostNum,bv a0.Dev,bs a0.DevNum,.fsl 1 (List.map cS a0.Local)]],1⟩ ?_
 refine AT ?_
 refine jR ?_
 refine jG 0 2 ⟨[V 1 (pt 0 9),V 3 (bv (((a0.Pre == 97) || (a0.Pre == 98)) || (a0.Pre == 114))),V 18 (bs a0.Epoch)],[W 0 9 [bs a0.Epoch,.fsl 1 (List.map cS a0.Release),.s (.int .u8 a0.Pre),bs a0.PreNum,bv a0.Post,bs a0.PostNum,bv a0.Dev,bs a0.DevNum,.fsl 1 (List.map cS a0.Local)]],1⟩ ?_
 refine jK 2 (FU a0.Epoch true) ?_
 intro x1 h1
 refine jG 3 17 ⟨[V 1 (pt 0 9),V 3 (bv (((a0.Pre == 97) || (a0.Pre == 98)) || (a0.Pre == 114))),V 36 (bv (((!x1) || ((List.length (List.map cS a0.Release):Int) == 0)) || ((a0.Pre != 0) && (!(((a0.Pre == 97) || (a0.Pre == 98)) || (a0.Pre == 114))))))],[W 0 9 [bs a0.Epoch,.fsl 1 (List.map cS a0.Release),.s (.int .u8 a0.Pre),bs a0.PreNum,bv a0.Post,bs a0.PostNum,bv a0.Dev,bs a0.DevNum,.fsl 1 (List.map cS a0.Local)]],1⟩ ?_
 simp only[List.length_map]
 refine Ak 20 6 (fun x3=>⟨[V 1 (pt 0 9),V 42 (bv x3)],[W 0 9 [bs a0.Epoch,.fsl 1 (List.map cS a0.Release),.s (.int .u8 a0.Pre),bs a0.PreNum,bv a0.Post,bs a0.PostNum,bv a0.Dev,bs a0.DevNum,.fsl 1 (List.map cS a0.Local)]],1⟩) ?_ ?_
 ·refine jSp 36 ?_ ?_
  ·refine jG 0 6 ⟨[V 1 (pt 0 9),V 42 (bv true)],[W 0 9 [bs a0.Epoch,.fsl 1 (List.map cS a0.Release),.s (.int .u8 a0.Pre),bs a0.PreNum,bv a0.Post,bs a0.PostNum,bv a0.Dev,bs a0.DevNum,.fsl 1 (List.map cS a0.Local)]],1⟩ ?_
   refine AQ rfl ?_
   exact AK rfl (wkR [(0,some 0)] (AH _) (pc (hC 0) AB))
  refine jG 0 3 ⟨[V 1 (pt 0 9),(36,.lit false),V 38 (bs a0.PreNum),V 39 (bv (((a0.Pre == 97) || (a0.Pre == 98)) || (a0.Pre == 114)))],[W 0 9 [bs a0.Epoch,.fsl 1 (List.map cS a0.Release),.s (.int .u8 a0.Pre),bs a0.PreNum,bv a0.Post,bs a0.PostNum,bv a0.Dev,bs a0.DevNum,.fsl 1 (List.map cS a0.Local)]],1⟩ ?_
  refine jK 3 (FU a0.PreNum (((a0.Pre == 97) || (a0.Pre == 98)) || (a0.Pre == 114))) ?_
  intro x4 h4
  refine jG 4 2 ⟨[V 1 (pt 0 9),V 42 (bv (!x4))],[W 0 9 [bs a0.Epoch,.fsl 1 (List.map cS a0.Release),.s (.int .u8 a0.Pre),bs a0.PreNum,bv a0.Post,bs a0.PostNum,bv a0.Dev,bs a0.DevNum,.fsl 1 (List.map cS a0.Local)]],1⟩ ?_
  refine AQ rfl ?_
  exact AK rfl (wkR [(0,some 0)] (AH _) (pc (hC 0) AB))
 intro x3
 refine jG 26 1 ⟨[V 1 (pt 0 9),V 43 (bv x3)],[W 0 9 [bs a0.Epoch,.fsl 1 (List.map cS a0.Release),.s (.int .u8 a0.Pre),bs a0.PreNum,bv a0.Post,bs a0.PostNum,bv a0.Dev,bs a0.DevNum,.fsl 1 (List.map cS a0.Local)]],1⟩ ?_
 refine Ak 27 7 (fun x6=>⟨[V 1 (pt 0 9),V 50 (bv x6)],[W 0 9 [bs a0.Epoch,.fsl 1 (List.map cS a0.Release),.s (.int .u8 a0.Pre),bs a0.PreNum,bv a0.Post,bs a0.PostNum,bv a0.Dev,bs a0.DevNum,.fsl 1 (List.map cS a0.Local)]],1⟩) ?_ ?_
 ·refine jSp 43 ?_ ?_
  ·refine jG 0 7 ⟨[V 1 (pt 0 9),V 50 (bv true)],[W 0 9 [bs a0.Epoch,.fsl 1 (List.map cS a0.Release),.s (.int .u8 a0.Pre),bs a0.PreNum,bv a0.Post,bs a0.PostNum,bv a0.Dev,bs a0.DevNum,.fsl 1 (List.map cS a0.Local)]],1⟩ ?_
   refine AQ rfl ?_
   exact AK rfl (wkR [(0,some 0)] (AH _) (pc (hC 0) AB))
  refine jG 0 4 ⟨[V 1 (pt 0 9),(43,.lit false),V 45 (bs a0.PostNum),V 47 (bv a0.Post)],[W 0 9 [bs a0.Epoch,.fsl 1 (List.map cS a0.Release),.s (.int .u8 a0.Pre),bs a0.PreNum,bv a0.Post,bs a0.PostNum,bv a0.Dev,bs a0.DevNum,.fsl 1 (List.map cS a0.Local)]],1⟩ ?_
  refine jK 4 (FU a0.PostNum a0.Post) ?_
  intro x7 h7
  refine jG 5 2 ⟨[V 1 (pt 0 9),V 50 (bv (!x7))],[W 0 9 [bs a0.Epoch,.fsl 1 (List.map cS a0.Release),.s (.int .u8 a0.Pre),bs a0.PreNum,bv a0.Post,bs a0.PostNum,bv a0.Dev,bs a0.DevNum,.fsl 1 (List.map cS a0.Local)]],1⟩ ?_
  refine AQ rfl ?_
  exact AK rfl (wkR [(0,some 0)] (AH _) (pc (hC 0) AB))
 intro x6
 refine jG 34 1 ⟨[V 1 (pt 0 9),V 51 (bv x6)],[W 0 9 [bs a0.Epoch,.fsl 1 (List.map cS a0.Release),.s (.int .u8 a0.Pre),bs a0.PreNum,bv a0.Post,bs a0.PostNum,bv a0.Dev,bs a0.DevNum,.fsl 1 (List.map cS a0.Local)]],1⟩ ?_
 refine Ak 35 7 (fun x9=>⟨[V 1 (pt 0 9),V 58 (bv x9)],[W 0 9 [bs a0.Epoch,.fsl 1 (List.map cS a0.Release),.s (.int .u8 a0.Pre),bs a0.PreNum,bv a0.Post,bs a0.PostNum,bv a0.Dev,bs a0.DevNum,.fsl 1 (List.map cS a0.Local)]],1⟩) ?_ ?_
 ·refine jSp 51 ?_ ?_
  ·refine jG 0 7 ⟨[V 1 (pt 0 9),V 58 (bv true)],[W 0 9 [bs a0.Epoch,.fsl 1 (List.map cS a0.Release),.s (.int .u8 a0.Pre),bs a0.PreNum,bv a0.Post,bs a0.PostNum,bv a0.Dev,bs a0.DevNum,.fsl 1 (List.map cS a0.Local)]],1⟩ ?_
   refine AQ rfl ?_
   exact AK rfl (wkR [(0,some 0)] (AH _) (pc (hC 0) AB))
  refine jG 0 4 ⟨[V 1 (pt 0 9),(51,.lit false),V 53 (bs a0.DevNum),V 55 (bv a0.Dev)],[W 0 9 [bs a0.Epoch,.fsl 1 (List.map cS a0.Release),.s (.int .u8 a0.Pre),bs a0.PreNum,bv a0.Post,bs a0.PostNum,bv a0.Dev,bs a0.DevNum,.fsl 1 (List.map cS a0.Local)]],1⟩ ?_
  refine jK 4 (FU a0.DevNum a0.Dev) ?_
  intro x10 h10
  refine jG 5 2 ⟨[V 1 (pt 0 9),V 58 (bv (!x10))],[W 0 9 [bs a0.Epoch,.fsl 1 (List.map cS a0.Release),.s (.int .u8 a0.Pre),bs a0.PreNum,bv a0.Post,bs a0.PostNum,bv a0.Dev,bs a0.DevNum,.fsl 1 (List.map cS a0.Local)]],1⟩ ?_
  refine AQ rfl ?_
  exact AK rfl (wkR [(0,some 0)] (AH _) (pc (hC 0) AB))
 intro x9
 refine jN ?_
 refine jIf ?_ ?_
 ·refine jS ⟨[V 2 (bv false)],[],1⟩ ?_
  refine AO ?_
  refine AZ ?_
  exact AP (.inr rfl) (v:=bv false) (by kernel_rfl) rfl (AE _)
 refine AS ?_
 refine AN ?_
 refine jR ?_
 refine jG 0 2 ⟨[V 1 (pt 0 9),V 60 (.fsl 1 (List.map cS a0.Release))],[W 0 9 [bs a0.Epoch,.fsl 1 (List.map cS a0.Release),.s (.int .u8 a0.Pre),bs a0.PreNum,bv a0.Post,bs a0.PostNum,bv a0.Dev,bs a0.DevNum,.fsl 1 (List.map cS a0.Local)]],1⟩ ?_
 refine jK 2 (Dt a0.Release) ?_
 intro x11 h11
 refine jG 3 2 ⟨[V 1 (pt 0 9),V 63 (bv (!x11))],[W 0 9 [bs a0.Epoch,.fsl 1 (List.map cS a0.Release),.s (.int .u8 a0.Pre),bs a0.PreNum,bv a0.Post,bs a0.PostNum,bv a0.Dev,bs a0.DevNum,.fsl 1 (List.map cS a0.Local)]],1⟩ ?_
 refine Ak 5 5 (fun x13=>⟨[V 68 (bv x13)],[],0⟩) ?_ ?_
 ·refine jSp 63 ?_ ?_
  ·refine jG 0 2 ⟨[(63,.lit true),V 65 (.fsl 1 (List.map cS a0.Local))],[],1⟩ ?_
   refine jK 2 (Dw a0.Local) ?_
   intro x14 h14
   refine jG 3 2 ⟨[V 68 (bv (!x14))],[],1⟩ ?_
   refine AQ rfl ?_
   exact AK rfl (wkR [] (AH _) AB)
  refine jG 0 5 ⟨[V 68 (bv false)],[],1⟩ ?_
  refine AQ rfl ?_
  exact AK rfl (wkR [] (AH _) AB)
 intro x13
 refine jG 10 1 ⟨[V 2 (bv x13)],[],0⟩ ?_
 refine jN ?_
 refine AO ?_
 exact AP (.inr rfl) (v:=bv x13) (by kernel_rfl) rfl (AE _))
abbrev XQ:List LO:=[lo 2 (.assign (.const (.string ⟨#[]⟩))) 9]
abbrev YO:List LO:=[lo 2 (.assign (.const (.string ⟨#[48]⟩))) 9]
abbrev Q8:LC:=.seq (.reg false XQ) (.seq (.reg false YO) .ret)
theorem Z0:BE E 89 3 [.tmp 2] Q8:=⟨⟨Go.Proofs.Tryz.f89,by kernel_rfl,by kernel_rfl,by kernel_rfl,by kernel_rfl,by kernel_rfl⟩,rfl,rfl⟩
noncomputable def HU (a0:Int):Option (Str):=some [48]
theorem PA (a0:Int):Ct E 89 [iv a0] (HU a0) (fun r:Str=>bs r):=Ad (N:=3) (L:=Q8) Z0 rfl (Nat.le_of_ble_eq_true rfl) (by kernel_rfl) (by
 unfold HU
 refine jS ⟨[],[],0⟩ ?_
 refine jS ⟨[V 2 (bs [48])],[],0⟩ ?_
 refine AO ?_
 exact AP (.inr rfl) (v:=bs [48]) (by kernel_rfl) rfl (AE _))
end Go.Vm

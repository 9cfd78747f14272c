/- The law PyspecBack, a part of its proof: what the functions that it reaches compute. -/
import Derived.Test.YtdenfejaedgehaaGreatDoorG0PyspecBack
set_option linter.unusedVariables false
set_option linter.unusedSimpArgs false
set_option maxRecDepth 100000
set_option maxHeartbeats 0
set_option linter.unusedVariables false
set_option linter.unusedSimpArgs false
namespace Go.Vm
open Go
abbrev Me:List LO:=[lo 8 (.assign (.const (.int .i64 0))) 3]
abbrev MJ:List LO:=[lm 13 0 32,lo 14 (.call ⟨.builtin .len,#[.tmp 13],#[32]⟩) 3,lm 15 1 32,lo 16 (.call ⟨.builtin .len,#[.tmp 15],#[32]⟩) 3,lo 17 (.call ⟨.builtin .max,#[.tmp 14,.tmp 16],#[3,3]⟩) 3,lo 18 (.move (.const (.int .i64 0))) 3]
abbrev LI:List LO:=[lo 19 (.binOp .lss 3 (.tmp 18) (.tmp 17) 3) 4]
abbrev MR:List LO:=[lm 20 18 3,lo 9 (.assign (.tmp 20)) 3]
abbrev MK:List LO:=[lm 21 2 100,lm 22 9 3,lo 23 (.call ⟨.value (.tmp 21),#[.tmp 22],#[3]⟩) 9,lm 24 2 100,lm 25 9 3,lo 26 (.call ⟨.value (.tmp 24),#[.tmp 25],#[3]⟩) 9,lo 10 (.assign (.tmp 23)) 9,lo 11 (.assign (.tmp 26)) 9]
abbrev L8:List LO:=[lm 27 9 3,lm 28 0 32,lo 29 (.call ⟨.builtin .len,#[.tmp 28],#[32]⟩) 3,lo 30 (.binOp .lss 3 (.tmp 27) (.tmp 29) 3) 4]
abbrev L7:List LO:=[lm 31 0 32,lm 32 9 3,lo 33 (.indexAddr 32 (.tmp 31) (.tmp 32)) 0,lo 34 (.load 9 (.tmp 33)) 9,lo 10 (.assign (.tmp 34)) 9]
abbrev Mo:List LO:=[lm 35 9 3,lm 36 1 32,lo 37 (.call ⟨.builtin .len,#[.tmp 36],#[32]⟩) 3,lo 38 (.binOp .lss 3 (.tmp 35) (.tmp 37) 3) 4]
abbrev Ms:List LO:=[lm 39 1 32,lm 40 9 3,lo 41 (.indexAddr 32 (.tmp 39) (.tmp 40)) 0,lo 42 (.load 9 (.tmp 41)) 9,lo 11 (.assign (.tmp 42)) 9]
abbrev LZ:List LO:=[lm 43 3 99,lm 44 10 9,lm 45 11 9,lo 46 (.call ⟨.value (.tmp 43),#[.tmp 44,.tmp 45],#[9,9]⟩) 3,lo 12 (.assign (.tmp 46)) 3]
abbrev Lf:List LO:=[lm 47 12 3,lo 48 (.binOp .neq 3 (.tmp 47) (.const (.int .i64 0)) 3) 4]
abbrev LE:List LO:=[lm 49 12 3,lo 8 (.assign (.tmp 49)) 3]
abbrev Ll:List LO:=[lo 50 (.binOp .add 3 (.tmp 18) (.const (.int .i64 1)) 3) 3,lm 18 50 3]
abbrev Lp:List LO:=[lo 8 (.assign (.const (.int .i64 0))) 3]
abbrev Gd:LC:=.seq (.reg false Me) (.seq (.seq (.reg false MJ) (.block 0 (.loop (.seq (.reg false LI) (.seq (.cond (.tmp 19) .skip (.exit 0)) (.seq (.block 1 (.seq (.reg false MR) (.seq (.reg false MK) (.seq (.seq (.reg false L8) (.cond (.tmp 30) (.reg false L7) .skip)) (.seq (.seq (.reg false Mo) (.cond (.tmp 38) (.reg false Ms) .skip)) (.seq (.reg false LZ) (.seq (.reg false Lf) (.cond (.tmp 48) (.seq (.reg false LE) .ret) .skip)))))))) (.reg false Ll))))))) (.seq (.reg false Lp) .ret))
theorem NK:BE E 93 51 [.tmp 8] Gd:=⟨⟨Go.Proofs.Tryz.f93,by kernel_rfl,by kernel_rfl,by kernel_rfl,by kernel_rfl,by kernel_rfl⟩,rfl,rfl⟩
noncomputable def Ch (a0:(List Str)) (a1:(List Str)):Int→Option (Step (Int) ((Int) ⊕ (Unit))):=fun x8=>(if (decide (x8 < (if (List.length a1:Int) > (List.length a0:Int) then (List.length a1:Int) else (List.length a0:Int))))=true then Option.bind (HU x8) (fun x18=>Option.bind (HU x8) (fun x19=>Option.bind ((if (decide (x8 < (List.length a0:Int)))=true then Option.bind (ixl a0 x8) (fun x22=>some x22) else some x18):Option (Str)) (fun x21=>Option.bind ((if (decide (x8 < (List.length a1:Int)))=true then Option.bind (ixl a1 x8) (fun x25=>some x25) else some x19):Option (Str)) (fun x24=>Option.bind (Fk x21 x24) (fun x26=>(if (x26 != 0)=true then some (Step.done (Sum.inl x26)) else some (Step.next (w64 (x8 + 1))))))))) else some (Step.done (Sum.inr ())))
noncomputable def Cc (a0:(List Str)) (a1:(List Str)):Option (Int):=Option.bind (Bi (Ch a0 a1) 0) (fun y=>match y with | Sum.inl x17=>some x17 | Sum.inr _=>some 0)
theorem Mf (a0:(List Str)) (a1:(List Str)):Ct E 93 [.fsl 1 (List.map cS a0),.fsl 1 (List.map cS a1),.fn 89 [],.fn 92 []] (Cc a0 a1) (fun r:Int=>iv r):=Ad (N:=51) (L:=Gd) NK rfl (Nat.le_of_ble_eq_true rfl) (by kernel_rfl) (by
 unfold Cc
 refine jS ⟨[V 0 (.fsl 1 (List.map cS a0)),V 1 (.fsl 1 (List.map cS a1)),V 2 (.fn 89 []),V 3 (.fn 92 [])],[],0⟩ ?_
 refine AT ?_
 refine jR ?_
 refine jG 0 6 ⟨[V 0 (.fsl 1 (List.map cS a0)),V 1 (.fsl 1 (List.map cS a1)),V 2 (.fn 89 []),V 3 (.fn 92 []),V 17 (iv (if (List.length (List.map cS a1):Int) > (List.length (List.map cS a0):Int) then (List.length (List.map cS a1):Int) else (List.length (List.map cS a0):Int))),V 18 (iv 0)],[],0⟩ ?_
 simp only[List.length_map]
 refine jN ?_
 refine Ai ?_
 refine As (fun y=>match y with | Sum.inl x17=>⟨[V 8 (iv x17)],[],0⟩ | Sum.inr _=>⟨[],[],0⟩) (fun y=>match y with | Sum.inl x17=>.ret | Sum.inr _=>(.exit 0)) (Cj (fun x8=>⟨[V 0 (.fsl 1 (List.map cS a0)),V 1 (.fsl 1 (List.map cS a1)),V 2 (.fn 89 []),V 3 (.fn 92 []),V 17 (iv (if (List.length a1:Int) > (List.length a0:Int) then (List.length a1:Int) else (List.length a0:Int))),V 18 (iv x8)],[],0⟩) (wkR [] (AH _) AB) ?_) ?_
 ·intro x8
  unfold Ch
  refine jS ⟨[V 0 (.fsl 1 (List.map cS a0)),V 1 (.fsl 1 (List.map cS a1)),V 2 (.fn 89 []),V 3 (.fn 92 []),V 17 (iv (if (List.length a1:Int) > (List.length a0:Int) then (List.length a1:Int) else (List.length a0:Int))),V 18 (iv x8),V 19 (bv (decide (x8 < (if (List.length a1:Int) > (List.length a0:Int) then (List.length a1:Int) else (List.length a0:Int)))))],[],0⟩ ?_
  refine AT ?_
  refine jIf ?_ ?_
  ·refine AS ?_
   refine AN ?_
   refine AT ?_
   refine Ai ?_
   refine jS ⟨[V 0 (.fsl 1 (List.map cS a0)),V 1 (.fsl 1 (List.map cS a1)),V 2 (.fn 89 []),V 3 (.fn 92 []),V 9 (iv x8),V 17 (iv (if (List.length a1:Int) > (List.length a0:Int) then (List.length a1:Int) else (List.length a0:Int))),V 18 (iv x8)],[],0⟩ ?_
   refine jR ?_
   refine jG 0 2 ⟨[V 0 (.fsl 1 (List.map cS a0)),V 1 (.fsl 1 (List.map cS a1)),V 2 (.fn 89 []),V 3 (.fn 92 []),V 9 (iv x8),V 17 (iv (if (List.length a1:Int) > (List.length a0:Int) then (List.length a1:Int) else (List.length a0:Int))),V 18 (iv x8),V 21 (.fn 89 []),V 22 (iv x8)],[],0⟩ ?_
   refine B1 (i:=2) rfl rfl rfl rfl (g:=89) (caps:=[]) (avs:=[iv x8]) (vs:=[iv x8]) (by kernel_rfl) (by kernel_rfl) rfl (AL rfl (Aw _)) (AJ (AE _) Aj) (PA x8) (fun _=>rfl) (fun _=>rfl) ?_
   intro x18 h18
   refine jG 3 2 ⟨[V 0 (.fsl 1 (List.map cS a0)),V 1 (.fsl 1 (List.map cS a1)),V 2 (.fn 89 []),V 3 (.fn 92 []),V 9 (iv x8),V 17 (iv (if (List.length a1:Int) > (List.length a0:Int) then (List.length a1:Int) else (List.length a0:Int))),V 18 (iv x8),V 23 (bs x18),V 24 (.fn 89 []),V 25 (iv x8)],[],0⟩ ?_
   refine B1 (i:=5) rfl rfl rfl rfl (g:=89) (caps:=[]) (avs:=[iv x8]) (vs:=[iv x8]) (by kernel_rfl) (by kernel_rfl) rfl (AL rfl (Aw _)) (AJ (AE _) Aj) (PA x8) (fun _=>rfl) (fun _=>rfl) ?_
   intro x19 h19
   refine jG 6 2 ⟨[V 0 (.fsl 1 (List.map cS a0)),V 1 (.fsl 1 (List.map cS a1)),V 2 (.fn 89 []),V 3 (.fn 92 []),V 9 (iv x8),V 10 (bs x18),V 11 (bs x19),V 17 (iv (if (List.length a1:Int) > (List.length a0:Int) then (List.length a1:Int) else (List.length a0:Int))),V 18 (iv x8)],[],0⟩ ?_
   refine jN ?_
   refine AT ?_
   refine As (fun x21=>⟨[V 0 (.fsl 1 (List.map cS a0)),V 1 (.fsl 1 (List.map cS a1)),V 2 (.fn 89 []),V 3 (.fn 92 []),V 9 (iv x8),V 10 (bs x21),V 11 (bs x19),V 17 (iv (if (List.length a1:Int) > (List.length a0:Int) then (List.length a1:Int) else (List.length a0:Int))),V 18 (iv x8)],[],0⟩) (fun x21=>.normal) ?_ ?_
   ·refine jR ?_
    refine jG 0 4 ⟨[V 0 (.fsl 1 (List.map cS a0)),V 1 (.fsl 1 (List.map cS a1)),V 2 (.fn 89 []),V 3 (.fn 92 []),V 9 (iv x8),V 10 (bs x18),V 11 (bs x19),V 17 (iv (if (List.length a1:Int) > (List.length a0:Int) then (List.length a1:Int) else (List.length a0:Int))),V 18 (iv x8),V 30 (bv (decide (x8 < (List.length (List.map cS a0):Int))))],[],0⟩ ?_
    simp only[List.length_map]
    refine jN ?_
    refine jIf ?_ ?_
    ·refine CA ?_
     refine jG 0 2 ⟨[V 0 (.fsl 1 (List.map cS a0)),V 1 (.fsl 1 (List.map cS a1)),V 2 (.fn 89 []),V 3 (.fn 92 []),V 9 (iv x8),V 11 (bs x19),V 17 (iv (if (List.length a1:Int) > (List.length a0:Int) then (List.length a1:Int) else (List.length a0:Int))),V 18 (iv x8),V 31 (.fsl 1 (List.map cS a0)),V 32 (iv x8)],[],0⟩ ?_
     refine An (i:=2) (mo:=ixl a0 x8) rfl rfl rfl rfl (fun _ hc=>Da (c:=cS) (sz:=1) (e:=9) (kk:=.i64) (by kernel_rfl) (by kernel_rfl) (by kernel_rfl) (by kernel_rfl) hc) (fun _=>rfl) ?_
     intro x22 h22
     refine jG 3 2 ⟨[V 0 (.fsl 1 (List.map cS a0)),V 1 (.fsl 1 (List.map cS a1)),V 2 (.fn 89 []),V 3 (.fn 92 []),V 9 (iv x8),V 10 (bs x22),V 11 (bs x19),V 17 (iv (if (List.length a1:Int) > (List.length a0:Int) then (List.length a1:Int) else (List.length a0:Int))),V 18 (iv x8)],[],0⟩ ?_
     refine AQ rfl ?_
     exact AK rfl (wkR [] (AH _) AB)
    refine AS ?_
    exact AK rfl (wkR [] (AH _) AB)
   intro x21
   refine AN ?_
   refine AT ?_
   refine As (fun x24=>⟨[V 0 (.fsl 1 (List.map cS a0)),V 1 (.fsl 1 (List.map cS a1)),V 2 (.fn 89 []),V 3 (.fn 92 []),V 10 (bs x21),V 11 (bs x24),V 17 (iv (if (List.length a1:Int) > (List.length a0:Int) then (List.length a1:Int) else (List.length a0:Int))),V 18 (iv x8)],[],0⟩) (fun x24=>.normal) ?_ ?_
   ·refine jR ?_
    refine jG 0 4 ⟨[V 0 (.fsl 1 (List.map cS a0)),V 1 (.fsl 1 (List.map cS a1)),V 2 (.fn 89 []),V 3 (.fn 92 []),V 9 (iv x8),V 10 (bs x21),V 11 (bs x19),V 17 (iv (if (List.length a1:Int) > (List.length a0:Int) then (List.length a1:Int) else (List.length a0:Int))),V 18 (iv x8),V 38 (bv (decide (x8 < (List.length (List.map cS a1):Int))))],[],0⟩ ?_
    simp only[List.length_map]
    refine jN ?_
    refine jIf ?_ ?_
    ·refine CA ?_
     refine jG 0 2 ⟨[V 0 (.fsl 1 (List.map cS a0)),V 1 (.fsl 1 (List.map cS a1)),V 2 (.fn 89 []),V 3 (.fn 92 []),V 10 (bs x21),V 17 (iv (if (List.length a1:Int) > (List.length a0:Int) then (List.length a1:Int) else (List.length a0:Int))),V 18 (iv x8),V 39 (.fsl 1 (List.map cS a1)),V 40 (iv x8)],[],0⟩ ?_
     refine An (i:=2) (mo:=ixl a1 x8) rfl rfl rfl rfl (fun _ hc=>Da (c:=cS) (sz:=1) (e:=9) (kk:=.i64) (by kernel_rfl) (by kernel_rfl) (by kernel_rfl) (by kernel_rfl) hc) (fun _=>rfl) ?_
     intro x25 h25
     refine jG 3 2 ⟨[V 0 (.fsl 1 (List.map cS a0)),V 1 (.fsl 1 (List.map cS a1)),V 2 (.fn 89 []),V 3 (.fn 92 []),V 10 (bs x21),V 11 (bs x25),V 17 (iv (if (List.length a1:Int) > (List.length a0:Int) then (List.length a1:Int) else (List.length a0:Int))),V 18 (iv x8)],[],0⟩ ?_
     refine AQ rfl ?_
     exact AK rfl (wkR [] (AH _) AB)
    refine AS ?_
    exact AK rfl (wkR [] (AH _) AB)
   intro x24
   refine AN ?_
   refine jR ?_
   refine jG 0 3 ⟨[V 0 (.fsl 1 (List.map cS a0)),V 1 (.fsl 1 (List.map cS a1)),V 2 (.fn 89 []),V 3 (.fn 92 []),V 17 (iv (if (List.length a1:Int) > (List.length a0:Int) then (List.length a1:Int) else (List.length a0:Int))),V 18 (iv x8),V 43 (.fn 92 []),V 44 (bs x21),V 45 (bs x24)],[],0⟩ ?_
   refine B1 (i:=3) rfl rfl rfl rfl (g:=92) (caps:=[]) (avs:=[bs x21,bs x24]) (vs:=[bs x21,bs x24]) (by kernel_rfl) (by kernel_rfl) rfl (AL rfl (AL rfl (Aw _))) (AJ (AE _) (AJ (AE _) Aj)) (Fz x21 x24) (fun _=>rfl) (fun _=>rfl) ?_
   intro x26 h26
   refine jG 4 1 ⟨[V 0 (.fsl 1 (List.map cS a0)),V 1 (.fsl 1 (List.map cS a1)),V 2 (.fn 89 []),V 3 (.fn 92 []),V 12 (iv x26),V 17 (iv (if (List.length a1:Int) > (List.length a0:Int) then (List.length a1:Int) else (List.length a0:Int))),V 18 (iv x8)],[],0⟩ ?_
   refine jN ?_
   refine jS ⟨[V 0 (.fsl 1 (List.map cS a0)),V 1 (.fsl 1 (List.map cS a1)),V 2 (.fn 89 []),V 3 (.fn 92 []),V 12 (iv x26),V 17 (iv (if (List.length a1:Int) > (List.length a0:Int) then (List.length a1:Int) else (List.length a0:Int))),V 18 (iv x8),V 48 (bv (x26 != 0))],[],0⟩ ?_
   refine jIf ?_ ?_
   ·refine jS ⟨[V 8 (iv x26)],[],0⟩ ?_
    refine AO ?_
    refine Aq ?_
    refine AZ ?_
    exact BD rfl nofun (wkR [] (AH _) AB)
   refine AS ?_
   refine A8 ?_
   refine AN ?_
   refine jT ⟨[V 0 (.fsl 1 (List.map cS a0)),V 1 (.fsl 1 (List.map cS a1)),V 2 (.fn 89 []),V 3 (.fn 92 []),V 17 (iv (if (List.length a1:Int) > (List.length a0:Int) then (List.length a1:Int) else (List.length a0:Int))),V 18 (iv (w64 (x8 + 1)))],[],0⟩ ?_
   exact Ck (wkR [] (AH _) AB)
  refine CN ?_
  refine CM ?_
  exact BD rfl nofun (wkR [] (AH _) AB)
 rintro (x17 | _)
 ·refine Aq ?_
  refine AZ ?_
  exact AP (.inr rfl) (v:=iv x17) (by kernel_rfl) rfl (AE _)
 refine CY ?_
 refine AN ?_
 refine jS ⟨[V 8 (iv 0)],[],0⟩ ?_
 refine AO ?_
 exact AP (.inr rfl) (v:=iv 0) (by kernel_rfl) rfl (AE _))
abbrev Xp:List LO:=[lo 2 (.assign (.const (.string ⟨#[]⟩))) 9]
abbrev Xl:List LO:=[lo 2 (.assign (.const (.string ⟨#[]⟩))) 9]
abbrev Qz:LC:=.seq (.reg false Xp) (.seq (.reg false Xl) .ret)
theorem ZJ:BE E 90 3 [.tmp 2] Qz:=⟨⟨Go.Proofs.Tryz.f90,by kernel_rfl,by kernel_rfl,by kernel_rfl,by kernel_rfl,by kernel_rfl⟩,rfl,rfl⟩
noncomputable def Hh (a0:Int):Option (Str):=some []
theorem Oy (a0:Int):Ct E 90 [iv a0] (Hh a0) (fun r:Str=>bs r):=Ad (N:=3) (L:=Qz) ZJ rfl (Nat.le_of_ble_eq_true rfl) (by kernel_rfl) (by
 unfold Hh
 refine jS ⟨[],[],0⟩ ?_
 refine jS ⟨[V 2 (bs [])],[],0⟩ ?_
 refine AO ?_
 exact AP (.inr rfl) (v:=bs []) (by kernel_rfl) rfl (AE _))
abbrev SL:List LO:=[lo 2 (.assign (.const (.bool false))) 4]
abbrev SK:List LO:=[lm 3 0 9,lo 4 (.binOp .neq 9 (.tmp 3) (.const (.string ⟨#[]⟩)) 9) 4,lm 5 4 4,lmg 6 0 9 5 true,lg 7 (.call ⟨.value (.func 69),#[.tmp 6,.const (.int .i64 0),.const (.int .i64 1)],#[9,3,3]⟩) 3 5 true,lmg 8 0 9 5 true,lg 9 (.call ⟨.builtin .len,#[.tmp 8],#[9]⟩) 3 5 true,lg 10 (.binOp .eql 3 (.tmp 7) (.tmp 9) 3) 4 5 true,lo 11 (.pick (.tmp 5) (.tmp 10) (.const (.bool false))) 4,lo 2 (.assign (.tmp 11)) 4]
abbrev Kx:LC:=.seq (.reg false SL) (.seq (.reg false SK) .ret)
theorem Te:BE E 118 12 [.tmp 2] Kx:=⟨⟨Go.Proofs.Tryz.f118,by kernel_rfl,by kernel_rfl,by kernel_rfl,by kernel_rfl,by kernel_rfl⟩,rfl,rfl⟩
noncomputable def DE (a0:Str):Option (Bool):=Option.bind (if (!(a0 == []))=true then Option.bind (Cq a0 0 1) (fun x3=>some (x3 == (List.length a0:Int))) else some false:Option (Bool)) (fun x2=>some x2)
theorem Jt (a0:Str):Ct E 118 [bs a0] (DE a0) (fun r:Bool=>bv r):=Ad (N:=12) (L:=Kx) Te rfl (Nat.le_of_ble_eq_true rfl) (by kernel_rfl) (by
 unfold DE
 refine jS ⟨[V 0 (bs a0)],[],0⟩ ?_
 refine jR ?_
 refine jG 0 3 ⟨[V 0 (bs a0),V 5 (bv (!(a0 == [])))],[],0⟩ ?_
 refine Ak 3 6 (fun x2=>⟨[V 11 (bv x2)],[],0⟩) ?_ ?_
 ·refine jSp 5 ?_ ?_
  ·refine jG 0 1 ⟨[V 0 (bs a0),(5,.lit true),V 6 (bs a0)],[],0⟩ ?_
   refine jK 1 (Dm a0 0 1) ?_
   intro x3 h3
   refine jG 2 4 ⟨[V 11 (bv (x3 == (List.length a0:Int)))],[],0⟩ ?_
   refine AQ rfl ?_
   exact AK rfl (wkR [] (AH _) AB)
  refine jG 0 6 ⟨[V 11 (bv false)],[],0⟩ ?_
  refine AQ rfl ?_
  exact AK rfl (wkR [] (AH _) AB)
 intro x2
 refine jG 9 1 ⟨[V 2 (bv x2)],[],0⟩ ?_
 refine jN ?_
 refine AO ?_
 exact AP (.inr rfl) (v:=bv x2) (by kernel_rfl) rfl (AE _))
abbrev LR:List LO:=[lo 3 (.assign (.const (.int .i64 0))) 3]
abbrev Lo:List LO:=[lm 5 0 9,lo 6 (.binOp .eql 9 (.tmp 5) (.const (.string ⟨#[]⟩)) 9) 4,lo 4 (.assign (.tmp 6)) 4]
abbrev LK:List LO:=[lo 3 (.assign (.const (.int .i64 0))) 3]
abbrev Lk:List LO:=[lo 8 (.load 31 (.tmp 1)) 31,lm 9 0 9,lo 10 (.call ⟨.value (.tmp 8),#[.tmp 9],#[9]⟩) 4,lo 7 (.assign (.tmp 10)) 4]
abbrev LB:List LO:=[lo 3 (.assign (.const (.int .i64 2))) 3]
abbrev K8:List LO:=[lo 3 (.assign (.const (.int .i64 1))) 3]
abbrev F3:LC:=.seq (.reg false LR) (.seq (.block 0 (.seq (.reg false Lo) (.cond (.tmp 4) (.seq (.reg false LK) .ret) (.seq (.reg false Lk) (.cond (.tmp 7) (.seq (.reg false LB) .ret) .skip))))) (.seq (.reg false K8) .ret))
theorem MO:BE E 119 11 [.tmp 3] F3:=⟨⟨Go.Proofs.Tryz.f119,by kernel_rfl,by kernel_rfl,by kernel_rfl,by kernel_rfl,by kernel_rfl⟩,rfl,rfl⟩
noncomputable def Bt (a0:Str):Option (Int):=(if (a0 == [])=true then some 0 else Option.bind (DE a0) (fun x1=>(if x1=true then some 2 else some 1)))
theorem Fa (a0:Str):Ct E 119 [bs a0,.fptr [.fn 118 []] 0] (Bt a0) (fun r:Int=>iv r):=Ad (N:=11) (L:=F3) MO rfl (Nat.le_of_ble_eq_true rfl) (by kernel_rfl) (by
 unfold Bt
 refine jS ⟨[V 0 (bs a0),V 1 (.fptr [.fn 118 []] 0)],[],0⟩ ?_
 refine AT ?_
 refine Ai ?_
 refine jS ⟨[V 0 (bs a0),V 1 (.fptr [.fn 118 []] 0),V 4 (bv (a0 == []))],[],0⟩ ?_
 refine jIf ?_ ?_
 ·refine jS ⟨[V 3 (iv 0)],[],0⟩ ?_
  refine AO ?_
  refine Aq ?_
  refine AZ ?_
  exact AP (.inr rfl) (v:=iv 0) (by kernel_rfl) rfl (AE _)
 refine jR ?_
 refine jG 0 2 ⟨[V 8 (.fn 118 []),V 9 (bs a0)],[],0⟩ ?_
 refine B1 (i:=2) rfl rfl rfl rfl (g:=118) (caps:=[]) (avs:=[bs a0]) (vs:=[bs a0]) (by kernel_rfl) (by kernel_rfl) rfl (AL rfl (Aw _)) (AJ (AE _) Aj) (Jt a0) (fun _=>rfl) (fun _=>rfl) ?_
 intro x1 h1
 refine jG 3 1 ⟨[V 7 (bv x1)],[],0⟩ ?_
 refine jN ?_
 refine jIf ?_ ?_
 ·refine jS ⟨[V 3 (iv 2)],[],0⟩ ?_
  refine AO ?_
  refine Aq ?_
  refine AZ ?_
  exact AP (.inr rfl) (v:=iv 2) (by kernel_rfl) rfl (AE _)
 refine AS ?_
 refine A8 ?_
 refine AN ?_
 refine jS ⟨[V 3 (iv 1)],[],0⟩ ?_
 refine AO ?_
 exact AP (.inr rfl) (v:=iv 1) (by kernel_rfl) rfl (AE _))
abbrev UO:List LO:=[lo 4 (.assign (.const (.int .i64 0))) 3]
abbrev Uh:List LO:=[lo 5 (.alloc 31) 0,ln (.store 31 (.tmp 5) (.func 118)) 0]
abbrev Uu:List LO:=[lo 8 (.makeFunc (Fn.func 119) #[] #[.tmp 5]) 118,lo 6 (.assign (.tmp 8)) 118]
abbrev Uw:List LO:=[lm 9 6 118,lm 10 0 9,lo 11 (.call ⟨.value (.tmp 9),#[.tmp 10],#[9]⟩) 3,lm 12 6 118,lm 13 1 9,lo 14 (.call ⟨.value (.tmp 12),#[.tmp 13],#[9]⟩) 3,lo 15 (.call ⟨.value (.func 94),#[.tmp 11,.tmp 14],#[3,3]⟩) 3,lo 7 (.assign (.tmp 15)) 3]
abbrev UR:List LO:=[lm 16 7 3,lo 17 (.binOp .neq 3 (.tmp 16) (.const (.int .i64 0)) 3) 4]
abbrev Ut:List LO:=[lm 18 7 3,lo 4 (.assign (.tmp 18)) 3]
abbrev Uq:List LO:=[lo 19 (.load 31 (.tmp 5)) 31,lm 20 0 9,lo 21 (.call ⟨.value (.tmp 19),#[.tmp 20],#[9]⟩) 4]
abbrev UM:List LO:=[lm 22 0 9,lm 23 1 9,lo 24 (.call ⟨.value (.func 92),#[.tmp 22,.tmp 23],#[9,9]⟩) 3,lo 4 (.assign (.tmp 24)) 3]
abbrev Ux:List LO:=[lm 25 0 9,lm 26 1 9,lo 27 (.call ⟨.value (.func 116),#[.tmp 25,.tmp 26],#[9,9]⟩) 3,lo 4 (.assign (.tmp 27)) 3]
abbrev Nx:LC:=.seq (.reg false UO) (.seq (.reg false Uh) (.seq (.reg false Uu) (.seq (.seq (.reg false Uw) (.seq (.reg false UR) (.cond (.tmp 17) (.seq (.reg false Ut) .ret) .skip))) (.seq (.seq (.reg false Uq) (.cond (.tmp 21) (.seq (.reg false UM) .ret) .skip)) (.seq (.reg false Ux) .ret)))))
theorem WD:BE E 97 28 [.tmp 4] Nx:=⟨⟨Go.Proofs.Tryz.f97,by kernel_rfl,by kernel_rfl,by kernel_rfl,by kernel_rfl,by kernel_rfl⟩,rfl,rfl⟩
noncomputable def Ff (a0:Str) (a1:Str):Option (Int):=Option.bind (Bt a0) (fun x1=>Option.bind (Bt a1) (fun x2=>Option.bind (Co x1 x2) (fun x3=>(if (x3 != 0)=true then some x3 else Option.bind (DE a0) (fun x4=>(if x4=true then Option.bind (Fk a0 a1) (fun x5=>some x5) else Option.bind (D6 a0 a1) (fun x6=>some x6)))))))
theorem VA (a0:Str) (a1:Str):Ct E 97 [bs a0,bs a1] (Ff a0 a1) (fun r:Int=>iv r):=Ad (N:=28) (L:=Nx) WD rfl (Nat.le_of_ble_eq_true rfl) (by kernel_rfl) (by
 unfold Ff
 refine jS ⟨[V 0 (bs a0),V 1 (bs a1)],[],0⟩ ?_
 refine jS ⟨[V 0 (bs a0),V 1 (bs a1),V 5 (pt 0 1)],[W 0 1 [.fn 118 []]],1⟩ ?_
 refine jS ⟨[V 0 (bs a0),V 1 (bs a1),V 5 (pt 0 1),V 6 (.fn 119 [pt 0 1])],[W 0 1 [.fn 118 []]],1⟩ ?_
 refine AT ?_
 refine jR ?_
 refine jG 0 2 ⟨[V 0 (bs a0),V 1 (bs a1),V 5 (pt 0 1),V 6 (.fn 119 [pt 0 1]),V 9 (.fn 119 [pt 0 1]),V 10 (bs a0)],[W 0 1 [.fn 118 []]],1⟩ ?_
 refine B1 (i:=2) rfl rfl rfl rfl (g:=119) (caps:=[pt 0 1]) (avs:=[bs a0]) (vs:=[bs a0,pt 0 1]) (vs0:=[bs a0,.fptr [.fn 118 []] 0]) (b:=true) (by kernel_rfl) (by kernel_rfl) rfl (by kernel_rfl) (AJ (AE _) (AJ (AE _) Aj)) (Fa a0) (fun _=>rfl) (fun _=>rfl) ?_
 intro x1 h1
 refine jG 3 2 ⟨[V 0 (bs a0),V 1 (bs a1),V 5 (pt 0 1),V 11 (iv x1),V 12 (.fn 119 [pt 0 1]),V 13 (bs a1)],[W 0 1 [.fn 118 []]],1⟩ ?_
 refine B1 (i:=5) rfl rfl rfl rfl (g:=119) (caps:=[pt 0 1]) (avs:=[bs a1]) (vs:=[bs a1,pt 0 1]) (vs0:=[bs a1,.fptr [.fn 118 []] 0]) (b:=true) (by kernel_rfl) (by kernel_rfl) rfl (by kernel_rfl) (AJ (AE _) (AJ (AE _) Aj)) (Fa a1) (fun _=>rfl) (fun _=>rfl) ?_
 intro x2 h2
 refine jK 6 (Fs x1 x2) ?_
 intro x3 h3
 refine jG 7 1 ⟨[V 0 (bs a0),V 1 (bs a1),V 5 (pt 0 1),V 7 (iv x3)],[W 0 1 [.fn 118 []]],1⟩ ?_
 refine jN ?_
 refine jS ⟨[V 0 (bs a0),V 1 (bs a1),V 5 (pt 0 1),V 7 (iv x3),V 17 (bv (x3 != 0))],[W 0 1 [.fn 118 []]],1⟩ ?_
 refine jIf ?_ ?_
 ·refine jS ⟨[V 4 (iv x3)],[],1⟩ ?_
  refine AO ?_
  refine AZ ?_
  exact AP (.inr rfl) (v:=iv x3) (by kernel_rfl) rfl (AE _)
 refine AS ?_
 refine AN ?_
 refine AT ?_
 refine jR ?_
 refine jG 0 2 ⟨[V 0 (bs a0),V 1 (bs a1),V 19 (.fn 118 []),V 20 (bs a0)],[],1⟩ ?_
 refine B1 (i:=2) rfl rfl rfl rfl (g:=118) (caps:=[]) (avs:=[bs a0]) (vs:=[bs a0]) (by kernel_rfl) (by kernel_rfl) rfl (AL rfl (Aw _)) (AJ (AE _) Aj) (Jt a0) (fun _=>rfl) (fun _=>rfl) ?_
 intro x4 h4
 refine jN ?_
 refine jIf ?_ ?_
 ·refine jR ?_
  refine jG 0 2 ⟨[V 22 (bs a0),V 23 (bs a1)],[],1⟩ ?_
  refine jK 2 (Fz a0 a1) ?_
  intro x5 h5
  refine jG 3 1 ⟨[V 4 (iv x5)],[],1⟩ ?_
  refine jN ?_
  refine AO ?_
  refine AZ ?_
  exact AP (.inr rfl) (v:=iv x5) (by kernel_rfl) rfl (AE _)
 refine AS ?_
 refine AN ?_
 refine jR ?_
 refine jG 0 2 ⟨[V 25 (bs a0),V 26 (bs a1)],[],1⟩ ?_
 refine jK 2 (J0 a0 a1) ?_
 intro x6 h6
 refine jG 3 1 ⟨[V 4 (iv x6)],[],1⟩ ?_
 refine jN ?_
 refine AO ?_
 exact AP (.inr rfl) (v:=iv x6) (by kernel_rfl) rfl (AE _))
abbrev Ls:List LO:=[lo 8 (.assign (.const (.int .i64 0))) 3]
abbrev L0:List LO:=[lm 13 0 32,lo 14 (.call ⟨.builtin .len,#[.tmp 13],#[32]⟩) 3,lm 15 1 32,lo 16 (.call ⟨.builtin .len,#[.tmp 15],#[32]⟩) 3,lo 17 (.call ⟨.builtin .max,#[.tmp 14,.tmp 16],#[3,3]⟩) 3,lo 18 (.move (.const (.int .i64 0))) 3]
abbrev L1:List LO:=[lo 19 (.binOp .lss 3 (.tmp 18) (.tmp 17) 3) 4]
abbrev Lr:List LO:=[lm 20 18 3,lo 9 (.assign (.tmp 20)) 3]
abbrev Lt:List LO:=[lm 21 2 100,lm 22 9 3,lo 23 (.call ⟨.value (.tmp 21),#[.tmp 22],#[3]⟩) 9,lm 24 2 100,lm 25 9 3,lo 26 (.call ⟨.value (.tmp 24),#[.tmp 25],#[3]⟩) 9,lo 10 (.assign (.tmp 23)) 9,lo 11 (.assign (.tmp 26)) 9]
abbrev Lz:List LO:=[lm 27 9 3,lm 28 0 32,lo 29 (.call ⟨.builtin .len,#[.tmp 28],#[32]⟩) 3,lo 30 (.binOp .lss 3 (.tmp 27) (.tmp 29) 3) 4]
abbrev Ly:List LO:=[lm 31 0 32,lm 32 9 3,lo 33 (.indexAddr 32 (.tmp 31) (.tmp 32)) 0,lo 34 (.load 9 (.tmp 33)) 9,lo 10 (.assign (.tmp 34)) 9]
abbrev MC:List LO:=[lm 35 9 3,lm 36 1 32,lo 37 (.call ⟨.builtin .len,#[.tmp 36],#[32]⟩) 3,lo 38 (.binOp .lss 3 (.tmp 35) (.tmp 37) 3) 4]
abbrev Mg:List LO:=[lm 39 1 32,lm 40 9 3,lo 41 (.indexAddr 32 (.tmp 39) (.tmp 40)) 0,lo 42 (.load 9 (.tmp 41)) 9,lo 11 (.assign (.tmp 42)) 9]
abbrev LF:List LO:=[lm 43 3 99,lm 44 10 9,lm 45 11 9,lo 46 (.call ⟨.value (.tmp 43),#[.tmp 44,.tmp 45],#[9,9]⟩) 3,lo 12 (.assign (.tmp 46)) 3]
abbrev LX:List LO:=[lm 47 12 3,lo 48 (.binOp .neq 3 (.tmp 47) (.const (.int .i64 0)) 3) 4]
abbrev K6:List LO:=[lm 49 12 3,lo 8 (.assign (.tmp 49)) 3]
abbrev Lh:List LO:=[lo 50 (.binOp .add 3 (.tmp 18) (.const (.int .i64 1)) 3) 3,lm 18 50 3]
abbrev LS:List LO:=[lo 8 (.assign (.const (.int .i64 0))) 3]
abbrev GC:LC:=.seq (.reg false Ls) (.seq (.seq (.reg false L0) (.block 0 (.loop (.seq (.reg false L1) (.seq (.cond (.tmp 19) .skip (.exit 0)) (.seq (.block 1 (.seq (.reg false Lr) (.seq (.reg false Lt) (.seq (.seq (.reg false Lz) (.cond (.tmp 30) (.reg false Ly) .skip)) (.seq (.seq (.reg false MC) (.cond (.tmp 38) (.reg false Mg) .skip)) (.seq (.reg false LF) (.seq (.reg false LX) (.cond (.tmp 48) (.seq (.reg false K6) .ret) .skip)))))))) (.reg false Lh))))))) (.seq (.reg false LS) .ret))
theorem Nr:BE E 93 51 [.tmp 8] GC:=⟨⟨Go.Proofs.Tryz.f93,by kernel_rfl,by kernel_rfl,by kernel_rfl,by kernel_rfl,by kernel_rfl⟩,rfl,rfl⟩
noncomputable def Cm (a0:(List Str)) (a1:(List Str)):Int→Option (Step (Int) ((Int) ⊕ (Unit))):=fun x8=>(if (decide (x8 < (if (List.length a1:Int) > (List.length a0:Int) then (List.length a1:Int) else (List.length a0:Int))))=true then Option.bind (Hh x8) (fun x18=>Option.bind (Hh x8) (fun x19=>Option.bind ((if (decide (x8 < (List.length a0:Int)))=true then Option.bind (ixl a0 x8) (fun x22=>some x22) else some x18):Option (Str)) (fun x21=>Option.bind ((if (decide (x8 < (List.length a1:Int)))=true then Option.bind (ixl a1 x8) (fun x25=>some x25) else some x19):Option (Str)) (fun x24=>Option.bind (Ff x21 x24) (fun x26=>(if (x26 != 0)=true then some (Step.done (Sum.inl x26)) else some (Step.next (w64 (x8 + 1))))))))) else some (Step.done (Sum.inr ())))
noncomputable def Cf (a0:(List Str)) (a1:(List Str)):Option (Int):=Option.bind (Bi (Cm a0 a1) 0) (fun y=>match y with | Sum.inl x17=>some x17 | Sum.inr _=>some 0)
theorem MP (a0:(List Str)) (a1:(List Str)):Ct E 93 [.fsl 1 (List.map cS a0),.fsl 1 (List.map cS a1),.fn 90 [],.fn 97 []] (Cf a0 a1) (fun r:Int=>iv r):=Ad (N:=51) (L:=GC) Nr rfl (Nat.le_of_ble_eq_true rfl) (by kernel_rfl) (by
 unfold Cf
 refine jS ⟨[V 0 (.fsl 1 (List.map cS a0)),V 1 (.fsl 1 (List.map cS a1)),V 2 (.fn 90 []),V 3 (.fn 97 [])],[],0⟩ ?_
 refine AT ?_
 refine jR ?_
 refine jG 0 6 ⟨[V 0 (.fsl 1 (List.map cS a0)),V 1 (.fsl 1 (List.map cS a1)),V 2 (.fn 90 []),V 3 (.fn 97 []),V 17 (iv (if (List.length (List.map cS a1):Int) > (List.length (List.map cS a0):Int) then (List.length (List.map cS a1):Int) else (List.length (List.map cS a0):Int))),V 18 (iv 0)],[],0⟩ ?_
 simp only[List.length_map]
 refine jN ?_
 refine Ai ?_
 refine As (fun y=>match y with | Sum.inl x17=>⟨[V 8 (iv x17)],[],0⟩ | Sum.inr _=>⟨[],[],0⟩) (fun y=>match y with | Sum.inl x17=>.ret | Sum.inr _=>(.exit 0)) (Cj (fun x8=>⟨[V 0 (.fsl 1 (List.map cS a0)),V 1 (.fsl 1 (List.map cS a1)),V 2 (.fn 90 []),V 3 (.fn 97 []),V 17 (iv (if (List.length a1:Int) > (List.length a0:Int) then (List.length a1:Int) else (List.length a0:Int))),V 18 (iv x8)],[],0⟩) (wkR [] (AH _) AB) ?_) ?_
 ·intro x8
  unfold Cm
  refine jS ⟨[V 0 (.fsl 1 (List.map cS a0)),V 1 (.fsl 1 (List.map cS a1)),V 2 (.fn 90 []),V 3 (.fn 97 []),V 17 (iv (if (List.length a1:Int) > (List.length a0:Int) then (List.length a1:Int) else (List.length a0:Int))),V 18 (iv x8),V 19 (bv (decide (x8 < (if (List.length a1:Int) > (List.length a0:Int) then (List.length a1:Int) else (List.length a0:Int)))))],[],0⟩ ?_
  refine AT ?_
  refine jIf ?_ ?_
  ·refine AS ?_
   refine AN ?_
   refine AT ?_
   refine Ai ?_
   refine jS ⟨[V 0 (.fsl 1 (List.map cS a0)),V 1 (.fsl 1 (List.map cS a1)),V 2 (.fn 90 []),V 3 (.fn 97 []),V 9 (iv x8),V 17 (iv (if (List.length a1:Int) > (List.length a0:Int) then (List.length a1:Int) else (List.length a0:Int))),V 18 (iv x8)],[],0⟩ ?_
   refine jR ?_
   refine jG 0 2 ⟨[V 0 (.fsl 1 (List.map cS a0)),V 1 (.fsl 1 (List.map cS a1)),V 2 (.fn 90 []),V 3 (.fn 97 []),V 9 (iv x8),V 17 (iv (if (List.length a1:Int) > (List.length a0:Int) then (List.length a1:Int) else (List.length a0:Int))),V 18 (iv x8),V 21 (.fn 90 []),V 22 (iv x8)],[],0⟩ ?_
   refine B1 (i:=2) rfl rfl rfl rfl (g:=90) (caps:=[]) (avs:=[iv x8]) (vs:=[iv x8]) (by kernel_rfl) (by kernel_rfl) rfl (AL rfl (Aw _)) (AJ (AE _) Aj) (Oy x8) (fun _=>rfl) (fun _=>rfl) ?_
   intro x18 h18
   refine jG 3 2 ⟨[V 0 (.fsl 1 (List.map cS a0)),V 1 (.fsl 1 (List.map cS a1)),V 2 (.fn 90 []),V 3 (.fn 97 []),V 9 (iv x8),V 17 (iv (if (List.length a1:Int) > (List.length a0:Int) then (List.length a1:Int) else (List.length a0:Int))),V 18 (iv x8),V 23 (bs x18),V 24 (.fn 90 []),V 25 (iv x8)],[],0⟩ ?_
   refine B1 (i:=5) rfl rfl rfl rfl (g:=90) (caps:=[]) (avs:=[iv x8]) (vs:=[iv x8]) (by kernel_rfl) (by kernel_rfl) rfl (AL rfl (Aw _)) (AJ (AE _) Aj) (Oy x8) (fun _=>rfl) (fun _=>rfl) ?_
   intro x19 h19
   refine jG 6 2 ⟨[V 0 (.fsl 1 (List.map cS a0)),V 1 (.fsl 1 (List.map cS a1)),V 2 (.fn 90 []),V 3 (.fn 97 []),V 9 (iv x8),V 10 (bs x18),V 11 (bs x19),V 17 (iv (if (List.length a1:Int) > (List.length a0:Int) then (List.length a1:Int) else (List.length a0:Int))),V 18 (iv x8)],[],0⟩ ?_
   refine jN ?_
   refine AT ?_
   refine As (fun x21=>⟨[V 0 (.fsl 1 (List.map cS a0)),V 1 (.fsl 1 (List.map cS a1)),V 2 (.fn 90 []),V 3 (.fn 97 []),V 9 (iv x8),V 10 (bs x21),V 11 (bs x19),V 17 (iv (if (List.length a1:Int) > (List.length a0:Int) then (List.length a1:Int) else (List.length a0:Int))),V 18 (iv x8)],[],0⟩) (fun x21=>.normal) ?_ ?_
   ·refine jR ?_
    refine jG 0 4 ⟨[V 0 (.fsl 1 (List.map cS a0)),V 1 (.fsl 1 (List.map cS a1)),V 2 (.fn 90 []),V 3 (.fn 97 []),V 9 (iv x8),V 10 (bs x18),V 11 (bs x19),V 17 (iv (if (List.length a1:Int) > (List.length a0:Int) then (List.length a1:Int) else (List.length a0:Int))),V 18 (iv x8),V 30 (bv (decide (x8 < (List.length (List.map cS a0):Int))))],[],0⟩ ?_
    simp only[List.length_map]
    refine jN ?_
    refine jIf ?_ ?_
    ·refine CA ?_
     refine jG 0 2 ⟨[V 0 (.fsl 1 (List.map cS a0)),V 1 (.fsl 1 (List.map cS a1)),V 2 (.fn 90 []),V 3 (.fn 97 []),V 9 (iv x8),V 11 (bs x19),V 17 (iv (if (List.length a1:Int) > (List.length a0:Int) then (List.length a1:Int) else (List.length a0:Int))),V 18 (iv x8),V 31 (.fsl 1 (List.map cS a0)),V 32 (iv x8)],[],0⟩ ?_
     refine An (i:=2) (mo:=ixl a0 x8) rfl rfl rfl rfl (fun _ hc=>Da (c:=cS) (sz:=1) (e:=9) (kk:=.i64) (by kernel_rfl) (by kernel_rfl) (by kernel_rfl) (by kernel_rfl) hc) (fun _=>rfl) ?_
     intro x22 h22
     refine jG 3 2 ⟨[V 0 (.fsl 1 (List.map cS a0)),V 1 (.fsl 1 (List.map cS a1)),V 2 (.fn 90 []),V 3 (.fn 97 []),V 9 (iv x8),V 10 (bs x22),V 11 (bs x19),V 17 (iv (if (List.length a1:Int) > (List.length a0:Int) then (List.length a1:Int) else (List.length a0:Int))),V 18 (iv x8)],[],0⟩ ?_
     refine AQ rfl ?_
     exact AK rfl (wkR [] (AH _) AB)
    refine AS ?_
    exact AK rfl (wkR [] (AH _) AB)
   intro x21
   refine AN ?_
   refine AT ?_
   refine As (fun x24=>⟨[V 0 (.fsl 1 (List.map cS a0)),V 1 (.fsl 1 (List.map cS a1)),V 2 (.fn 90 []),V 3 (.fn 97 []),V 10 (bs x21),V 11 (bs x24),V 17 (iv (if (List.length a1:Int) > (List.length a0:Int) then (List.length a1:Int) else (List.length a0:Int))),V 18 (iv x8)],[],0⟩) (fun x24=>.normal) ?_ ?_
   ·refine jR ?_
    refine jG 0 4 ⟨[V 0 (.fsl 1 (List.map cS a0)),V 1 (.fsl 1 (List.map cS a1)),V 2 (.fn 90 []),V 3 (.fn 97 []),V 9 (iv x8),V 10 (bs x21),V 11 (bs x19),V 17 (iv (if (List.length a1:Int) > (List.length a0:Int) then (List.length a1:Int) else (List.length a0:Int))),V 18 (iv x8),V 38 (bv (decide (x8 < (List.length (List.map cS a1):Int))))],[],0⟩ ?_
    simp only[List.length_map]
    refine jN ?_
    refine jIf ?_ ?_
    ·refine CA ?_
     refine jG 0 2 ⟨[V 0 (.fsl 1 (List.map cS a0)),V 1 (.fsl 1 (List.map cS a1)),V 2 (.fn 90 []),V 3 (.fn 97 []),V 10 (bs x21),V 17 (iv (if (List.length a1:Int) > (List.length a0:Int) then (List.length a1:Int) else (List.length a0:Int))),V 18 (iv x8),V 39 (.fsl 1 (List.map cS a1)),V 40 (iv x8)],[],0⟩ ?_
     refine An (i:=2) (mo:=ixl a1 x8) rfl rfl rfl rfl (fun _ hc=>Da (c:=cS) (sz:=1) (e:=9) (kk:=.i64) (by kernel_rfl) (by kernel_rfl) (by kernel_rfl) (by kernel_rfl) hc) (fun _=>rfl) ?_
     intro x25 h25
     refine jG 3 2 ⟨[V 0 (.fsl 1 (List.map cS a0)),V 1 (.fsl 1 (List.map cS a1)),V 2 (.fn 90 []),V 3 (.fn 97 []),V 10 (bs x21),V 11 (bs x25),V 17 (iv (if (List.length a1:Int) > (List.length a0:Int) then (List.length a1:Int) else (List.length a0:Int))),V 18 (iv x8)],[],0⟩ ?_
     refine AQ rfl ?_
     exact AK rfl (wkR [] (AH _) AB)
    refine AS ?_
    exact AK rfl (wkR [] (AH _) AB)
   intro x24
   refine AN ?_
   refine jR ?_
   refine jG 0 3 ⟨[V 0 (.fsl 1 (List.map cS a0)),V 1 (.fsl 1 (List.map cS a1)),V 2 (.fn 90 []),V 3 (.fn 97 []),V 17 (iv (if (List.length a1:Int) > (List.length a0:Int) then (List.length a1:Int) else (List.length a0:Int))),V 18 (iv x8),V 43 (.fn 97 []),V 44 (bs x21),V 45 (bs x24)],[],0⟩ ?_
   refine B1 (i:=3) rfl rfl rfl rfl (g:=97) (caps:=[]) (avs:=[bs x21,bs x24]) (vs:=[bs x21,bs x24]) (by kernel_rfl) (by kernel_rfl) rfl (AL rfl (AL rfl (Aw _))) (AJ (AE _) (AJ (AE _) Aj)) (VA x21 x24) (fun _=>rfl) (fun _=>rfl) ?_
   intro x26 h26
   refine jG 4 1 ⟨[V 0 (.fsl 1 (List.map cS a0)),V 1 (.fsl 1 (List.map cS a1)),V 2 (.fn 90 []),V 3 (.fn 97 []),V 12 (iv x26),V 17 (iv (if (List.length a1:Int) > (List.length a0:Int) then (List.length a1:Int) else (List.length a0:Int))),V 18 (iv x8)],[],0⟩ ?_
   refine jN ?_
   refine jS ⟨[V 0 (.fsl 1 (List.map cS a0)),V 1 (.fsl 1 (List.map cS a1)),V 2 (.fn 90 []),V 3 (.fn 97 []),V 12 (iv x26),V 17 (iv (if (List.length a1:Int) > (List.length a0:Int) then (List.length a1:Int) else (List.length a0:Int))),V 18 (iv x8),V 48 (bv (x26 != 0))],[],0⟩ ?_
   refine jIf ?_ ?_
   ·refine jS ⟨[V 8 (iv x26)],[],0⟩ ?_
    refine AO ?_
    refine Aq ?_
    refine AZ ?_
    exact BD rfl nofun (wkR [] (AH _) AB)
   refine AS ?_
   refine A8 ?_
   refine AN ?_
   refine jT ⟨[V 0 (.fsl 1 (List.map cS a0)),V 1 (.fsl 1 (List.map cS a1)),V 2 (.fn 90 []),V 3 (.fn 97 []),V 17 (iv (if (List.length a1:Int) > (List.length a0:Int) then (List.length a1:Int) else (List.length a0:Int))),V 18 (iv (w64 (x8 + 1)))],[],0⟩ ?_
   exact Ck (wkR [] (AH _) AB)
  refine CN ?_
  refine CM ?_
  exact BD rfl nofun (wkR [] (AH _) AB)
 rintro (x17 | _)
 ·refine Aq ?_
  refine AZ ?_
  exact AP (.inr rfl) (v:=iv x17) (by kernel_rfl) rfl (AE _)
 refine CY ?_
 refine AN ?_
 refine jS ⟨[V 8 (iv 0)],[],0⟩ ?_
 refine AO ?_
 exact AP (.inr rfl) (v:=iv 0) (by kernel_rfl) rfl (AE _))
abbrev fL:List LO:=[lo 1 (.box 34 (.tmp 0)) 0,lo 2 (.assign (.const (.int .i64 0))) 3]
abbrev b8:List LO:=[lo 4 (.fieldAddr 34 (.tmp 1) 2) 0,lo 5 (.load 5 (.tmp 4)) 5,lo 6 (.binOp .eql 5 (.tmp 5) (.const (.int .u8 0)) 5) 4,lm 7 6 4,lg 8 (.fieldAddr 34 (.tmp 1) 4) 0 7 true,lg 9 (.load 4 (.tmp 8)) 4 7 true,lg 10 (.unOp .not 4 (.tmp 9)) 4 7 true,lo 11 (.pick (.tmp 7) (.tmp 10) (.const (.bool false))) 4,lm 12 11 4,lg 13 (.fieldAddr 34 (.tmp 1) 6) 0 12 true,lg 14 (.load 4 (.tmp 13)) 4 12 true,lo 15 (.pick (.tmp 12) (.tmp 14) (.const (.bool false))) 4,lo 3 (.assign (.tmp 15)) 4]
abbrev eK:List LO:=[lo 2 (.assign (.const (.int .i64 0))) 3]
abbrev dF:List LO:=[lo 17 (.fieldAddr 34 (.tmp 1) 2) 0,lo 18 (.load 5 (.tmp 17)) 5,lo 19 (.binOp .eql 5 (.tmp 18) (.const (.int .u8 0)) 5) 4,lo 16 (.assign (.tmp 19)) 4]
abbrev cJ:List LO:=[lo 2 (.assign (.const (.int .i64 4))) 3]
abbrev fQ:List LO:=[lo 21 (.fieldAddr 34 (.tmp 1) 2) 0,lo 22 (.load 5 (.tmp 21)) 5,lo 23 (.binOp .eql 5 (.tmp 22) (.const (.int .u8 97)) 5) 4,lo 20 (.assign (.tmp 23)) 4]
abbrev dH:List LO:=[lo 2 (.assign (.const (.int .i64 1))) 3]
abbrev cC:List LO:=[lo 25 (.fieldAddr 34 (.tmp 1) 2) 0,lo 26 (.load 5 (.tmp 25)) 5,lo 27 (.binOp .eql 5 (.tmp 26) (.const (.int .u8 98)) 5) 4,lo 24 (.assign (.tmp 27)) 4]
abbrev cK:List LO:=[lo 2 (.assign (.const (.int .i64 2))) 3]
abbrev Y0:List LO:=[lo 2 (.assign (.const (.int .i64 3))) 3]
abbrev VZ:LC:=.seq (.reg false fL) (.seq (.block 0 (.seq (.reg false b8) (.cond (.tmp 3) (.seq (.reg false eK) .ret) (.seq (.reg false dF) (.cond (.tmp 16) (.seq (.reg false cJ) .ret) (.seq (.reg false fQ) (.cond (.tmp 20) (.seq (.reg false dH) .ret) (.seq (.reg false cC) (.cond (.tmp 24) (.seq (.reg false cK) .ret) .skip))))))))) (.seq (.reg false Y0) .ret))
theorem iU:BE E 95 28 [.tmp 2] VZ:=⟨⟨Go.Proofs.Tryz.f95,by kernel_rfl,by kernel_rfl,by kernel_rfl,by kernel_rfl,by kernel_rfl⟩,rfl,rfl⟩
noncomputable def Jj (a0:AF):Option (Int):=(if (((a0.Pre == 0) && (!a0.Post)) && a0.Dev)=true then some 0 else (if (a0.Pre == 0)=true then some 4 else (if (a0.Pre == 97)=true then some 1 else (if (a0.Pre == 98)=true then some 2 else some 3))))
theorem TL (a0:AF):Ct E 95 [.agg [bs a0.Epoch,.fsl 1 (List.map cS a0.Release),.s (.int .u8 a0.Pre),bs a0.PreNum,bv a0.Post,bs a0.PostNum,bv a0.Dev,bs a0.DevNum,.fsl 1 (List.map cS a0.Local)]] (Jj a0) (fun r:Int=>iv r):=Ad (N:=28) (L:=VZ) iU rfl (Nat.le_of_ble_eq_true rfl) (by kernel_rfl) (by
 unfold Jj
 refine jS ⟨[V 1 (pt 0 9)],[W 0 9 [bs a0.Epoch,.fsl 1 (List.map cS a0.Release),.s (.int .u8 a0.Pre),bs a0.PreNum,bv a0.Post,bs a0.PostNum,bv a0.Dev,bs a0.DevNum,.fsl 1 (List.map cS a0.Local)]],1⟩ ?_
 refine AT ?_
 refine Ai ?_
 refine jS ⟨[V 1 (pt 0 9),V 3 (bv (((a0.Pre == 0) && (!a0.Post)) && a0.Dev))],[W 0 9 [bs a0.Epoch,.fsl 1 (List.map cS a0.Release),.s (.int .u8 a0.Pre),bs a0.PreNum,bv a0.Post,bs a0.PostNum,bv a0.Dev,bs a0.DevNum,.fsl 1 (List.map cS a0.Local)]],1⟩ ?_
 refine jIf ?_ ?_
 ·refine jS ⟨[V 2 (iv 0)],[],1⟩ ?_
  refine AO ?_
  refine Aq ?_
  refine AZ ?_
  exact AP (.inr rfl) (v:=iv 0) (by kernel_rfl) rfl (AE _)
 refine jS ⟨[V 1 (pt 0 9),V 16 (bv (a0.Pre == 0))],[W 0 9 [bs a0.Epoch,.fsl 1 (List.map cS a0.Release),.s (.int .u8 a0.Pre),bs a0.PreNum,bv a0.Post,bs a0.PostNum,bv a0.Dev,bs a0.DevNum,.fsl 1 (List.map cS a0.Local)]],1⟩ ?_
 refine jIf ?_ ?_
 ·refine jS ⟨[V 2 (iv 4)],[],1⟩ ?_
  refine AO ?_
  refine Aq ?_
  refine AZ ?_
  exact AP (.inr rfl) (v:=iv 4) (by kernel_rfl) rfl (AE _)
 refine jS ⟨[V 1 (pt 0 9),V 20 (bv (a0.Pre == 97))],[W 0 9 [bs a0.Epoch,.fsl 1 (List.map cS a0.Release),.s (.int .u8 a0.Pre),bs a0.PreNum,bv a0.Post,bs a0.PostNum,bv a0.Dev,bs a0.DevNum,.fsl 1 (List.map cS a0.Local)]],1⟩ ?_
 refine jIf ?_ ?_
 ·refine jS ⟨[V 2 (iv 1)],[],1⟩ ?_
  refine AO ?_
  refine Aq ?_
  refine AZ ?_
  exact AP (.inr rfl) (v:=iv 1) (by kernel_rfl) rfl (AE _)
 refine jS ⟨[V 24 (bv (a0.Pre == 98))],[],1⟩ ?_
 refine jIf ?_ ?_
 ·refine jS ⟨[V 2 (iv 2)],[],1⟩ ?_
  refine AO ?_
  refine Aq ?_
  refine AZ ?_
  exact AP (.inr rfl) (v:=iv 2) (by kernel_rfl) rfl (AE _)
 refine AS ?_
 refine A8 ?_
 refine AN ?_
 refine jS ⟨[V 2 (iv 3)],[],1⟩ ?_
 refine AO ?_
 exact AP (.inr rfl) (v:=iv 3) (by kernel_rfl) rfl (AE _))
abbrev dX:List LO:=[lo 2 (.assign (.const (.int .i64 0))) 3]
abbrev cY:List LO:=[lm 3 0 4]
abbrev f0:List LO:=[lo 2 (.assign (.const (.int .i64 1))) 3]
abbrev eU:List LO:=[lo 2 (.assign (.const (.int .i64 0))) 3]
abbrev VT:LC:=.seq (.reg false dX) (.seq (.seq (.reg false cY) (.cond (.tmp 3) (.seq (.reg false f0) .ret) .skip)) (.seq (.reg false eU) .ret))
theorem kE:BE E 96 4 [.tmp 2] VT:=⟨⟨Go.Proofs.Tryz.f96,by kernel_rfl,by kernel_rfl,by kernel_rfl,by kernel_rfl,by kernel_rfl⟩,rfl,rfl⟩
noncomputable def HL (a0:Bool):Option (Int):=(if a0=true then some 1 else some 0)
theorem Jh (a0:Bool):Ct E 96 [bv a0] (HL a0) (fun r:Int=>iv r):=Ad (N:=4) (L:=VT) kE rfl (Nat.le_of_ble_eq_true rfl) (by kernel_rfl) (by
 unfold HL
 refine jS ⟨[V 0 (bv a0)],[],0⟩ ?_
 refine AT ?_
 refine jS ⟨[V 3 (bv a0)],[],0⟩ ?_
 refine jIf ?_ ?_
 ·refine jS ⟨[V 2 (iv 1)],[],0⟩ ?_
  refine AO ?_
  refine AZ ?_
  exact AP (.inr rfl) (v:=iv 1) (by kernel_rfl) rfl (AE _)
 refine AS ?_
 refine AN ?_
 refine jS ⟨[V 2 (iv 0)],[],0⟩ ?_
 refine AO ?_
 exact AP (.inr rfl) (v:=iv 0) (by kernel_rfl) rfl (AE _))
abbrev eX:List LO:=[lo 2 (.box 34 (.tmp 0)) 0,lo 3 (.box 34 (.tmp 1)) 0,lo 4 (.assign (.const (.int .i64 0))) 3]
abbrev dK:List LO:=[lo 7 (.load 34 (.tmp 2)) 34,lo 8 (.call ⟨.value (.func 88),#[.tmp 7],#[34]⟩) 4,lo 9 (.unOp .not 4 (.tmp 8)) 4,lm 10 9 4,lg 11 (.load 34 (.tmp 3)) 34 10 false,lg 12 (.call ⟨.value (.func 88),#[.tmp 11],#[34]⟩) 4 10 false,lg 13 (.unOp .not 4 (.tmp 12)) 4 10 false,lo 14 (.pick (.tmp 10) (.const (.bool true)) (.tmp 13)) 4]
abbrev dZ:List LO:=[lo 4 (.assign (.const (.int .i64 0))) 3]
abbrev eE:List LO:=[lo 5 (.assign (.func 89)) 100]
abbrev b9:List LO:=[lo 6 (.assign (.func 90)) 100]
abbrev fR:List LO:=[lo 15 (.fieldAddr 34 (.tmp 2) 0) 0,lo 16 (.load 9 (.tmp 15)) 9,lo 17 (.fieldAddr 34 (.tmp 3) 0) 0,lo 18 (.load 9 (.tmp 17)) 9,lo 19 (.call ⟨.value (.func 92),#[.tmp 16,.tmp 18],#[9,9]⟩) 3,lo 20 (.fieldAddr 34 (.tmp 2) 1) 0,lo 21 (.load 32 (.tmp 20)) 32,lo 22 (.fieldAddr 34 (.tmp 3) 1) 0,lo 23 (.load 32 (.tmp 22)) 32,lm 24 5 100,lo 25 (.call ⟨.value (.func 93),#[.tmp 21,.tmp 23,.tmp 24,.func 92],#[32,32,100,99]⟩) 3,lo 26 (.load 34 (.tmp 2)) 34,lo 27 (.call ⟨.value (.func 95),#[.tmp 26],#[34]⟩) 3,lo 28 (.load 34 (.tmp 3)) 34,lo 29 (.call ⟨.value (.func 95),#[.tmp 28],#[34]⟩) 3,lo 30 (.call ⟨.value (.func 94),#[.tmp 27,.tmp 29],#[3,3]⟩) 3,lo 31 (.fieldAddr 34 (.tmp 2) 3) 0,lo 32 (.load 9 (.tmp 31)) 9,lo 33 (.fieldAddr 34 (.tmp 3) 3) 0,lo 34 (.load 9 (.tmp 33)) 9,lo 35 (.call ⟨.value (.func 92),#[.tmp 32,.tmp 34],#[9,9]⟩) 3,lo 36 (.fieldAddr 34 (.tmp 2) 4) 0,lo 37 (.load 4 (.tmp 36)) 4,lo 38 (.call ⟨.value (.func 96),#[.tmp 37],#[4]⟩) 3,lo 39 (.fieldAddr 34 (.tmp 3) 4) 0,lo 40 (.load 4 (.tmp 39)) 4,lo 41 (.call ⟨.value (.func 96),#[.tmp 40],#[4]⟩) 3,lo 42 (.binOp .sub 3 (.tmp 38) (.tmp 41) 3) 3,lo 43 (.fieldAddr 34 (.tmp 2) 5) 0,lo 44 (.load 9 (.tmp 43)) 9,lo 45 (.fieldAddr 34 (.tmp 3) 5) 0,lo 46 (.load 9 (.tmp 45)) 9,lo 47 (.call ⟨.value (.func 92),#[.tmp 44,.tmp 46],#[9,9]⟩) 3,lo 48 (.fieldAddr 34 (.tmp 3) 6) 0,lo 49 (.load 4 (.tmp 48)) 4,lo 50 (.call ⟨.value (.func 96),#[.tmp 49],#[4]⟩) 3,lo 51 (.fieldAddr 34 (.tmp 2) 6) 0,lo 52 (.load 4 (.tmp 51)) 4,lo 53 (.call ⟨.value (.func 96),#[.tmp 52],#[4]⟩) 3,lo 54 (.binOp .sub 3 (.tmp 50) (.tmp 53) 3) 3,lo 55 (.fieldAddr 34 (.tmp 2) 7) 0,lo 56 (.load 9 (.tmp 55)) 9,lo 57 (.fieldAddr 34 (.tmp 3) 7) 0,lo 58 (.load 9 (.tmp 57)) 9,lo 59 (.call ⟨.value (.func 92),#[.tmp 56,.tmp 58],#[9,9]⟩) 3,lo 60 (.fieldAddr 34 (.tmp 2) 8) 0,lo 61 (.load 32 (.tmp 60)) 32,lo 62 (.fieldAddr 34 (.tmp 3) 8) 0,lo 63 (.load 32 (.tmp 62)) 32,lm 64 6 100,lo 65 (.call ⟨.value (.func 93),#[.tmp 61,.tmp 63,.tmp 64,.func 97],#[32,32,100,99]⟩) 3,lo 66 (.buildSlice 117 9 #[(0,.tmp 19),(1,.tmp 25),(2,.tmp 30),(3,.tmp 35),(4,.tmp 42),(5,.tmp 47),(6,.tmp 54),(7,.tmp 59),(8,.tmp 65)]) 117,lo 67 (.call ⟨.value (.func 91),#[.tmp 66],#[117]⟩) 3,lo 4 (.assign (.tmp 67)) 3]
abbrev Vq:LC:=.seq (.reg false eX) (.seq (.seq (.reg false dK) (.cond (.tmp 14) (.seq (.reg false dZ) .ret) .skip)) (.seq (.reg false eE) (.seq (.reg false b9) (.seq (.reg true fR) .ret))))
theorem iO:BE E 65 68 [.tmp 4] Vq:=⟨⟨Go.Proofs.Tryz.f65,by kernel_rfl,by kernel_rfl,by kernel_rfl,by kernel_rfl,by kernel_rfl⟩,rfl,rfl⟩
noncomputable def EU (a0:AF) (a1:AF):Option (Int):=Option.bind (P5 a0) (fun x1=>Option.bind (if (!x1)=true then some true else Option.bind (P5 a1) (fun x4=>some (!x4)):Option (Bool)) (fun x3=>(if x3=true then some 0 else Option.bind (Fk a0.Epoch a1.Epoch) (fun x5=>Option.bind (Cc a0.Release a1.Release) (fun x6=>Option.bind (Jj a0) (fun x7=>Option.bind (Jj a1) (fun x8=>Option.bind (Co x7 x8) (fun x9=>Option.bind (Fk a0.PreNum a1.PreNum) (fun x10=>Option.bind (HL a0.Post) (fun x11=>Option.bind (HL a1.Post) (fun x12=>Option.bind (Fk a0.PostNum a1.PostNum) (fun x13=>Option.bind (HL a1.Dev) (fun x14=>Option.bind (HL a0.Dev) (fun x15=>Option.bind (Fk a0.DevNum a1.DevNum) (fun x16=>Option.bind (Cf a0.Local a1.Local) (fun x17=>Option.bind (G6 [x5,x6,x9,x10,(w64 (x11 - x12)),x13,(w64 (x14 - x15)),x16,x17]) (fun x18=>some x18)))))))))))))))))
theorem GG (a0:AF) (a1:AF):Ct E 65 [.agg [bs a0.Epoch,.fsl 1 (List.map cS a0.Release),.s (.int .u8 a0.Pre),bs a0.PreNum,bv a0.Post,bs a0.PostNum,bv a0.Dev,bs a0.DevNum,.fsl 1 (List.map cS a0.Local)],.agg [bs a1.Epoch,.fsl 1 (List.map cS a1.Release),.s (.int .u8 a1.Pre),bs a1.PreNum,bv a1.Post,bs a1.PostNum,bv a1.Dev,bs a1.DevNum,.fsl 1 (List.map cS a1.Local)]] (EU a0 a1) (fun r:Int=>iv r):=Ad (N:=68) (L:=Vq) iO rfl (Nat.le_of_ble_eq_true rfl) (by kernel_rfl) (by
 unfold EU
 refine jS ⟨[V 2 (pt 0 9),V 3 (pt 1 9)],[W 0 9 [bs a0.Epoch,.fsl 1 (List.map cS a0.Release),.s (.int .u8 a0.Pre),bs a0.PreNum,bv a0.Post,bs a0.PostNum,bv a0.Dev,bs a0.DevNum,.fsl 1 (List.map cS a0.Local)],W 1 9 [bs a1.Epoch,.fsl 1 (List.map cS a1.Release),.s (.int .u8 a1.Pre),bs a1.PreNum,bv a1.Post,bs a1.PostNum,bv a1.Dev,bs a1.DevNum,.fsl 1 (List.map cS a1.Local)]],2⟩ ?_
 refine AT ?_
 refine jR ?_
 refine jG 0 1 ⟨[V 2 (pt 0 9),V 3 (pt 1 9),V 7 (.agg [bs a0.Epoch,.fsl 1 (List.map cS a0.Release),.s (.int .u8 a0.Pre),bs a0.PreNum,bv a0.Post,bs a0.PostNum,bv a0.Dev,bs a0.DevNum,.fsl 1 (List.map cS a0.Local)])],[W 0 9 [bs a0.Epoch,.fsl 1 (List.map cS a0.Release),.s (.int .u8 a0.Pre),bs a0.PreNum,bv a0.Post,bs a0.PostNum,bv a0.Dev,bs a0.DevNum,.fsl 1 (List.map cS a0.Local)],W 1 9 [bs a1.Epoch,.fsl 1 (List.map cS a1.Release),.s (.int .u8 a1.Pre),bs a1.PreNum,bv a1.Post,bs a1.PostNum,bv a1.Dev,bs a1.DevNum,.fsl 1 (List.map cS a1.Local)]],2⟩ ?_
 refine jK 1 (YS a0) ?_
 intro x1 h1
 refine jG 2 2 ⟨[V 2 (pt 0 9),V 3 (pt 1 9),V 10 (bv (!x1))],[W 0 9 [bs a0.Epoch,.fsl 1 (List.map cS a0.Release),.s (.int .u8 a0.Pre),bs a0.PreNum,bv a0.Post,bs a0.PostNum,bv a0.Dev,bs a0.DevNum,.fsl 1 (List.map cS a0.Local)],W 1 9 [bs a1.Epoch,.fsl 1 (List.map cS a1.Release),.s (.int .u8 a1.Pre),bs a1.PreNum,bv a1.Post,bs a1.PostNum,bv a1.Dev,bs a1.DevNum,.fsl 1 (List.map cS a1.Local)]],2⟩ ?_
 refine Ak 4 4 (fun x3=>⟨[V 2 (pt 0 9),V 3 (pt 1 9),V 14 (bv x3)],[W 0 9 [bs a0.Epoch,.fsl 1 (List.map cS a0.Release),.s (.int .u8 a0.Pre),bs a0.PreNum,bv a0.Post,bs a0.PostNum,bv a0.Dev,bs a0.DevNum,.fsl 1 (List.map cS a0.Local)],W 1 9 [bs a1.Epoch,.fsl 1 (List.map cS a1.Release),.s (.int .u8 a1.Pre),bs a1.PreNum,bv a1.Post,bs a1.PostNum,bv a1.Dev,bs a1.DevNum,.fsl 1 (List.map cS a1.Local)]],2⟩) ?_ ?_
 ·refine jSp 10 ?_ ?_
  ·refine jG 0 4 ⟨[V 2 (pt 0 9),V 3 (pt 1 9),V 14 (bv true)],[W 0 9 [bs a0.Epoch,.fsl 1 (List.map cS a0.Release),.s (.int .u8 a0.Pre),bs a0.PreNum,bv a0.Post,bs a0.PostNum,bv a0.Dev,bs a0.DevNum,.fsl 1 (List.map cS a0.Local)],W 1 9 [bs a1.Epoch,.fsl 1 (List.map cS a1.Release),.s (.int .u8 a1.Pre),bs a1.PreNum,bv a1.Post,bs a1.PostNum,bv a1.Dev,bs a1.DevNum,.fsl 1 (List.map cS a1.Local)]],2⟩ ?_
   refine AQ rfl ?_
   exact AK rfl (wkR [(0,some 0),(1,some 1)] (AH _) (pc (hC 0) (pc (hC 1) AB)))
  refine jG 0 1 ⟨[V 2 (pt 0 9),V 3 (pt 1 9),(10,.lit false),V 11 (.agg [bs a1.Epoch,.fsl 1 (List.map cS a1.Release),.s (.int .u8 a1.Pre),bs a1.PreNum,bv a1.Post,bs a1.PostNum,bv a1.Dev,bs a1.DevNum,.fsl 1 (List.map cS a1.Local)])],[W 0 9 [bs a0.Epoch,.fsl 1 (List.map cS a0.Release),.s (.int .u8 a0.Pre),bs a0.PreNum,bv a0.Post,bs a0.PostNum,bv a0.Dev,bs a0.DevNum,.fsl 1 (List.map cS a0.Local)],W 1 9 [bs a1.Epoch,.fsl 1 (List.map cS a1.Release),.s (.int .u8 a1.Pre),bs a1.PreNum,bv a1.Post,bs a1.PostNum,bv a1.Dev,bs a1.DevNum,.fsl 1 (List.map cS a1.Local)]],2⟩ ?_
  refine jK 1 (YS a1) ?_
  intro x4 h4
  refine jG 2 2 ⟨[V 2 (pt 0 9),V 3 (pt 1 9),V 14 (bv (!x4))],[W 0 9 [bs a0.Epoch,.fsl 1 (List.map cS a0.Release),.s (.int .u8 a0.Pre),bs a0.PreNum,bv a0.Post,bs a0.PostNum,bv a0.Dev,bs a0.DevNum,.fsl 1 (List.map cS a0.Local)],W 1 9 [bs a1.Epoch,.fsl 1 (List.map cS a1.Release),.s (.int .u8 a1.Pre),bs a1.PreNum,bv a1.Post,bs a1.PostNum,bv a1.Dev,bs a1.DevNum,.fsl 1 (List.map cS a1.Local)]],2⟩ ?_
  refine AQ rfl ?_
  exact AK rfl (wkR [(0,some 0),(1,some 1)] (AH _) (pc (hC 0) (pc (hC 1) AB)))
 intro x3
 refine jN ?_
 refine jIf ?_ ?_
 ·refine jS ⟨[V 4 (iv 0)],[],2⟩ ?_
  refine AO ?_
  refine AZ ?_
  exact AP (.inr rfl) (v:=iv 0) (by kernel_rfl) rfl (AE _)
 refine AS ?_
 refine AN ?_
 refine jS ⟨[V 2 (pt 0 9),V 3 (pt 1 9),V 5 (.fn 89 [])],[W 0 9 [bs a0.Epoch,.fsl 1 (List.map cS a0.Release),.s (.int .u8 a0.Pre),bs a0.PreNum,bv a0.Post,bs a0.PostNum,bv a0.Dev,bs a0.DevNum,.fsl 1 (List.map cS a0.Local)],W 1 9 [bs a1.Epoch,.fsl 1 (List.map cS a1.Release),.s (.int .u8 a1.Pre),bs a1.PreNum,bv a1.Post,bs a1.PostNum,bv a1.Dev,bs a1.DevNum,.fsl 1 (List.map cS a1.Local)]],2⟩ ?_
 refine jS ⟨[V 2 (pt 0 9),V 3 (pt 1 9),V 5 (.fn 89 []),V 6 (.fn 90 [])],[W 0 9 [bs a0.Epoch,.fsl 1 (List.map cS a0.Release),.s (.int .u8 a0.Pre),bs a0.PreNum,bv a0.Post,bs a0.PostNum,bv a0.Dev,bs a0.DevNum,.fsl 1 (List.map cS a0.Local)],W 1 9 [bs a1.Epoch,.fsl 1 (List.map cS a1.Release),.s (.int .u8 a1.Pre),bs a1.PreNum,bv a1.Post,bs a1.PostNum,bv a1.Dev,bs a1.DevNum,.fsl 1 (List.map cS a1.Local)]],2⟩ ?_
 refine jR ?_
 refine jG 0 4 ⟨[V 2 (pt 0 9),V 3 (pt 1 9),V 5 (.fn 89 []),V 6 (.fn 90 []),V 16 (bs a0.Epoch),V 18 (bs a1.Epoch)],[W 0 9 [bs a0.Epoch,.fsl 1 (List.map cS a0.Release),.s (.int .u8 a0.Pre),bs a0.PreNum,bv a0.Post,bs a0.PostNum,bv a0.Dev,bs a0.DevNum,.fsl 1 (List.map cS a0.Local)],W 1 9 [bs a1.Epoch,.fsl 1 (List.map cS a1.Release),.s (.int .u8 a1.Pre),bs a1.PreNum,bv a1.Post,bs a1.PostNum,bv a1.Dev,bs a1.DevNum,.fsl 1 (List.map cS a1.Local)]],2⟩ ?_
 refine jK 4 (Fz a0.Epoch a1.Epoch) ?_
 intro x5 h5
 refine jG 5 5 ⟨[V 2 (pt 0 9),V 3 (pt 1 9),V 6 (.fn 90 []),V 19 (iv x5),V 21 (.fsl 1 (List.map cS a0.Release)),V 23 (.fsl 1 (List.map cS a1.Release)),V 24 (.fn 89 [])],[W 0 9 [bs a0.Epoch,.fsl 1 (List.map cS a0.Release),.s (.int .u8 a0.Pre),bs a0.PreNum,bv a0.Post,bs a0.PostNum,bv a0.Dev,bs a0.DevNum,.fsl 1 (List.map cS a0.Local)],W 1 9 [bs a1.Epoch,.fsl 1 (List.map cS a1.Release),.s (.int .u8 a1.Pre),bs a1.PreNum,bv a1.Post,bs a1.PostNum,bv a1.Dev,bs a1.DevNum,.fsl 1 (List.map cS a1.Local)]],2⟩ ?_
 refine jK 10 (Mf a0.Release a1.Release) ?_
 intro x6 h6
 refine jG 11 1 ⟨[V 2 (pt 0 9),V 3 (pt 1 9),V 6 (.fn 90 []),V 19 (iv x5),V 25 (iv x6),V 26 (.agg [bs a0.Epoch,.fsl 1 (List.map cS a0.Release),.s (.int .u8 a0.Pre),bs a0.PreNum,bv a0.Post,bs a0.PostNum,bv a0.Dev,bs a0.DevNum,.fsl 1 (List.map cS a0.Local)])],[W 0 9 [bs a0.Epoch,.fsl 1 (List.map cS a0.Release),.s (.int .u8 a0.Pre),bs a0.PreNum,bv a0.Post,bs a0.PostNum,bv a0.Dev,bs a0.DevNum,.fsl 1 (List.map cS a0.Local)],W 1 9 [bs a1.Epoch,.fsl 1 (List.map cS a1.Release),.s (.int .u8 a1.Pre),bs a1.PreNum,bv a1.Post,bs a1.PostNum,bv a1.Dev,bs a1.DevNum,.fsl 1 (List.map cS a1.Local)]],2⟩ ?_
 refine jK 12 (TL a0) ?_
 intro x7 h7
 refine jG 13 1 ⟨[V 2 (pt 0 9),V 3 (pt 1 9),V 6 (.fn 90 []),V 19 (iv x5),V 25 (iv x6),V 27 (iv x7),V 28 (.agg [bs a1.Epoch,.fsl 1 (List.map cS a1.Release),.s (.int .u8 a1.Pre),bs a1.PreNum,bv a1.Post,bs a1.PostNum,bv a1.Dev,bs a1.DevNum,.fsl 1 (List.map cS a1.Local)])],[W 0 9 [bs a0.Epoch,.fsl 1 (List.map cS a0.Release),.s (.int .u8 a0.Pre),bs a0.PreNum,bv a0.Post,bs a0.PostNum,bv a0.Dev,bs a0.DevNum,.fsl 1 (List.map cS a0.Local)],W 1 9 [bs a1.Epoch,.fsl 1 (List.map cS a1.Release),.s (.int .u8 a1.Pre),bs a1.PreNum,bv a1.Post,bs a1.PostNum,bv a1.Dev,bs a1.DevNum,.fsl 1 (List.map cS a1.Local)]],2⟩ ?_
 refine jK 14 (TL a1) ?_
 intro x8 h8
 refine jK 15 (Fs x7 x8) ?_
 intro x9 h9
 refine jG 16 4 ⟨[V 2 (pt 0 9),V 3 (pt 1 9),V 6 (.fn 90 []),V 19 (iv x5),V 25 (iv x6),V 30 (iv x9),V 32 (bs a0.PreNum),V 34 (bs a1.PreNum)],[W 0 9 [bs a0.Epoch,.fsl 1 (List.map cS a0.Release),.s (.int .u8 a0.Pre),bs a0.PreNum,bv a0.Post,bs a0.PostNum,bv a0.Dev,bs a0.DevNum,.fsl 1 (List.map cS a0.Local)],W 1 9 [bs a1.Epoch,.fsl 1 (List.map cS a1.Release),.s (.int .u8 a1.Pre),bs a1.PreNum,bv a1.Post,bs a1.PostNum,bv a1.Dev,bs a1.DevNum,.fsl 1 (List.map cS a1.Local)]],2⟩ ?_
 refine jK 20 (Fz a0.PreNum a1.PreNum) ?_
 intro x10 h10
 refine jG 21 2 ⟨[V 2 (pt 0 9),V 3 (pt 1 9),V 6 (.fn 90 []),V 19 (iv x5),V 25 (iv x6),V 30 (iv x9),V 35 (iv x10),V 37 (bv a0.Post)],[W 0 9 [bs a0.Epoch,.fsl 1 (List.map cS a0.Release),.s (.int .u8 a0.Pre),bs a0.PreNum,bv a0.Post,bs a0.PostNum,bv a0.Dev,bs a0.DevNum,.fsl 1 (List.map cS a0.Local)],W 1 9 [bs a1.Epoch,.fsl 1 (List.map cS a1.Release),.s (.int .u8 a1.Pre),bs a1.PreNum,bv a1.Post,bs a1.PostNum,bv a1.Dev,bs a1.DevNum,.fsl 1 (List.map cS a1.Local)]],2⟩ ?_
 refine jK 23 (Jh a0.Post) ?_
 intro x11 h11
 refine jG 24 2 ⟨[V 2 (pt 0 9),V 3 (pt 1 9),V 6 (.fn 90 []),V 19 (iv x5),V 25 (iv x6),V 30 (iv x9),V 35 (iv x10),V 38 (iv x11),V 40 (bv a1.Post)],[W 0 9 [bs a0.Epoch,.fsl 1 (List.map cS a0.Release),.s (.int .u8 a0.Pre),bs a0.PreNum,bv a0.Post,bs a0.PostNum,bv a0.Dev,bs a0.DevNum,.fsl 1 (List.map cS a0.Local)],W 1 9 [bs a1.Epoch,.fsl 1 (List.map cS a1.Release),.s (.int .u8 a1.Pre),bs a1.PreNum,bv a1.Post,bs a1.PostNum,bv a1.Dev,bs a1.DevNum,.fsl 1 (List.map cS a1.Local)]],2⟩ ?_
 refine jK 26 (Jh a1.Post) ?_
 intro x12 h12
 refine jG 27 5 ⟨[V 2 (pt 0 9),V 3 (pt 1 9),V 6 (.fn 90 []),V 19 (iv x5),V 25 (iv x6),V 30 (iv x9),V 35 (iv x10),V 42 (iv (w64 (x11 - x12))),V 44 (bs a0.PostNum),V 46 (bs a1.PostNum)],[W 0 9 [bs a0.Epoch,.fsl 1 (List.map cS a0.Release),.s (.int .u8 a0.Pre),bs a0.PreNum,bv a0.Post,bs a0.PostNum,bv a0.Dev,bs a0.DevNum,.fsl 1 (List.map cS a0.Local)],W 1 9 [bs a1.Epoch,.fsl 1 (List.map cS a1.Release),.s (.int .u8 a1.Pre),bs a1.PreNum,bv a1.Post,bs a1.PostNum,bv a1.Dev,bs a1.DevNum,.fsl 1 (List.map cS a1.Local)]],2⟩ ?_
 refine jK 32 (Fz a0.PostNum a1.PostNum) ?_
 intro x13 h13
 refine jG 33 2 ⟨[V 2 (pt 0 9),V 3 (pt 1 9),V 6 (.fn 90 []),V 19 (iv x5),V 25 (iv x6),V 30 (iv x9),V 35 (iv x10),V 42 (iv (w64 (x11 - x12))),V 47 (iv x13),V 49 (bv a1.Dev)],[W 0 9 [bs a0.Epoch,.fsl 1 (List.map cS a0.Release),.s (.int .u8 a0.Pre),bs a0.PreNum,bv a0.Post,bs a0.PostNum,bv a0.Dev,bs a0.DevNum,.fsl 1 (List.map cS a0.Local)],W 1 9 [bs a1.Epoch,.fsl 1 (List.map cS a1.Release),.s (.int .u8 a1.Pre),bs a1.PreNum,bv a1.Post,bs a1.PostNum,bv a1.Dev,bs a1.DevNum,.fsl 1 (List.map cS a1.Local)]],2⟩ ?_
 refine jK 35 (Jh a1.Dev) ?_
 intro x14 h14
 refine jG 36 2 ⟨[V 2 (pt 0 9),V 3 (pt 1 9),V 6 (.fn 90 []),V 19 (iv x5),V 25 (iv x6),V 30 (iv x9),V 35 (iv x10),V 42 (iv (w64 (x11 - x12))),V 47 (iv x13),V 50 (iv x14),V 52 (bv a0.Dev)],[W 0 9 [bs a0.Epoch,.fsl 1 (List.map cS a0.Release),.s (.int .u8 a0.Pre),bs a0.PreNum,bv a0.Post,bs a0.PostNum,bv a0.Dev,bs a0.DevNum,.fsl 1 (List.map cS a0.Local)],W 1 9 [bs a1.Epoch,.fsl 1 (List.map cS a1.Release),.s (.int .u8 a1.Pre),bs a1.PreNum,bv a1.Post,bs a1.PostNum,bv a1.Dev,bs a1.DevNum,.fsl 1 (List.map cS a1.Local)]],2⟩ ?_
 refine jK 38 (Jh a0.Dev) ?_
 intro x15 h15
 refine jG 39 5 ⟨[V 2 (pt 0 9),V 3 (pt 1 9),V 6 (.fn 90 []),V 19 (iv x5),V 25 (iv x6),V 30 (iv x9),V 35 (iv x10),V 42 (iv (w64 (x11 - x12))),V 47 (iv x13),V 54 (iv (w64 (x14 - x15))),V 56 (bs a0.DevNum),V 58 (bs a1.DevNum)],[W 0 9 [bs a0.Epoch,.fsl 1 (List.map cS a0.Release),.s (.int .u8 a0.Pre),bs a0.PreNum,bv a0.Post,bs a0.PostNum,bv a0.Dev,bs a0.DevNum,.fsl 1 (List.map cS a0.Local)],W 1 9 [bs a1.Epoch,.fsl 1 (List.map cS a1.Release),.s (.int .u8 a1.Pre),bs a1.PreNum,bv a1.Post,bs a1.PostNum,bv a1.Dev,bs a1.DevNum,.fsl 1 (List.map cS a1.Local)]],2⟩ ?_
 refine jK 44 (Fz a0.DevNum a1.DevNum) ?_
 intro x16 h16
 refine jG 45 5 ⟨[V 19 (iv x5),V 25 (iv x6),V 30 (iv x9),V 35 (iv x10),V 42 (iv (w64 (x11 - x12))),V 47 (iv x13),V 54 (iv (w64 (x14 - x15))),V 59 (iv x16),V 61 (.fsl 1 (List.map cS a0.Local)),V 63 (.fsl 1 (List.map cS a1.Local)),V 64 (.fn 90 [])],[],2⟩ ?_
 refine jK 50 (MP a0.Local a1.Local) ?_
 intro x17 h17
 refine jG 51 1 ⟨[V 66 (.fsl 1 (List.map cI [x5,x6,x9,x10,(w64 (x11 - x12)),x13,(w64 (x14 - x15)),x16,x17]))],[],2⟩ ?_
 refine jK 52 (Q4 [x5,x6,x9,x10,(w64 (x11 - x12)),x13,(w64 (x14 - x15)),x16,x17]) ?_
 intro x18 h18
 refine jG 53 1 ⟨[V 4 (iv x18)],[],2⟩ ?_
 refine jN ?_
 refine AO ?_
 exact AP (.inr rfl) (v:=iv x18) (by kernel_rfl) rfl (AE _))
abbrev Hn:List LO:=[lo 5 (.load 44 (.tmp 1)) 44,lo 6 (.call ⟨.value (.func 38),#[.tmp 5],#[44]⟩) 0]
abbrev Hr:List LO:=[lo 7 (.load 44 (.tmp 1)) 44,lo 8 (.nilCheck (.tmp 7)) 0,lo 9 (.fieldAddr 46 (.tmp 8) 1) 0,lo 10 (.load 3 (.tmp 9)) 3,lo 11 (.load 44 (.tmp 1)) 44,lo 12 (.nilCheck (.tmp 11)) 0,lo 13 (.fieldAddr 46 (.tmp 12) 0) 0,lo 14 (.load 9 (.tmp 13)) 9,lo 15 (.call ⟨.builtin .len,#[.tmp 14],#[9]⟩) 3,lo 16 (.binOp .geq 3 (.tmp 10) (.tmp 15) 3) 4]
abbrev H9:List LO:=[lo 3 (.assign (.const (.int .i64 0))) 3]
abbrev JF:List LO:=[lo 17 (.load 44 (.tmp 1)) 44,lo 18 (.call ⟨.value (.func 19),#[.tmp 17],#[44]⟩) 4]
abbrev HZ:List LO:=[lo 21 (.load 44 (.tmp 1)) 44,lo 22 (.call ⟨.value (.func 38),#[.tmp 21],#[44]⟩) 0]
abbrev Hz:List LO:=[lm 23 3 3,lo 24 (.binOp .eql 3 (.tmp 23) (.const (.int .i64 32)) 3) 4,lm 25 24 4,lg 26 (.load 44 (.tmp 1)) 44 25 true,lg 27 (.nilCheck (.tmp 26)) 0 25 true,lg 28 (.fieldAddr 46 (.tmp 27) 1) 0 25 true,lg 29 (.load 3 (.tmp 28)) 3 25 true,lg 30 (.load 44 (.tmp 1)) 44 25 true,lg 31 (.nilCheck (.tmp 30)) 0 25 true,lg 32 (.fieldAddr 46 (.tmp 31) 0) 0 25 true,lg 33 (.load 9 (.tmp 32)) 9 25 true,lg 34 (.call ⟨.builtin .len,#[.tmp 33],#[9]⟩) 3 25 true,lg 35 (.binOp .lss 3 (.tmp 29) (.tmp 34) 3) 4 25 true,lo 36 (.pick (.tmp 25) (.tmp 35) (.const (.bool false))) 4]
abbrev JE:List LO:=[lo 37 (.load 44 (.tmp 1)) 44,lo 38 (.load 44 (.tmp 1)) 44,lo 39 (.nilCheck (.tmp 38)) 0,lo 40 (.fieldAddr 46 (.tmp 39) 1) 0,lo 41 (.load 3 (.tmp 40)) 3,lo 42 (.call ⟨.value (.func 39),#[.tmp 37,.const (.int .i64 12),.tmp 41],#[44,23,3]⟩) 0]
abbrev Hf:List LO:=[lo 43 (.load 44 (.tmp 1)) 44,lo 44 (.call ⟨.value (.func 40),#[.tmp 43],#[44]⟩) 9,lo 45 (.build 39 #[(0,.tmp 44)]) 39,lo 4 (.alloc 39) 0,ln (.store 39 (.tmp 4) (.tmp 45)) 0]
abbrev Hv:List LO:=[lo 46 (.load 44 (.tmp 1)) 44,lo 47 (.call ⟨.value (.func 19),#[.tmp 46],#[44]⟩) 4,lo 48 (.unOp .not 4 (.tmp 47)) 4]
abbrev G3:List LO:=[lo 50 (.load 44 (.tmp 1)) 44,lo 51 (.fieldAddr 39 (.tmp 4) 0) 0,lo 52 (.load 9 (.tmp 51)) 9,lo 53 (.call ⟨.value (.func 41),#[.tmp 50,.tmp 52],#[44,9]⟩) 58,lm 49 53 58,lo 54 (.extract (.tmp 49) 0) 9,lo 55 (.extract (.tmp 49) 1) 4,lo 56 (.fieldAddr 39 (.tmp 4) 1) 0,ln (.store 9 (.tmp 56) (.tmp 54)) 0,lo 57 (.fieldAddr 39 (.tmp 4) 2) 0,ln (.store 4 (.tmp 57) (.tmp 55)) 0]
abbrev Gr:List LO:=[lo 58 (.load 44 (.tmp 1)) 44,lo 59 (.call ⟨.value (.func 19),#[.tmp 58],#[44]⟩) 4,lo 60 (.unOp .not 4 (.tmp 59)) 4,lm 61 60 4,lmg 62 0 62 61 false,lg 63 (.load 39 (.tmp 4)) 39 61 false,lg 64 (.call ⟨.value (.tmp 62),#[.tmp 63],#[39]⟩) 4 61 false,lg 65 (.unOp .not 4 (.tmp 64)) 4 61 false,lo 66 (.pick (.tmp 61) (.const (.bool true)) (.tmp 65)) 4]
abbrev Gx:List LO:=[lo 67 (.load 44 (.tmp 1)) 44,lo 68 (.call ⟨.value (.func 38),#[.tmp 67],#[44]⟩) 0]
abbrev G1:List LO:=[lo 69 (.load 44 (.tmp 1)) 44,lo 70 (.nilCheck (.tmp 69)) 0,lo 71 (.fieldAddr 46 (.tmp 70) 1) 0,lo 72 (.load 3 (.tmp 71)) 3,lo 73 (.load 44 (.tmp 1)) 44,lo 74 (.nilCheck (.tmp 73)) 0,lo 75 (.fieldAddr 46 (.tmp 74) 0) 0,lo 76 (.load 9 (.tmp 75)) 9,lo 77 (.call ⟨.builtin .len,#[.tmp 76],#[9]⟩) 3,lo 78 (.binOp .geq 3 (.tmp 72) (.tmp 77) 3) 4]
abbrev Gz:List LO:=[lo 79 (.load 44 (.tmp 1)) 44,lo 80 (.call ⟨.value (.func 42),#[.tmp 79,.const (.int .u8 44)],#[44,5]⟩) 4,lo 81 (.unOp .not 4 (.tmp 80)) 4]
abbrev Gu:List LO:=[lo 82 (.load 44 (.tmp 1)) 44,lo 83 (.call ⟨.value (.func 43),#[.tmp 82],#[44]⟩) 0]
abbrev Gt:List LO:=[lo 84 (.load 44 (.tmp 1)) 44,lo 85 (.nilCheck (.tmp 84)) 0,lo 86 (.fieldAddr 46 (.tmp 85) 1) 0,lo 87 (.load 3 (.tmp 86)) 3,lo 88 (.binOp .add 3 (.tmp 87) (.const (.int .i64 1)) 3) 3,lo 89 (.nilCheck (.tmp 84)) 0,lo 90 (.fieldAddr 46 (.tmp 89) 1) 0,ln (.store 3 (.tmp 90) (.tmp 88)) 0]
abbrev GI:List LO:=[lm 19 3 3,lo 20 (.binOp .add 3 (.tmp 19) (.const (.int .i64 1)) 3) 3,lo 3 (.assign (.tmp 20)) 3]
abbrev JL:LC:=.seq (.reg false Hn) (.seq (.seq (.reg true Hr) (.cond (.tmp 16) .ret .skip)) (.seq (.reg false H9) (.block 0 (.loop (.seq (.seq (.reg false JF) (.cond (.tmp 18) .skip (.exit 0))) (.seq (.block 1 (.seq (.reg false HZ) (.seq (.seq (.reg true Hz) (.cond (.tmp 36) (.seq (.reg true JE) .ret) .skip)) (.seq (.reg false Hf) (.seq (.seq (.reg false Hv) (.cond (.tmp 48) .ret .skip)) (.seq (.reg false G3) (.seq (.seq (.reg false Gr) (.cond (.tmp 66) .ret .skip)) (.seq (.reg false Gx) (.seq (.seq (.reg true G1) (.cond (.tmp 78) .ret .skip)) (.seq (.seq (.reg false Gz) (.cond (.tmp 81) (.seq (.reg false Gu) .ret) .skip)) (.reg false Gt))))))))))) (.reg false GI)))))))
theorem JM:BE E 37 91 [] JL:=⟨⟨Go.Proofs.Tryz.f37,by kernel_rfl,by kernel_rfl,by kernel_rfl,by kernel_rfl,by kernel_rfl⟩,rfl,rfl⟩
abbrev KX:List LO:=[lo 2 (.assign (.const (.bool false))) 4]
abbrev KR:List LO:=[lm 3 0 44,lo 4 (.nilCheck (.tmp 3)) 0,lo 5 (.fieldAddr 46 (.tmp 4) 2) 0,lo 6 (.fieldAddr 25 (.tmp 5) 0) 0,lo 7 (.load 23 (.tmp 6)) 23,lo 8 (.binOp .eql 23 (.tmp 7) (.const (.int .i64 0)) 23) 4,lo 2 (.assign (.tmp 8)) 4]
abbrev FX:LC:=.seq (.reg false KX) (.seq (.reg false KR) .ret)
theorem K9:BE E 19 9 [.tmp 2] FX:=⟨⟨Go.Proofs.Tryz.f19,by kernel_rfl,by kernel_rfl,by kernel_rfl,by kernel_rfl,by kernel_rfl⟩,rfl,rfl⟩
noncomputable def Av (a0:Str) (a1:Int) (a2:Int) (a3:Int):Option (Bool):=some (a2 == 0)
theorem Bm (a0:Str) (a1:Int) (a2:Int) (a3:Int):Ct E 19 [.fptr [bs a0,iv a1,iv a2,iv a3] 0] (Av a0 a1 a2 a3) (fun r:Bool=>bv r):=Ad (N:=9) (L:=FX) K9 rfl (Nat.le_of_ble_eq_true rfl) (by kernel_rfl) (by
 unfold Av
 refine jS ⟨[V 0 (.fptr [bs a0,iv a1,iv a2,iv a3] 0)],[],0⟩ ?_
 refine jS ⟨[V 2 (bv (a2 == 0))],[],0⟩ ?_
 refine AO ?_
 exact AP (.inr rfl) (v:=bv (a2 == 0)) (by kernel_rfl) rfl (AE _))
abbrev Mv:List LO:=[lm 2 0 44,lm 3 0 44,lo 4 (.nilCheck (.tmp 3)) 0,lo 5 (.fieldAddr 46 (.tmp 4) 0) 0,lo 6 (.load 9 (.tmp 5)) 9,lm 7 0 44,lo 8 (.nilCheck (.tmp 7)) 0,lo 9 (.fieldAddr 46 (.tmp 8) 1) 0,lo 10 (.load 3 (.tmp 9)) 3,lo 11 (.call ⟨.value (.func 69),#[.tmp 6,.tmp 10,.const (.int .i64 6)],#[9,3,3]⟩) 3,lo 12 (.nilCheck (.tmp 2)) 0,lo 13 (.fieldAddr 46 (.tmp 12) 1) 0,ln (.store 3 (.tmp 13) (.tmp 11)) 0]
abbrev GS:LC:=.reg true Mv
theorem NU:BE E 38 14 [] GS:=⟨⟨Go.Proofs.Tryz.f38,by kernel_rfl,by kernel_rfl,by kernel_rfl,by kernel_rfl,by kernel_rfl⟩,rfl,rfl⟩
abbrev NP (a0:Str) (a1:Int) (a2:Int) (a3:Int) (r:Int):CS:=⟨[],[W 0 4 [bs a0,iv r,iv a2,iv a3]],1⟩
noncomputable def BT (a0:Str) (a1:Int) (a2:Int) (a3:Int):Option (Int):=Option.bind (Cq a0 a1 6) (fun x3=>some x3)
theorem Cl (a0:Str) (a1:Int) (a2:Int) (a3:Int):CtM E 38 [pt 0 4] [W 0 4 [bs a0,iv a1,iv a2,iv a3]] 1 (BT a0 a1 a2 a3) (fun r:Int=>.tup []) (fun r:Int=>[W 0 4 [bs a0,iv r,iv a2,iv a3]]) 1:=Bf (N:=14) (L:=GS) NU rfl (Nat.le_of_ble_eq_true rfl) (fun F hF=>by
 unfold BT
 refine CA ?_
 refine jG 0 9 ⟨[V 2 (pt 0 4),V 6 (bs a0),V 10 (iv a1)],[W 0 4 [bs a0,iv a1,iv a2,iv a3]],1⟩ ?_
 refine jK 9 (Dm a0 a1 6) ?_
 intro x3 h3
 refine jG 10 3 ⟨[],[W 0 4 [bs a0,iv x3,iv a2,iv a3]],1⟩ ?_
 refine AQ rfl ?_
 exact A7 (NP a0 a1 a2 a3 x3) (.inl rfl) (wkR [(0,some 0)] (AY hF (k:=1) rfl) (pc (hC 0) AB)))
abbrev OV:List LO:=[lm 6 0 44,lo 7 (.call ⟨.value (.func 19),#[.tmp 6],#[44]⟩) 4]
abbrev N5:List LO:=[lm 8 0 44,lm 9 1 23,lm 10 2 3,lo 11 (.build 25 #[(0,.tmp 9),(1,.tmp 10)]) 25,lo 12 (.nilCheck (.tmp 8)) 0,lo 13 (.fieldAddr 46 (.tmp 12) 2) 0,ln (.store 25 (.tmp 13) (.tmp 11)) 0]
abbrev Hk:LC:=.seq (.reg false OV) (.cond (.tmp 7) (.reg false N5) .skip)
theorem Pm:BE E 39 14 [] Hk:=⟨⟨Go.Proofs.Tryz.f39,by kernel_rfl,by kernel_rfl,by kernel_rfl,by kernel_rfl,by kernel_rfl⟩,rfl,rfl⟩
abbrev Hb (a0:Str) (a1:Int) (a2:Int) (a3:Int) (a4:Int) (a5:Int) (r:Int × Int):CS:=⟨[],[W 0 4 [bs a0,iv a1,iv r.1,iv r.2]],1⟩
noncomputable def A6 (a0:Str) (a1:Int) (a2:Int) (a3:Int) (a4:Int) (a5:Int):Option (Int × Int):=Option.bind (Av a0 a1 a2 a3) (fun x4=>(if x4=true then some (a4,a5) else some (a2,a3)))
theorem Bs (a0:Str) (a1:Int) (a2:Int) (a3:Int) (a4:Int) (a5:Int):CtM E 39 [pt 0 4,iv a4,iv a5] [W 0 4 [bs a0,iv a1,iv a2,iv a3]] 1 (A6 a0 a1 a2 a3 a4 a5) (fun r:Int × Int=>.tup []) (fun r:Int × Int=>[W 0 4 [bs a0,iv a1,iv r.1,iv r.2]]) 1:=Bf (N:=14) (L:=Hk) Pm rfl (Nat.le_of_ble_eq_true rfl) (fun F hF=>by
 unfold A6
 refine jR ?_
 refine jG 0 1 ⟨[V 0 (pt 0 4),V 1 (iv a4),V 2 (iv a5),V 6 (pt 0 4)],[W 0 4 [bs a0,iv a1,iv a2,iv a3]],1⟩ ?_
 refine Bh (i:=1) rfl rfl rfl rfl (vs:=[pt 0 4]) (vs0:=[.fptr [bs a0,iv a1,iv a2,iv a3] 0]) (b:=true) (by kernel_rfl) (by kernel_rfl) (AJ (AE _) Aj) (Bm a0 a1 a2 a3) (fun _=>rfl) (fun _=>rfl) ?_
 intro x4 h4
 refine jN ?_
 refine jIf ?_ ?_
 ·refine jT ⟨[],[W 0 4 [bs a0,iv a1,iv a4,iv a5]],1⟩ ?_
  exact A7 (Hb a0 a1 a2 a3 a4 a5 (a4,a5)) (.inl rfl) (wkR [(0,some 0)] (AY hF (k:=1) rfl) (pc (hC 0) AB))
 refine AS ?_
 exact A7 (Hb a0 a1 a2 a3 a4 a5 (a2,a3)) (.inl rfl) (wkR [(0,some 0)] (AY hF (k:=1) rfl) (pc (hC 0) AB)))
abbrev KY:List LO:=[lo 4 (.assign (.const (.bool false))) 4]
abbrev KK:List LO:=[lm 5 0 44,lo 6 (.nilCheck (.tmp 5)) 0,lo 7 (.fieldAddr 46 (.tmp 6) 1) 0,lo 8 (.load 3 (.tmp 7)) 3,lm 9 0 44,lo 10 (.nilCheck (.tmp 9)) 0,lo 11 (.fieldAddr 46 (.tmp 10) 0) 0,lo 12 (.load 9 (.tmp 11)) 9,lo 13 (.call ⟨.builtin .len,#[.tmp 12],#[9]⟩) 3,lo 14 (.binOp .lss 3 (.tmp 8) (.tmp 13) 3) 4,lm 15 14 4,lmg 16 0 44 15 true,lg 17 (.nilCheck (.tmp 16)) 0 15 true,lg 18 (.fieldAddr 46 (.tmp 17) 0) 0 15 true,lg 19 (.load 9 (.tmp 18)) 9 15 true,lmg 20 0 44 15 true,lg 21 (.nilCheck (.tmp 20)) 0 15 true,lg 22 (.fieldAddr 46 (.tmp 21) 1) 0 15 true,lg 23 (.load 3 (.tmp 22)) 3 15 true,lg 24 (.index 9 (.tmp 19) (.tmp 23)) 5 15 true,lmg 25 1 5 15 true,lg 26 (.binOp .eql 5 (.tmp 24) (.tmp 25) 5) 4 15 true,lo 27 (.pick (.tmp 15) (.tmp 26) (.const (.bool false))) 4,lo 4 (.assign (.tmp 27)) 4]
abbrev FT:LC:=.seq (.reg false KY) (.seq (.reg true KK) .ret)
theorem Li:BE E 42 28 [.tmp 4] FT:=⟨⟨Go.Proofs.Tryz.f42,by kernel_rfl,by kernel_rfl,by kernel_rfl,by kernel_rfl,by kernel_rfl⟩,rfl,rfl⟩
noncomputable def BA (a0:Str) (a1:Int) (a2:Int) (a3:Int) (a4:Int):Option (Bool):=Option.bind (if (decide (a1 < (List.length a0:Int)))=true then Option.bind (idx a0 a1) (fun x3=>some (x3 == a4)) else some false:Option (Bool)) (fun x2=>some x2)
theorem Bl (a0:Str) (a1:Int) (a2:Int) (a3:Int) (a4:Int):Ct E 42 [.fptr [bs a0,iv a1,iv a2,iv a3] 0,.s (.int .u8 a4)] (BA a0 a1 a2 a3 a4) (fun r:Bool=>bv r):=Ad (N:=28) (L:=FT) Li rfl (Nat.le_of_ble_eq_true rfl) (by kernel_rfl) (by
 unfold BA
 refine jS ⟨[V 0 (.fptr [bs a0,iv a1,iv a2,iv a3] 0),V 1 (.s (.int .u8 a4))],[],0⟩ ?_
 refine jR ?_
 refine jG 0 11 ⟨[V 0 (.fptr [bs a0,iv a1,iv a2,iv a3] 0),V 1 (.s (.int .u8 a4)),V 15 (bv (decide (a1 < (List.length a0:Int))))],[],0⟩ ?_
 refine Ak 11 12 (fun x2=>⟨[V 27 (bv x2)],[],0⟩) ?_ ?_
 ·refine jSp 15 ?_ ?_
  ·refine jG 0 8 ⟨[V 1 (.s (.int .u8 a4)),(15,.lit true),V 19 (bs a0),V 23 (iv a1)],[],0⟩ ?_
   refine An (i:=8) (mo:=idx a0 a1) rfl rfl rfl rfl (fun _ hc=>Bd (kk:=.i64) (by kernel_rfl) (by kernel_rfl) (by kernel_rfl) hc) (fun _=>rfl) ?_
   intro x3 h3
   refine jG 9 3 ⟨[V 27 (bv (x3 == a4))],[],0⟩ ?_
   refine AQ rfl ?_
   exact AK rfl (wkR [] (AH _) AB)
  refine jG 0 12 ⟨[V 27 (bv false)],[],0⟩ ?_
  refine AQ rfl ?_
  exact AK rfl (wkR [] (AH _) AB)
 intro x2
 refine jG 23 1 ⟨[V 4 (bv x2)],[],0⟩ ?_
 refine jN ?_
 refine AO ?_
 exact AP (.inr rfl) (v:=bv x2) (by kernel_rfl) rfl (AE _))
abbrev Mx:List LO:=[lm 2 0 44,lo 3 (.nilCheck (.tmp 2)) 0,lo 4 (.fieldAddr 46 (.tmp 3) 1) 0,lo 5 (.load 3 (.tmp 4)) 3,lm 6 0 44,lo 7 (.nilCheck (.tmp 6)) 0,lo 8 (.fieldAddr 46 (.tmp 7) 0) 0,lo 9 (.load 9 (.tmp 8)) 9,lo 10 (.call ⟨.builtin .len,#[.tmp 9],#[9]⟩) 3,lo 11 (.binOp .geq 3 (.tmp 5) (.tmp 10) 3) 4]
abbrev NY:List LO:=[lm 12 0 44,lm 13 0 44,lo 14 (.nilCheck (.tmp 13)) 0,lo 15 (.fieldAddr 46 (.tmp 14) 0) 0,lo 16 (.load 9 (.tmp 15)) 9,lo 17 (.call ⟨.builtin .len,#[.tmp 16],#[9]⟩) 3,lo 18 (.call ⟨.value (.func 39),#[.tmp 12,.const (.int .i64 11),.tmp 17],#[44,23,3]⟩) 0]
abbrev M8:List LO:=[lm 19 0 44,lm 20 0 44,lo 21 (.nilCheck (.tmp 20)) 0,lo 22 (.fieldAddr 46 (.tmp 21) 1) 0,lo 23 (.load 3 (.tmp 22)) 3,lo 24 (.call ⟨.value (.func 39),#[.tmp 19,.const (.int .i64 10),.tmp 23],#[44,23,3]⟩) 0]
abbrev Gn:LC:=.seq (.reg true Mx) (.cond (.tmp 11) (.reg false NY) (.reg false M8))
theorem OG:BE E 43 25 [] Gn:=⟨⟨Go.Proofs.Tryz.f43,by kernel_rfl,by kernel_rfl,by kernel_rfl,by kernel_rfl,by kernel_rfl⟩,rfl,rfl⟩
abbrev Gj (a0:Str) (a1:Int) (a2:Int) (a3:Int) (r:Int × Int):CS:=⟨[],[W 0 4 [bs a0,iv a1,iv r.1,iv r.2]],1⟩
noncomputable def Bn (a0:Str) (a1:Int) (a2:Int) (a3:Int):Option (Int × Int):=(if (decide (a1≥(List.length a0:Int)))=true then Option.bind (A6 a0 a1 a2 a3 11 (List.length a0:Int)) (fun (x7,x8)=>some (x7,x8)) else Option.bind (A6 a0 a1 a2 a3 10 a1) (fun (x9,x10)=>some (x9,x10)))
theorem D0 (a0:Str) (a1:Int) (a2:Int) (a3:Int):CtM E 43 [pt 0 4] [W 0 4 [bs a0,iv a1,iv a2,iv a3]] 1 (Bn a0 a1 a2 a3) (fun r:Int × Int=>.tup []) (fun r:Int × Int=>[W 0 4 [bs a0,iv a1,iv r.1,iv r.2]]) 1:=Bf (N:=25) (L:=Gn) OG rfl (Nat.le_of_ble_eq_true rfl) (fun F hF=>by
 unfold Bn
 refine jS ⟨[V 0 (pt 0 4),V 11 (bv (decide (a1≥(List.length a0:Int))))],[W 0 4 [bs a0,iv a1,iv a2,iv a3]],1⟩ ?_
 refine jIf ?_ ?_
 ·refine CA ?_
  refine jG 0 6 ⟨[V 12 (pt 0 4),V 17 (iv (List.length a0:Int))],[W 0 4 [bs a0,iv a1,iv a2,iv a3]],1⟩ ?_
  refine Am 6 [(0,some 0)] [(0,some 0)] (fun r:Int × Int=>[W 0 4 [bs a0,iv a1,iv r.1,iv r.2]]) (fun r:Int × Int=>.tup []) 1 (Bs a0 a1 a2 a3 11 (List.length a0:Int)) (pc (hC 0) AB) (fun r=>(pc (.inr (hC 0)) AB)) ?_
  rintro⟨x7,x8⟩ hm3
  refine AQ rfl ?_
  exact A7 (Gj a0 a1 a2 a3 (x7,x8)) (.inl rfl) (wkR [(0,some 0)] (AY hF (k:=1) rfl) (pc (hC 0) AB))
 refine CA ?_
 refine jG 0 5 ⟨[V 19 (pt 0 4),V 23 (iv a1)],[W 0 4 [bs a0,iv a1,iv a2,iv a3]],1⟩ ?_
 refine Am 5 [(0,some 0)] [(0,some 0)] (fun r:Int × Int=>[W 0 4 [bs a0,iv a1,iv r.1,iv r.2]]) (fun r:Int × Int=>.tup []) 1 (Bs a0 a1 a2 a3 10 a1) (pc (hC 0) AB) (fun r=>(pc (.inr (hC 0)) AB)) ?_
 rintro⟨x9,x10⟩ hm4
 refine AQ rfl ?_
 exact A7 (Gj a0 a1 a2 a3 (x9,x10)) (.inl rfl) (wkR [(0,some 0)] (AY hF (k:=1) rfl) (pc (hC 0) AB)))
abbrev Kh:List LO:=[lo 2 (.assign (.const (.string ⟨#[]⟩))) 9]
abbrev KJ:List LO:=[lm 6 0 44,lo 7 (.nilCheck (.tmp 6)) 0,lo 8 (.fieldAddr 46 (.tmp 7) 0) 0,lo 9 (.load 9 (.tmp 8)) 9,lm 10 0 44,lo 11 (.nilCheck (.tmp 10)) 0,lo 12 (.fieldAddr 46 (.tmp 11) 1) 0,lo 13 (.load 3 (.tmp 12)) 3,lo 14 (.buildSlice 32 8 #[(0,.const (.string ⟨#[126,61]⟩)),(1,.const (.string ⟨#[61,61]⟩)),(2,.const (.string ⟨#[33,61]⟩)),(3,.const (.string ⟨#[60,61]⟩)),(4,.const (.string ⟨#[62,61]⟩)),(5,.const (.string ⟨#[60]⟩)),(6,.const (.string ⟨#[62]⟩)),(7,.const (.string ⟨#[61,61,61]⟩))]) 32,lo 15 (.call ⟨.value (.func 70),#[.tmp 9,.tmp 13,.tmp 14],#[9,3,32]⟩) 58,lm 5 15 58,lo 16 (.extract (.tmp 5) 0) 9,lo 17 (.extract (.tmp 5) 1) 4,lo 3 (.assign (.tmp 16)) 9,lo 4 (.assign (.tmp 17)) 4]
abbrev Kj:List LO:=[lm 18 4 4,lo 19 (.unOp .not 4 (.tmp 18)) 4]
abbrev KZ:List LO:=[lm 20 0 44,lo 21 (.call ⟨.value (.func 42),#[.tmp 20,.const (.int .u8 126)],#[44,5]⟩) 4,lm 22 21 4,lmg 23 0 44 22 false,lg 24 (.call ⟨.value (.func 42),#[.tmp 23,.const (.int .u8 33)],#[44,5]⟩) 4 22 false,lo 25 (.pick (.tmp 22) (.const (.bool true)) (.tmp 24)) 4,lm 26 25 4,lmg 27 0 44 26 false,lg 28 (.call ⟨.value (.func 42),#[.tmp 27,.const (.int .u8 61)],#[44,5]⟩) 4 26 false,lo 29 (.pick (.tmp 26) (.const (.bool true)) (.tmp 28)) 4]
abbrev Ki:List LO:=[lm 30 0 44,lo 31 (.nilCheck (.tmp 30)) 0,lo 32 (.fieldAddr 46 (.tmp 31) 1) 0,lo 33 (.load 3 (.tmp 32)) 3,lo 34 (.binOp .add 3 (.tmp 33) (.const (.int .i64 1)) 3) 3,lo 35 (.nilCheck (.tmp 30)) 0,lo 36 (.fieldAddr 46 (.tmp 35) 1) 0,ln (.store 3 (.tmp 36) (.tmp 34)) 0]
abbrev Kf:List LO:=[lm 37 0 44,lo 38 (.call ⟨.value (.func 43),#[.tmp 37],#[44]⟩) 0]
abbrev KW:List LO:=[lm 39 0 44,lo 40 (.nilCheck (.tmp 39)) 0,lo 41 (.fieldAddr 46 (.tmp 40) 1) 0,lo 42 (.load 3 (.tmp 41)) 3,lm 43 3 9,lo 44 (.call ⟨.builtin .len,#[.tmp 43],#[9]⟩) 3,lo 45 (.binOp .add 3 (.tmp 42) (.tmp 44) 3) 3,lo 46 (.nilCheck (.tmp 39)) 0,lo 47 (.fieldAddr 46 (.tmp 46) 1) 0,ln (.store 3 (.tmp 47) (.tmp 45)) 0]
abbrev KO:List LO:=[lm 48 3 9,lo 2 (.assign (.tmp 48)) 9]
abbrev Fg:LC:=.seq (.reg false Kh) (.seq (.reg true KJ) (.seq (.seq (.reg false Kj) (.cond (.tmp 19) (.seq (.seq (.reg false KZ) (.cond (.tmp 29) (.reg false Ki) .skip)) (.reg false Kf)) .skip)) (.seq (.reg false KW) (.seq (.reg false KO) .ret))))
theorem LW:BE E 40 49 [.tmp 2] Fg:=⟨⟨Go.Proofs.Tryz.f40,by kernel_rfl,by kernel_rfl,by kernel_rfl,by kernel_rfl,by kernel_rfl⟩,rfl,rfl⟩
abbrev LN (a0:Str) (a1:Int) (a2:Int) (a3:Int) (r:Str × Int × Int × Int):CS:=⟨[V 2 (bs r.1)],[W 0 4 [bs a0,iv r.2.1,iv r.2.2.1,iv r.2.2.2]],1⟩
noncomputable def CB (a0:Str) (a1:Int) (a2:Int) (a3:Int):Option (Str × Int × Int × Int):=Option.bind (FM a0 a1 ([[126,61],[61,61],[33,61],[60,61],[62,61],[60],[62],[61,61,61]])) (fun x17=>Option.bind ((if (!x17.2)=true then Option.bind (Option.bind (BA a0 a1 a2 a3 126) (fun x35=>Option.bind (if x35=true then some true else Option.bind (BA a0 a1 a2 a3 33) (fun x38=>some x38):Option (Bool)) (fun x37=>Option.bind (if x37=true then some true else Option.bind (BA a0 a1 a2 a3 61) (fun x41=>some x41):Option (Bool)) (fun x40=>(if x40=true then some (w64 (a1 + 1)) else some a1)))):Option (Int)) (fun x34=>Option.bind (Bn a0 x34 a2 a3) (fun (x42,x43)=>some (x34,x42,x43))) else some (a1,a2,a3)):Option (Int × Int × Int)) (fun (x26,x27,x28)=>some (x17.1,(w64 (x26 + (List.length x17.1:Int))),x27,x28)))
theorem KM (a0:Str) (a1:Int) (a2:Int) (a3:Int):CtM E 40 [pt 0 4] [W 0 4 [bs a0,iv a1,iv a2,iv a3]] 1 (CB a0 a1 a2 a3) (fun r:Str × Int × Int × Int=>bs r.1) (fun r:Str × Int × Int × Int=>[W 0 4 [bs a0,iv r.2.1,iv r.2.2.1,iv r.2.2.2]]) 1:=Bf (N:=49) (L:=Fg) LW rfl (Nat.le_of_ble_eq_true rfl) (fun F hF=>by
 unfold CB
 refine jS ⟨[V 0 (pt 0 4)],[W 0 4 [bs a0,iv a1,iv a2,iv a3]],1⟩ ?_
 refine jR ?_
 refine jG 0 9 ⟨[V 0 (pt 0 4),V 9 (bs a0),V 13 (iv a1),V 14 (.fsl 1 (List.map cS ([[126,61],[61,61],[33,61],[60,61],[62,61],[60],[62],[61,61,61]])))],[W 0 4 [bs a0,iv a1,iv a2,iv a3]],1⟩ ?_
 refine jK 9 (Nh a0 a1 ([[126,61],[61,61],[33,61],[60,61],[62,61],[60],[62],[61,61,61]])) ?_
 intro x17 h17
 refine jG 10 5 ⟨[V 0 (pt 0 4),V 3 (bs x17.1),V 4 (bv x17.2)],[W 0 4 [bs a0,iv a1,iv a2,iv a3]],1⟩ ?_
 refine jN ?_
 refine AT ?_
 refine As (fun (x26,x27,x28)=>⟨[V 0 (pt 0 4),V 3 (bs x17.1)],[W 0 4 [bs a0,iv x26,iv x27,iv x28]],1⟩) (fun (x26,x27,x28)=>.normal) ?_ ?_
 ·refine jS ⟨[V 0 (pt 0 4),V 3 (bs x17.1),V 19 (bv (!x17.2))],[W 0 4 [bs a0,iv a1,iv a2,iv a3]],1⟩ ?_
  refine jIf ?_ ?_
  ·refine AT ?_
   refine As (fun x34=>⟨[V 0 (pt 0 4),V 3 (bs x17.1)],[W 0 4 [bs a0,iv x34,iv a2,iv a3]],1⟩) (fun x34=>.normal) ?_ ?_
   ·refine jR ?_
    refine jG 0 1 ⟨[V 0 (pt 0 4),V 3 (bs x17.1),V 20 (pt 0 4)],[W 0 4 [bs a0,iv a1,iv a2,iv a3]],1⟩ ?_
    refine Bh (i:=1) rfl rfl rfl rfl (vs:=[pt 0 4,.s (.int .u8 126)]) (vs0:=[.fptr [bs a0,iv a1,iv a2,iv a3] 0,.s (.int .u8 126)]) (b:=true) (by kernel_rfl) (by kernel_rfl) (AJ (AE _) (AJ (AE _) Aj)) (Bl a0 a1 a2 a3 126) (fun _=>rfl) (fun _=>rfl) ?_
    intro x35 h35
    refine jG 2 1 ⟨[V 0 (pt 0 4),V 3 (bs x17.1),V 22 (bv x35)],[W 0 4 [bs a0,iv a1,iv a2,iv a3]],1⟩ ?_
    refine Ak 3 3 (fun x37=>⟨[V 0 (pt 0 4),V 3 (bs x17.1),V 25 (bv x37)],[W 0 4 [bs a0,iv a1,iv a2,iv a3]],1⟩) ?_ ?_
    ·refine jSp 22 ?_ ?_
     ·refine jG 0 3 ⟨[V 0 (pt 0 4),V 3 (bs x17.1),V 25 (bv true)],[W 0 4 [bs a0,iv a1,iv a2,iv a3]],1⟩ ?_
      refine AQ rfl ?_
      exact AK rfl (wkR [(0,some 0)] (AY hF (k:=1) rfl) (pc (hC 0) AB))
     refine jG 0 1 ⟨[V 0 (pt 0 4),V 3 (bs x17.1),(22,.lit false),V 23 (pt 0 4)],[W 0 4 [bs a0,iv a1,iv a2,iv a3]],1⟩ ?_
     refine Bh (i:=1) rfl rfl rfl rfl (vs:=[pt 0 4,.s (.int .u8 33)]) (vs0:=[.fptr [bs a0,iv a1,iv a2,iv a3] 0,.s (.int .u8 33)]) (b:=true) (by kernel_rfl) (by kernel_rfl) (AJ (AE _) (AJ (AE _) Aj)) (Bl a0 a1 a2 a3 33) (fun _=>rfl) (fun _=>rfl) ?_
     intro x38 h38
     refine jG 2 1 ⟨[V 0 (pt 0 4),V 3 (bs x17.1),V 25 (bv x38)],[W 0 4 [bs a0,iv a1,iv a2,iv a3]],1⟩ ?_
     refine AQ rfl ?_
     exact AK rfl (wkR [(0,some 0)] (AY hF (k:=1) rfl) (pc (hC 0) AB))
    intro x37
    refine jG 6 1 ⟨[V 0 (pt 0 4),V 3 (bs x17.1),V 26 (bv x37)],[W 0 4 [bs a0,iv a1,iv a2,iv a3]],1⟩ ?_
    refine Ak 7 3 (fun x40=>⟨[V 0 (pt 0 4),V 3 (bs x17.1),V 29 (bv x40)],[W 0 4 [bs a0,iv a1,iv a2,iv a3]],1⟩) ?_ ?_
    ·refine jSp 26 ?_ ?_
     ·refine jG 0 3 ⟨[V 0 (pt 0 4),V 3 (bs x17.1),V 29 (bv true)],[W 0 4 [bs a0,iv a1,iv a2,iv a3]],1⟩ ?_
      refine AQ rfl ?_
      exact AK rfl (wkR [(0,some 0)] (AY hF (k:=1) rfl) (pc (hC 0) AB))
     refine jG 0 1 ⟨[V 0 (pt 0 4),V 3 (bs x17.1),(26,.lit false),V 27 (pt 0 4)],[W 0 4 [bs a0,iv a1,iv a2,iv a3]],1⟩ ?_
     refine Bh (i:=1) rfl rfl rfl rfl (vs:=[pt 0 4,.s (.int .u8 61)]) (vs0:=[.fptr [bs a0,iv a1,iv a2,iv a3] 0,.s (.int .u8 61)]) (b:=true) (by kernel_rfl) (by kernel_rfl) (AJ (AE _) (AJ (AE _) Aj)) (Bl a0 a1 a2 a3 61) (fun _=>rfl) (fun _=>rfl) ?_
     intro x41 h41
     refine jG 2 1 ⟨[V 0 (pt 0 4),V 3 (bs x17.1),V 29 (bv x41)],[W 0 4 [bs a0,iv a1,iv a2,iv a3]],1⟩ ?_
     refine AQ rfl ?_
     exact AK rfl (wkR [(0,some 0)] (AY hF (k:=1) rfl) (pc (hC 0) AB))
    intro x40
    refine jN ?_
    refine jIf ?_ ?_
    ·refine jT ⟨[V 0 (pt 0 4),V 3 (bs x17.1)],[W 0 4 [bs a0,iv (w64 (a1 + 1)),iv a2,iv a3]],1⟩ ?_
     exact AK rfl (wkR [(0,some 0)] (AY hF (k:=1) rfl) (pc (hC 0) AB))
    refine AS ?_
    exact AK rfl (wkR [(0,some 0)] (AY hF (k:=1) rfl) (pc (hC 0) AB))
   intro x34
   refine AN ?_
   refine CA ?_
   refine jG 0 1 ⟨[V 0 (pt 0 4),V 3 (bs x17.1),V 37 (pt 0 4)],[W 0 4 [bs a0,iv x34,iv a2,iv a3]],1⟩ ?_
   refine Am 1 [(0,some 0)] [(0,some 0)] (fun r:Int × Int=>[W 0 4 [bs a0,iv x34,iv r.1,iv r.2]]) (fun r:Int × Int=>.tup []) 1 (D0 a0 x34 a2 a3) (pc (hC 0) AB) (fun r=>(pc (.inr (hC 0)) AB)) ?_
   rintro⟨x42,x43⟩ hm3
   refine AQ rfl ?_
   exact AK rfl (wkR [(0,some 0)] (AY hF (k:=1) rfl) (pc (hC 0) AB))
  refine AS ?_
  exact AK rfl (wkR [(0,some 0)] (AY hF (k:=1) rfl) (pc (hC 0) AB))
 rintro⟨x26,x27,x28⟩
 refine AN ?_
 refine jS ⟨[V 3 (bs x17.1)],[W 0 4 [bs a0,iv (w64 (x26 + (List.length x17.1:Int))),iv x27,iv x28]],1⟩ ?_
 refine jS ⟨[V 2 (bs x17.1)],[W 0 4 [bs a0,iv (w64 (x26 + (List.length x17.1:Int))),iv x27,iv x28]],1⟩ ?_
 refine AO ?_
 exact A7 (LN a0 a1 a2 a3 (x17.1,(w64 (x26 + (List.length x17.1:Int))),x27,x28)) (.inr rfl) (wkR [(0,some 0)] (AY hF (k:=1) rfl) (pc (hC 0) AB)))
abbrev K5:List LO:=[lo 4 (.assign (.const (.bool false))) 4]
abbrev LY:List LO:=[lm 5 0 9,lo 6 (.call ⟨.builtin .len,#[.tmp 5],#[9]⟩) 3,lm 7 1 9,lo 8 (.call ⟨.builtin .len,#[.tmp 7],#[9]⟩) 3,lo 9 (.binOp .geq 3 (.tmp 6) (.tmp 8) 3) 4,lm 10 9 4,lmg 11 0 9 10 true,lmg 12 0 9 10 true,lg 13 (.call ⟨.builtin .len,#[.tmp 12],#[9]⟩) 3 10 true,lmg 14 1 9 10 true,lg 15 (.call ⟨.builtin .len,#[.tmp 14],#[9]⟩) 3 10 true,lg 16 (.binOp .sub 3 (.tmp 13) (.tmp 15) 3) 3 10 true,lg 17 (.slice 9 (.tmp 11) (some (.tmp 16)) none none) 9 10 true,lmg 18 1 9 10 true,lg 19 (.binOp .eql 9 (.tmp 17) (.tmp 18) 9) 4 10 true,lo 20 (.pick (.tmp 10) (.tmp 19) (.const (.bool false))) 4,lo 4 (.assign (.tmp 20)) 4]
abbrev F6:LC:=.seq (.reg false K5) (.seq (.reg false LY) .ret)
theorem Mk:BE E 100 21 [.tmp 4] F6:=⟨⟨Go.Proofs.Tryz.f100,by kernel_rfl,by kernel_rfl,by kernel_rfl,by kernel_rfl,by kernel_rfl⟩,rfl,rfl⟩
noncomputable def C4 (a0:Str) (a1:Str):Option (Bool):=Option.bind (if (decide ((List.length a0:Int)≥(List.length a1:Int)))=true then Option.bind (Fj a0 (w64 ((List.length a0:Int) - (List.length a1:Int))) (List.length a0:Int)) (fun x3=>some (x3 == a1)) else some false:Option (Bool)) (fun x2=>some x2)
theorem LT (a0:Str) (a1:Str):Ct E 100 [bs a0,bs a1] (C4 a0 a1) (fun r:Bool=>bv r):=Ad (N:=21) (L:=F6) Mk rfl (Nat.le_of_ble_eq_true rfl) (by kernel_rfl) (by
 unfold C4
 refine jS ⟨[V 0 (bs a0),V 1 (bs a1)],[],0⟩ ?_
 refine jR ?_
 refine jG 0 6 ⟨[V 0 (bs a0),V 1 (bs a1),V 10 (bv (decide ((List.length a0:Int)≥(List.length a1:Int))))],[],0⟩ ?_
 refine Ak 6 10 (fun x2=>⟨[V 20 (bv x2)],[],0⟩) ?_ ?_
 ·refine jSp 10 ?_ ?_
  ·refine jG 0 6 ⟨[V 1 (bs a1),(10,.lit true),V 11 (bs a0),V 16 (iv (w64 ((List.length a0:Int) - (List.length a1:Int))))],[],0⟩ ?_
   refine An (i:=6) (mo:=Fj a0 (w64 ((List.length a0:Int) - (List.length a1:Int))) (List.length a0:Int)) rfl rfl rfl rfl (fun _ hc=>He (by kernel_rfl) (by kernel_rfl) (by kernel_rfl) (by kernel_rfl) hc) (fun _=>rfl) ?_
   intro x3 h3
   refine jG 7 3 ⟨[V 20 (bv (x3 == a1))],[],0⟩ ?_
   refine AQ rfl ?_
   exact AK rfl (wkR [] (AH _) AB)
  refine jG 0 10 ⟨[V 20 (bv false)],[],0⟩ ?_
  refine AQ rfl ?_
  exact AK rfl (wkR [] (AH _) AB)
 intro x2
 refine jG 16 1 ⟨[V 4 (bv x2)],[],0⟩ ?_
 refine jN ?_
 refine AO ?_
 exact AP (.inr rfl) (v:=bv x2) (by kernel_rfl) rfl (AE _))
abbrev PE:List LO:=[lo 4 (.assign (.const (.bool false))) 4]
abbrev Pa:List LO:=[lm 5 0 9,lm 6 1 9,lo 7 (.call ⟨.value (.func 100),#[.tmp 5,.tmp 6],#[9,9]⟩) 4,lo 4 (.assign (.tmp 7)) 4]
abbrev JS:LC:=.seq (.reg false PE) (.seq (.reg false Pa) .ret)
theorem Qv:BE E 72 8 [.tmp 4] JS:=⟨⟨Go.Proofs.Tryz.f72,by kernel_rfl,by kernel_rfl,by kernel_rfl,by kernel_rfl,by kernel_rfl⟩,rfl,rfl⟩
noncomputable def DM (a0:Str) (a1:Str):Option (Bool):=Option.bind (C4 a0 a1) (fun x1=>some x1)
theorem PN (a0:Str) (a1:Str):Ct E 72 [bs a0,bs a1] (DM a0 a1) (fun r:Bool=>bv r):=Ad (N:=8) (L:=JS) Qv rfl (Nat.le_of_ble_eq_true rfl) (by kernel_rfl) (by
 unfold DM
 refine jS ⟨[V 0 (bs a0),V 1 (bs a1)],[],0⟩ ?_
 refine jR ?_
 refine jG 0 2 ⟨[V 5 (bs a0),V 6 (bs a1)],[],0⟩ ?_
 refine jK 2 (LT a0 a1) ?_
 intro x1 h1
 refine jG 3 1 ⟨[V 4 (bv x1)],[],0⟩ ?_
 refine jN ?_
 refine AO ?_
 exact AP (.inr rfl) (v:=bv x1) (by kernel_rfl) rfl (AE _))
abbrev Un:List LO:=[lo 1 (.box 34 (.tmp 0)) 0,lo 2 (.assign (.const (.bool false))) 4]
abbrev T1:List LO:=[lo 3 (.fieldAddr 34 (.tmp 1) 2) 0,lo 4 (.load 5 (.tmp 3)) 5,lo 5 (.binOp .eql 5 (.tmp 4) (.const (.int .u8 0)) 5) 4,lm 6 5 4,lg 7 (.fieldAddr 34 (.tmp 1) 4) 0 6 true,lg 8 (.load 4 (.tmp 7)) 4 6 true,lg 9 (.unOp .not 4 (.tmp 8)) 4 6 true,lo 10 (.pick (.tmp 6) (.tmp 9) (.const (.bool false))) 4,lm 11 10 4,lg 12 (.fieldAddr 34 (.tmp 1) 6) 0 11 true,lg 13 (.load 4 (.tmp 12)) 4 11 true,lg 14 (.unOp .not 4 (.tmp 13)) 4 11 true,lo 15 (.pick (.tmp 11) (.tmp 14) (.const (.bool false))) 4,lm 16 15 4,lg 17 (.fieldAddr 34 (.tmp 1) 8) 0 16 true,lg 18 (.load 32 (.tmp 17)) 32 16 true,lg 19 (.call ⟨.builtin .len,#[.tmp 18],#[32]⟩) 3 16 true,lg 20 (.binOp .eql 3 (.tmp 19) (.const (.int .i64 0)) 3) 4 16 true,lo 21 (.pick (.tmp 16) (.tmp 20) (.const (.bool false))) 4,lo 2 (.assign (.tmp 21)) 4]
abbrev Nz:LC:=.seq (.reg false Un) (.seq (.reg false T1) .ret)
theorem V5:BE E 73 22 [.tmp 2] Nz:=⟨⟨Go.Proofs.Tryz.f73,by kernel_rfl,by kernel_rfl,by kernel_rfl,by kernel_rfl,by kernel_rfl⟩,rfl,rfl⟩
noncomputable def Fc (a0:AF):Option (Bool):=some ((((a0.Pre == 0) && (!a0.Post)) && (!a0.Dev)) && ((List.length a0.Local:Int) == 0))
theorem T4 (a0:AF):Ct E 73 [.agg [bs a0.Epoch,.fsl 1 (List.map cS a0.Release),.s (.int .u8 a0.Pre),bs a0.PreNum,bv a0.Post,bs a0.PostNum,bv a0.Dev,bs a0.DevNum,.fsl 1 (List.map cS a0.Local)]] (Fc a0) (fun r:Bool=>bv r):=Ad (N:=22) (L:=Nz) V5 rfl (Nat.le_of_ble_eq_true rfl) (by kernel_rfl) (by
 unfold Fc
 refine jS ⟨[V 1 (pt 0 9)],[W 0 9 [bs a0.Epoch,.fsl 1 (List.map cS a0.Release),.s (.int .u8 a0.Pre),bs a0.PreNum,bv a0.Post,bs a0.PostNum,bv a0.Dev,bs a0.DevNum,.fsl 1 (List.map cS a0.Local)]],1⟩ ?_
 refine jR ?_
 refine jG 0 20 ⟨[V 2 (bv ((((a0.Pre == 0) && (!a0.Post)) && (!a0.Dev)) && ((List.length (List.map cS a0.Local):Int) == 0)))],[],1⟩ ?_
 simp only[List.length_map]
 refine jN ?_
 refine AO ?_
 exact AP (.inr rfl) (v:=bv ((((a0.Pre == 0) && (!a0.Post)) && (!a0.Dev)) && ((List.length a0.Local:Int) == 0))) (by kernel_rfl) rfl (AE _))
abbrev OA:List LO:=[lo 4 (.assign (.const (.string ⟨#[]⟩))) 9,lo 5 (.assign (.const (.bool false))) 4]
abbrev N7:List LO:=[lm 12 0 44,lo 13 (.call ⟨.value (.func 38),#[.tmp 12],#[44]⟩) 0]
abbrev OF:List LO:=[lm 14 0 44,lo 15 (.nilCheck (.tmp 14)) 0,lo 16 (.fieldAddr 46 (.tmp 15) 1) 0,lo 17 (.load 3 (.tmp 16)) 3,lo 6 (.assign (.tmp 17)) 3]
abbrev OR:List LO:=[lm 18 0 44,lo 19 (.nilCheck (.tmp 18)) 0,lo 20 (.fieldAddr 46 (.tmp 19) 1) 0,lo 21 (.load 3 (.tmp 20)) 3,lm 22 0 44,lo 23 (.nilCheck (.tmp 22)) 0,lo 24 (.fieldAddr 46 (.tmp 23) 0) 0,lo 25 (.load 9 (.tmp 24)) 9,lo 26 (.call ⟨.builtin .len,#[.tmp 25],#[9]⟩) 3,lo 27 (.binOp .lss 3 (.tmp 21) (.tmp 26) 3) 4,lm 28 27 4,lmg 29 0 44 28 true,lg 30 (.nilCheck (.tmp 29)) 0 28 true,lg 31 (.fieldAddr 46 (.tmp 30) 0) 0 28 true,lg 32 (.load 9 (.tmp 31)) 9 28 true,lmg 33 0 44 28 true,lg 34 (.nilCheck (.tmp 33)) 0 28 true,lg 35 (.fieldAddr 46 (.tmp 34) 1) 0 28 true,lg 36 (.load 3 (.tmp 35)) 3 28 true,lg 37 (.index 9 (.tmp 32) (.tmp 36)) 5 28 true,lg 38 (.call ⟨.value (.func 71),#[.tmp 37,.const (.int .i64 6)],#[5,3]⟩) 4 28 true,lg 39 (.unOp .not 4 (.tmp 38)) 4 28 true,lo 40 (.pick (.tmp 28) (.tmp 39) (.const (.bool false))) 4,lm 41 40 4,lmg 42 0 44 41 true,lg 43 (.call ⟨.value (.func 42),#[.tmp 42,.const (.int .u8 44)],#[44,5]⟩) 4 41 true,lg 44 (.unOp .not 4 (.tmp 43)) 4 41 true,lo 45 (.pick (.tmp 41) (.tmp 44) (.const (.bool false))) 4]
abbrev OP:List LO:=[lm 46 0 44,lo 47 (.nilCheck (.tmp 46)) 0,lo 48 (.fieldAddr 46 (.tmp 47) 1) 0,lo 49 (.load 3 (.tmp 48)) 3,lo 50 (.binOp .add 3 (.tmp 49) (.const (.int .i64 1)) 3) 3,lo 51 (.nilCheck (.tmp 46)) 0,lo 52 (.fieldAddr 46 (.tmp 51) 1) 0,ln (.store 3 (.tmp 52) (.tmp 50)) 0]
abbrev ON:List LO:=[lm 53 0 44,lo 54 (.nilCheck (.tmp 53)) 0,lo 55 (.fieldAddr 46 (.tmp 54) 0) 0,lo 56 (.load 9 (.tmp 55)) 9,lm 57 6 3,lm 58 0 44,lo 59 (.nilCheck (.tmp 58)) 0,lo 60 (.fieldAddr 46 (.tmp 59) 1) 0,lo 61 (.load 3 (.tmp 60)) 3,lo 62 (.slice 9 (.tmp 56) (some (.tmp 57)) (some (.tmp 61)) none) 9,lo 7 (.assign (.tmp 62)) 9]
abbrev OK:List LO:=[lm 63 7 9,lo 64 (.binOp .eql 9 (.tmp 63) (.const (.string ⟨#[]⟩)) 9) 4]
abbrev OY:List LO:=[lm 65 0 44,lo 66 (.call ⟨.value (.func 43),#[.tmp 65],#[44]⟩) 0]
abbrev OM:List LO:=[lo 4 (.assign (.const (.string ⟨#[]⟩))) 9,lo 5 (.assign (.const (.bool false))) 4]
abbrev NS:List LO:=[lm 67 1 9,lo 68 (.binOp .eql 9 (.tmp 67) (.const (.string ⟨#[61,61,61]⟩)) 9) 4]
abbrev Mz:List LO:=[lm 69 7 9,lo 70 (.call ⟨.builtin .len,#[.tmp 69],#[9]⟩) 3,lo 71 (.move (.const (.int .i64 0))) 3]
abbrev NL:List LO:=[lo 72 (.binOp .lss 3 (.tmp 71) (.tmp 70) 3) 4]
abbrev Np:List LO:=[lm 73 71 3,lo 8 (.assign (.tmp 73)) 3]
abbrev NG:List LO:=[lm 74 7 9,lm 75 8 3,lo 76 (.index 9 (.tmp 74) (.tmp 75)) 5,lo 77 (.binOp .lss 5 (.tmp 76) (.const (.int .u8 33)) 5) 4,lm 78 77 4,lmg 79 7 9 78 false,lmg 80 8 3 78 false,lg 81 (.index 9 (.tmp 79) (.tmp 80)) 5 78 false,lg 82 (.binOp .gtr 5 (.tmp 81) (.const (.int .u8 126)) 5) 4 78 false,lo 83 (.pick (.tmp 78) (.const (.bool true)) (.tmp 82)) 4]
abbrev Ni:List LO:=[lm 84 0 44,lm 85 6 3,lm 86 8 3,lo 87 (.binOp .add 3 (.tmp 85) (.tmp 86) 3) 3,lo 88 (.call ⟨.value (.func 39),#[.tmp 84,.const (.int .i64 10),.tmp 87],#[44,23,3]⟩) 0]
abbrev NJ:List LO:=[lo 89 (.binOp .add 3 (.tmp 71) (.const (.int .i64 1)) 3) 3,lm 71 89 3]
abbrev No:List LO:=[lm 90 7 9,lo 4 (.assign (.tmp 90)) 9,lo 5 (.assign (.const (.bool false))) 4]
abbrev Nb:List LO:=[lm 91 7 9,lo 92 (.call ⟨.value (.func 72),#[.tmp 91,.const (.string ⟨#[46,42]⟩)],#[9,9]⟩) 4,lm 93 92 4,lmg 94 1 9 93 true,lg 95 (.binOp .eql 9 (.tmp 94) (.const (.string ⟨#[61,61]⟩)) 9) 4 93 true,lmg 96 95 4 93 true,lmg 97 1 9 96 false,lg 98 (.binOp .eql 9 (.tmp 97) (.const (.string ⟨#[33,61]⟩)) 9) 4 96 false,lg 99 (.pick (.tmp 96) (.const (.bool true)) (.tmp 98)) 4 93 true,lo 100 (.pick (.tmp 93) (.tmp 99) (.const (.bool false))) 4,lo 9 (.assign (.tmp 100)) 4]
abbrev NO:List LO:=[lm 101 9 4]
abbrev NH:List LO:=[lm 102 7 9,lm 103 7 9,lo 104 (.call ⟨.builtin .len,#[.tmp 103],#[9]⟩) 3,lo 105 (.binOp .sub 3 (.tmp 104) (.const (.int .i64 2)) 3) 3,lo 106 (.slice 9 (.tmp 102) none (some (.tmp 105)) none) 9,lo 7 (.assign (.tmp 106)) 9]
abbrev M5:List LO:=[lm 108 7 9,lo 109 (.call ⟨.value (.func 31),#[.tmp 108],#[9]⟩) 35,lm 107 109 35,lo 110 (.extract (.tmp 107) 0) 34,lo 111 (.extract (.tmp 107) 1) 25,lo 10 (.alloc 34) 0,lo 11 (.alloc 25) 0,ln (.store 34 (.tmp 10) (.tmp 110)) 0,ln (.store 25 (.tmp 11) (.tmp 111)) 0]
abbrev M0:List LO:=[lo 113 (.fieldAddr 25 (.tmp 11) 0) 0,lo 114 (.load 23 (.tmp 113)) 23,lo 115 (.binOp .neq 23 (.tmp 114) (.const (.int .i64 0)) 23) 4,lo 112 (.assign (.tmp 115)) 4]
abbrev NR:List LO:=[lm 116 0 44,lo 117 (.fieldAddr 25 (.tmp 11) 0) 0,lo 118 (.load 23 (.tmp 117)) 23,lm 119 6 3,lo 120 (.fieldAddr 25 (.tmp 11) 1) 0,lo 121 (.load 3 (.tmp 120)) 3,lo 122 (.binOp .add 3 (.tmp 119) (.tmp 121) 3) 3,lo 123 (.call ⟨.value (.func 39),#[.tmp 116,.tmp 118,.tmp 122],#[44,23,3]⟩) 0]
abbrev M7:List LO:=[lm 125 9 4,lm 126 125 4,lg 127 (.load 34 (.tmp 10)) 34 126 true,lg 128 (.call ⟨.value (.func 73),#[.tmp 127],#[34]⟩) 4 126 true,lg 129 (.unOp .not 4 (.tmp 128)) 4 126 true,lo 130 (.pick (.tmp 126) (.tmp 129) (.const (.bool false))) 4,lo 124 (.assign (.tmp 130)) 4]
abbrev Nl:List LO:=[lm 131 1 9,lo 132 (.binOp .eql 9 (.tmp 131) (.const (.string ⟨#[126,61]⟩)) 9) 4,lm 133 132 4,lg 134 (.fieldAddr 34 (.tmp 10) 1) 0 133 true,lg 135 (.load 32 (.tmp 134)) 32 133 true,lg 136 (.call ⟨.builtin .len,#[.tmp 135],#[32]⟩) 3 133 true,lg 137 (.binOp .lss 3 (.tmp 136) (.const (.int .i64 2)) 3) 4 133 true,lo 138 (.pick (.tmp 133) (.tmp 137) (.const (.bool false))) 4,lo 124 (.assign (.tmp 138)) 4]
abbrev My:List LO:=[lm 139 1 9,lo 140 (.binOp .neq 9 (.tmp 139) (.const (.string ⟨#[61,61]⟩)) 9) 4,lm 141 140 4,lmg 142 1 9 141 true,lg 143 (.binOp .neq 9 (.tmp 142) (.const (.string ⟨#[33,61]⟩)) 9) 4 141 true,lo 144 (.pick (.tmp 141) (.tmp 143) (.const (.bool false))) 4,lm 145 144 4,lg 146 (.fieldAddr 34 (.tmp 10) 8) 0 145 true,lg 147 (.load 32 (.tmp 146)) 32 145 true,lg 148 (.call ⟨.builtin .len,#[.tmp 147],#[32]⟩) 3 145 true,lg 149 (.binOp .gtr 3 (.tmp 148) (.const (.int .i64 0)) 3) 4 145 true,lo 150 (.pick (.tmp 145) (.tmp 149) (.const (.bool false))) 4,lo 124 (.assign (.tmp 150)) 4]
abbrev Nk:List LO:=[lm 151 0 44,lm 152 6 3,lo 153 (.call ⟨.value (.func 39),#[.tmp 151,.const (.int .i64 19),.tmp 152],#[44,23,3]⟩) 0]
abbrev Nm:List LO:=[lm 154 7 9,lm 155 9 4,lo 4 (.assign (.tmp 154)) 9,lo 5 (.assign (.tmp 155)) 4]
abbrev Ht:LC:=.seq (.reg false OA) (.seq (.reg false N7) (.seq (.reg false OF) (.seq (.block 0 (.loop (.seq (.seq (.reg true OR) (.cond (.tmp 45) .skip (.exit 0))) (.block 1 (.reg false OP))))) (.seq (.reg true ON) (.seq (.seq (.reg false OK) (.cond (.tmp 64) (.seq (.reg false OY) (.seq (.reg false OM) .ret)) .skip)) (.seq (.seq (.reg false NS) (.cond (.tmp 68) (.seq (.seq (.reg false Mz) (.block 2 (.loop (.seq (.reg false NL) (.seq (.cond (.tmp 72) .skip (.exit 2)) (.seq (.block 3 (.seq (.reg false Np) (.seq (.reg false NG) (.cond (.tmp 83) (.reg false Ni) .skip)))) (.reg false NJ))))))) (.seq (.reg false No) .ret)) .skip)) (.seq (.reg false Nb) (.seq (.seq (.reg false NO) (.cond (.tmp 101) (.reg false NH) .skip)) (.seq (.reg false M5) (.seq (.block 4 (.seq (.reg false M0) (.cond (.tmp 112) (.reg false NR) (.seq (.seq (.reg false M7) (.cond (.tmp 124) .skip (.seq (.reg false Nl) (.cond (.tmp 124) .skip (.reg false My))))) (.cond (.tmp 124) (.reg false Nk) .skip))))) (.seq (.reg false Nm) .ret)))))))))))
theorem Of:BE E 41 156 [.tmp 4,.tmp 5] Ht:=⟨⟨Go.Proofs.Tryz.f41,by kernel_rfl,by kernel_rfl,by kernel_rfl,by kernel_rfl,by kernel_rfl⟩,rfl,rfl⟩
noncomputable def CO (a0:Str) (a2:Int) (a3:Int):Int→Option (Step (Int) (Int)):=fun x64=>Option.bind (if (decide (x64 < (List.length a0:Int)))=true then Option.bind (idx a0 x64) (fun x75=>Option.bind (DZ x75 6) (fun x76=>some (!x76))) else some false:Option (Bool)) (fun x74=>Option.bind (if x74=true then Option.bind (BA a0 x64 a2 a3 44) (fun x79=>some (!x79)) else some false:Option (Bool)) (fun x78=>(if x78=true then some (Step.next (w64 (x64 + 1))) else some (Step.done x64))))
noncomputable def CT (a0:Str) (x58:Int) (x71:Int) (x80:Str):(Int × Int × Int)→Option (Step (Int × Int × Int) (Int × Int)):=fun (x90,x91,x92)=>(if (decide (x92 < (List.length x80:Int)))=true then Option.bind (Option.bind (idx x80 x92) (fun x112=>Option.bind (if (decide (x112 < 33))=true then some true else Option.bind (idx x80 x92) (fun x115=>some (decide (x115 > 126))):Option (Bool)) (fun x114=>(if x114=true then Option.bind (A6 a0 x71 x90 x91 10 (w64 (x58 + x92))) (fun (x116,x117)=>some (x116,x117)) else some (x90,x91)))):Option (Int × Int)) (fun (x110,x111)=>some (Step.next (x110,x111,(w64 (x92 + 1))))) else some (Step.done (x90,x91)))
abbrev EI (a0:Str) (a1:Int) (a2:Int) (a3:Int) (a4:Str) (r:Str × Bool × Int × Int × Int):CS:=⟨[V 4 (bs r.1),V 5 (bv r.2.1)],[W 0 4 [bs a0,iv r.2.2.1,iv r.2.2.2.1,iv r.2.2.2.2]],1⟩
noncomputable def C2 (a0:Str) (a1:Int) (a2:Int) (a3:Int) (a4:Str):Option (Str × Bool × Int × Int × Int):=Option.bind (BT a0 a1 a2 a3) (fun x58=>Option.bind (Bi (CO a0 a2 a3) x58) (fun x71=>Option.bind (Fj a0 x58 x71) (fun x80=>(if (x80 == [])=true then Option.bind (Bn a0 x71 a2 a3) (fun (x81,x82)=>some ([],false,x71,x81,x82)) else (if (a4 == [61,61,61])=true then Option.bind (Bi (CT a0 x58 x71 x80) (a2,a3,0)) (fun (x103,x104)=>some (x80,false,x71,x103,x104)) else Option.bind (DM x80 [46,42]) (fun x118=>Option.bind ((if (x118 && ((a4 == [61,61]) || (a4 == [33,61])))=true then Option.bind (Fj x80 0 (w64 ((List.length x80:Int) - 2))) (fun x121=>some x121) else some x80):Option (Str)) (fun x120=>Option.bind (FG x120) (fun x122=>Option.bind ((if (x122.2.Err != 0)=true then Option.bind (A6 a0 x71 a2 a3 x122.2.Err (w64 (x58 + x122.2.At))) (fun (x132,x133)=>some (x132,x133)) else Option.bind (Option.bind (if (x118 && ((a4 == [61,61]) || (a4 == [33,61])))=true then Option.bind (Fc (AF.mk x122.1.Epoch x122.1.Release x122.1.Pre x122.1.PreNum x122.1.Post x122.1.PostNum x122.1.Dev x122.1.DevNum x122.1.Local)) (fun x139=>some (!x139)) else some false:Option (Bool)) (fun x138=>(if x138=true then some true else (if ((a4 == [126,61]) && (decide ((List.length x122.1.Release:Int) < 2)))=true then some true else some (((!(a4 == [61,61])) && (!(a4 == [33,61]))) && (decide ((List.length x122.1.Local:Int) > 0)))))):Option (Bool)) (fun x136=>(if x136=true then Option.bind (A6 a0 x71 a2 a3 19 x58) (fun (x140,x141)=>some (x140,x141)) else some (a2,a3)))):Option (Int × Int)) (fun (x130,x131)=>some (x120,(x118 && ((a4 == [61,61]) || (a4 == [33,61]))),x71,x130,x131))))))))))
theorem N8 (a0:Str) (a1:Int) (a2:Int) (a3:Int) (a4:Str):CtM E 41 [pt 0 4,bs a4] [W 0 4 [bs a0,iv a1,iv a2,iv a3]] 1 (C2 a0 a1 a2 a3 a4) (fun r:Str × Bool × Int × Int × Int=>.tup [bs r.1,bv r.2.1]) (fun r:Str × Bool × Int × Int × Int=>[W 0 4 [bs a0,iv r.2.2.1,iv r.2.2.2.1,iv r.2.2.2.2]]) 1:=Bf (N:=156) (L:=Ht) Of rfl (Nat.le_of_ble_eq_true rfl) (fun F hF=>by
 unfold C2
 refine jS ⟨[V 0 (pt 0 4),V 1 (bs a4)],[W 0 4 [bs a0,iv a1,iv a2,iv a3]],1⟩ ?_
 refine jR ?_
 refine jG 0 1 ⟨[V 0 (pt 0 4),V 1 (bs a4),V 12 (pt 0 4)],[W 0 4 [bs a0,iv a1,iv a2,iv a3]],1⟩ ?_
 refine Am 1 [(0,some 0)] [(0,some 0)] (fun r:Int=>[W 0 4 [bs a0,iv r,iv a2,iv a3]]) (fun r:Int=>.tup []) 1 (Cl a0 a1 a2 a3) (pc (hC 0) AB) (fun r=>(pc (.inr (hC 0)) AB)) ?_
 rintro x58 hm16
 refine jN ?_
 refine jS ⟨[V 0 (pt 0 4),V 1 (bs a4),V 6 (iv x58)],[W 0 4 [bs a0,iv x58,iv a2,iv a3]],1⟩ ?_
 refine AT ?_
 refine Ai ?_
 refine As (fun x71=>⟨[V 0 (pt 0 4),V 1 (bs a4),V 6 (iv x58)],[W 0 4 [bs a0,iv x71,iv a2,iv a3]],1⟩) (fun x71=>(.exit 0)) (Cj (fun x64=>⟨[V 0 (pt 0 4),V 1 (bs a4),V 6 (iv x58)],[W 0 4 [bs a0,iv x64,iv a2,iv a3]],1⟩) (wkR [(0,some 0)] (AY hF (k:=1) rfl) (pc (hC 0) AB)) ?_) ?_
 ·intro x64
  unfold CO
  refine AT ?_
  refine jR ?_
  refine jG 0 11 ⟨[V 0 (pt 0 4),V 1 (bs a4),V 6 (iv x58),V 28 (bv (decide (x64 < (List.length a0:Int))))],[W 0 4 [bs a0,iv x64,iv a2,iv a3]],1⟩ ?_
  refine Ak 11 12 (fun x74=>⟨[V 0 (pt 0 4),V 1 (bs a4),V 6 (iv x58),V 40 (bv x74)],[W 0 4 [bs a0,iv x64,iv a2,iv a3]],1⟩) ?_ ?_
  ·refine jSp 28 ?_ ?_
   ·refine jG 0 8 ⟨[V 0 (pt 0 4),V 1 (bs a4),V 6 (iv x58),(28,.lit true),V 32 (bs a0),V 36 (iv x64)],[W 0 4 [bs a0,iv x64,iv a2,iv a3]],1⟩ ?_
    refine An (i:=8) (mo:=idx a0 x64) rfl rfl rfl rfl (fun _ hc=>Bd (kk:=.i64) (by kernel_rfl) (by kernel_rfl) (by kernel_rfl) hc) (fun _=>rfl) ?_
    intro x75 h75
    refine jK 9 (E0 x75 6) ?_
    intro x76 h76
    refine jG 10 2 ⟨[V 0 (pt 0 4),V 1 (bs a4),V 6 (iv x58),V 40 (bv (!x76))],[W 0 4 [bs a0,iv x64,iv a2,iv a3]],1⟩ ?_
    refine AQ rfl ?_
    exact AK rfl (wkR [(0,some 0)] (AY hF (k:=1) rfl) (pc (hC 0) AB))
   refine jG 0 12 ⟨[V 0 (pt 0 4),V 1 (bs a4),V 6 (iv x58),V 40 (bv false)],[W 0 4 [bs a0,iv x64,iv a2,iv a3]],1⟩ ?_
   refine AQ rfl ?_
   exact AK rfl (wkR [(0,some 0)] (AY hF (k:=1) rfl) (pc (hC 0) AB))
  intro x74
  refine jG 23 1 ⟨[V 0 (pt 0 4),V 1 (bs a4),V 6 (iv x58),V 41 (bv x74)],[W 0 4 [bs a0,iv x64,iv a2,iv a3]],1⟩ ?_
  refine Ak 24 4 (fun x78=>⟨[V 0 (pt 0 4),V 1 (bs a4),V 6 (iv x58),V 45 (bv x78)],[W 0 4 [bs a0,iv x64,iv a2,iv a3]],1⟩) ?_ ?_
  ·refine jSp 41 ?_ ?_
   ·refine jG 0 1 ⟨[V 0 (pt 0 4),V 1 (bs a4),V 6 (iv x58),(41,.lit true),V 42 (pt 0 4)],[W 0 4 [bs a0,iv x64,iv a2,iv a3]],1⟩ ?_
    refine Bh (i:=1) rfl rfl rfl rfl (vs:=[pt 0 4,.s (.int .u8 44)]) (vs0:=[.fptr [bs a0,iv x64,iv a2,iv a3] 0,.s (.int .u8 44)]) (b:=true) (by kernel_rfl) (by kernel_rfl) (AJ (AE _) (AJ (AE _) Aj)) (Bl a0 x64 a2 a3 44) (fun _=>rfl) (fun _=>rfl) ?_
    intro x79 h79
    refine jG 2 2 ⟨[V 0 (pt 0 4),V 1 (bs a4),V 6 (iv x58),V 45 (bv (!x79))],[W 0 4 [bs a0,iv x64,iv a2,iv a3]],1⟩ ?_
    refine AQ rfl ?_
    exact AK rfl (wkR [(0,some 0)] (AY hF (k:=1) rfl) (pc (hC 0) AB))
   refine jG 0 4 ⟨[V 0 (pt 0 4),V 1 (bs a4),V 6 (iv x58),V 45 (bv false)],[W 0 4 [bs a0,iv x64,iv a2,iv a3]],1⟩ ?_
   refine AQ rfl ?_
   exact AK rfl (wkR [(0,some 0)] (AY hF (k:=1) rfl) (pc (hC 0) AB))
  intro x78
  refine jN ?_
  refine jIf ?_ ?_
  ·refine AS ?_
   refine AN ?_
   refine Ai ?_
   refine jT ⟨[V 0 (pt 0 4),V 1 (bs a4),V 6 (iv x58)],[W 0 4 [bs a0,iv (w64 (x64 + 1)),iv a2,iv a3]],1⟩ ?_
   refine A8 ?_
   exact Ck (wkR [(0,some 0)] (AY hF (k:=1) rfl) (pc (hC 0) AB))
  refine CN ?_
  refine CM ?_
  exact BD rfl nofun (wkR [(0,some 0)] (AY hF (k:=1) rfl) (pc (hC 0) AB))
 intro x71
 refine CY ?_
 refine AN ?_
 refine jR ?_
 refine jG 0 9 ⟨[V 0 (pt 0 4),V 1 (bs a4),V 6 (iv x58),V 56 (bs a0),V 57 (iv x58),V 61 (iv x71)],[W 0 4 [bs a0,iv x71,iv a2,iv a3]],1⟩ ?_
 refine An (i:=9) (mo:=Fj a0 x58 x71) rfl rfl rfl rfl (fun _ hc=>He (by kernel_rfl) (by kernel_rfl) (by kernel_rfl) (by kernel_rfl) hc) (fun _=>rfl) ?_
 intro x80 h80
 refine jG 10 1 ⟨[V 0 (pt 0 4),V 1 (bs a4),V 6 (iv x58),V 7 (bs x80)],[W 0 4 [bs a0,iv x71,iv a2,iv a3]],1⟩ ?_
 refine jN ?_
 refine AT ?_
 refine jS ⟨[V 0 (pt 0 4),V 1 (bs a4),V 6 (iv x58),V 7 (bs x80),V 64 (bv (x80 == []))],[W 0 4 [bs a0,iv x71,iv a2,iv a3]],1⟩ ?_
 refine jIf ?_ ?_
 ·refine jR ?_
  refine jG 0 1 ⟨[V 65 (pt 0 4)],[W 0 4 [bs a0,iv x71,iv a2,iv a3]],1⟩ ?_
  refine Am 1 [(0,some 0)] [(0,some 0)] (fun r:Int × Int=>[W 0 4 [bs a0,iv x71,iv r.1,iv r.2]]) (fun r:Int × Int=>.tup []) 1 (D0 a0 x71 a2 a3) (pc (hC 0) AB) (fun r=>(pc (.inr (hC 0)) AB)) ?_
  rintro⟨x81,x82⟩ hm7
  refine jN ?_
  refine jS ⟨[V 4 (bs []),V 5 (bv false)],[W 0 4 [bs a0,iv x71,iv x81,iv x82]],1⟩ ?_
  refine AO ?_
  refine AZ ?_
  exact A7 (EI a0 a1 a2 a3 a4 ([],false,x71,x81,x82)) (.inr rfl) (wkR [(0,some 0)] (AY hF (k:=1) rfl) (pc (hC 0) AB))
 refine AS ?_
 refine AN ?_
 refine AT ?_
 refine jS ⟨[V 0 (pt 0 4),V 1 (bs a4),V 6 (iv x58),V 7 (bs x80),V 68 (bv (a4 == [61,61,61]))],[W 0 4 [bs a0,iv x71,iv a2,iv a3]],1⟩ ?_
 refine jIf ?_ ?_
 ·refine AT ?_
  refine jS ⟨[V 0 (pt 0 4),V 6 (iv x58),V 7 (bs x80),V 70 (iv (List.length x80:Int)),V 71 (iv 0)],[W 0 4 [bs a0,iv x71,iv a2,iv a3]],1⟩ ?_
  refine Ai ?_
  refine As (fun (x103,x104)=>⟨[V 7 (bs x80)],[W 0 4 [bs a0,iv x71,iv x103,iv x104]],1⟩) (fun (x103,x104)=>(.exit 2)) (Cj (fun (x90,x91,x92)=>⟨[V 0 (pt 0 4),V 6 (iv x58),V 7 (bs x80),V 70 (iv (List.length x80:Int)),V 71 (iv x92)],[W 0 4 [bs a0,iv x71,iv x90,iv x91]],1⟩) (wkR [(0,some 0)] (AY hF (k:=1) rfl) (pc (hC 0) AB)) ?_) ?_
  ·rintro⟨x90,x91,x92⟩
   unfold CT
   refine jS ⟨[V 0 (pt 0 4),V 6 (iv x58),V 7 (bs x80),V 70 (iv (List.length x80:Int)),V 71 (iv x92),V 72 (bv (decide (x92 < (List.length x80:Int))))],[W 0 4 [bs a0,iv x71,iv x90,iv x91]],1⟩ ?_
   refine AT ?_
   refine jIf ?_ ?_
   ·refine AS ?_
    refine AN ?_
    refine AT ?_
    refine As (fun (x110,x111)=>⟨[V 0 (pt 0 4),V 6 (iv x58),V 7 (bs x80),V 70 (iv (List.length x80:Int)),V 71 (iv x92)],[W 0 4 [bs a0,iv x71,iv x110,iv x111]],1⟩) (fun (x110,x111)=>.normal) ?_ ?_
    ·refine Ai ?_
     refine jS ⟨[V 0 (pt 0 4),V 6 (iv x58),V 7 (bs x80),V 8 (iv x92),V 70 (iv (List.length x80:Int)),V 71 (iv x92)],[W 0 4 [bs a0,iv x71,iv x90,iv x91]],1⟩ ?_
     refine jR ?_
     refine jG 0 2 ⟨[V 0 (pt 0 4),V 6 (iv x58),V 7 (bs x80),V 8 (iv x92),V 70 (iv (List.length x80:Int)),V 71 (iv x92),V 74 (bs x80),V 75 (iv x92)],[W 0 4 [bs a0,iv x71,iv x90,iv x91]],1⟩ ?_
     refine An (i:=2) (mo:=idx x80 x92) rfl rfl rfl rfl (fun _ hc=>Bd (kk:=.i64) (by kernel_rfl) (by kernel_rfl) (by kernel_rfl) hc) (fun _=>rfl) ?_
     intro x112 h112
     refine jG 3 2 ⟨[V 0 (pt 0 4),V 6 (iv x58),V 7 (bs x80),V 8 (iv x92),V 70 (iv (List.length x80:Int)),V 71 (iv x92),V 78 (bv (decide (x112 < 33)))],[W 0 4 [bs a0,iv x71,iv x90,iv x91]],1⟩ ?_
     refine Ak 5 5 (fun x114=>⟨[V 0 (pt 0 4),V 6 (iv x58),V 7 (bs x80),V 8 (iv x92),V 70 (iv (List.length x80:Int)),V 71 (iv x92),V 83 (bv x114)],[W 0 4 [bs a0,iv x71,iv x90,iv x91]],1⟩) ?_ ?_
     ·refine jSp 78 ?_ ?_
      ·refine jG 0 5 ⟨[V 0 (pt 0 4),V 6 (iv x58),V 7 (bs x80),V 8 (iv x92),V 70 (iv (List.length x80:Int)),V 71 (iv x92),V 83 (bv true)],[W 0 4 [bs a0,iv x71,iv x90,iv x91]],1⟩ ?_
       refine AQ rfl ?_
       exact AK rfl (wkR [(0,some 0)] (AY hF (k:=1) rfl) (pc (hC 0) AB))
      refine jG 0 2 ⟨[V 0 (pt 0 4),V 6 (iv x58),V 7 (bs x80),V 8 (iv x92),V 70 (iv (List.length x80:Int)),V 71 (iv x92),(78,.lit false),V 79 (bs x80),V 80 (iv x92)],[W 0 4 [bs a0,iv x71,iv x90,iv x91]],1⟩ ?_
      refine An (i:=2) (mo:=idx x80 x92) rfl rfl rfl rfl (fun _ hc=>Bd (kk:=.i64) (by kernel_rfl) (by kernel_rfl) (by kernel_rfl) hc) (fun _=>rfl) ?_
      intro x115 h115
      refine jG 3 2 ⟨[V 0 (pt 0 4),V 6 (iv x58),V 7 (bs x80),V 8 (iv x92),V 70 (iv (List.length x80:Int)),V 71 (iv x92),V 83 (bv (decide (x115 > 126)))],[W 0 4 [bs a0,iv x71,iv x90,iv x91]],1⟩ ?_
      refine AQ rfl ?_
      exact AK rfl (wkR [(0,some 0)] (AY hF (k:=1) rfl) (pc (hC 0) AB))
     intro x114
     refine jN ?_
     refine jIf ?_ ?_
     ·refine CA ?_
      refine jG 0 4 ⟨[V 0 (pt 0 4),V 6 (iv x58),V 7 (bs x80),V 70 (iv (List.length x80:Int)),V 71 (iv x92),V 84 (pt 0 4),V 87 (iv (w64 (x58 + x92)))],[W 0 4 [bs a0,iv x71,iv x90,iv x91]],1⟩ ?_
      refine Am 4 [(0,some 0)] [(0,some 0)] (fun r:Int × Int=>[W 0 4 [bs a0,iv x71,iv r.1,iv r.2]]) (fun r:Int × Int=>.tup []) 1 (Bs a0 x71 x90 x91 10 (w64 (x58 + x92))) (pc (hC 0) AB) (fun r=>(pc (.inr (hC 0)) AB)) ?_
      rintro⟨x116,x117⟩ hm11
      refine AQ rfl ?_
      refine A8 ?_
      exact AK rfl (wkR [(0,some 0)] (AY hF (k:=1) rfl) (pc (hC 0) AB))
     refine AS ?_
     refine A8 ?_
     exact AK rfl (wkR [(0,some 0)] (AY hF (k:=1) rfl) (pc (hC 0) AB))
    rintro⟨x110,x111⟩
    refine AN ?_
    refine jT ⟨[V 0 (pt 0 4),V 6 (iv x58),V 7 (bs x80),V 70 (iv (List.length x80:Int)),V 71 (iv (w64 (x92 + 1)))],[W 0 4 [bs a0,iv x71,iv x110,iv x111]],1⟩ ?_
    exact Ck (wkR [(0,some 0)] (AY hF (k:=1) rfl) (pc (hC 0) AB))
   refine CN ?_
   refine CM ?_
   exact BD rfl nofun (wkR [(0,some 0)] (AY hF (k:=1) rfl) (pc (hC 0) AB))
  rintro⟨x103,x104⟩
  refine CY ?_
  refine AN ?_
  refine jS ⟨[V 4 (bs x80),V 5 (bv false)],[W 0 4 [bs a0,iv x71,iv x103,iv x104]],1⟩ ?_
  refine AO ?_
  refine AZ ?_
  exact A7 (EI a0 a1 a2 a3 a4 (x80,false,x71,x103,x104)) (.inr rfl) (wkR [(0,some 0)] (AY hF (k:=1) rfl) (pc (hC 0) AB))
 refine AS ?_
 refine AN ?_
 refine jR ?_
 refine jG 0 1 ⟨[V 0 (pt 0 4),V 1 (bs a4),V 6 (iv x58),V 7 (bs x80),V 91 (bs x80)],[W 0 4 [bs a0,iv x71,iv a2,iv a3]],1⟩ ?_
 refine jK 1 (PN x80 [46,42]) ?_
 intro x118 h118
 refine jG 2 9 ⟨[V 0 (pt 0 4),V 1 (bs a4),V 6 (iv x58),V 7 (bs x80),V 9 (bv (x118 && ((a4 == [61,61]) || (a4 == [33,61]))))],[W 0 4 [bs a0,iv x71,iv a2,iv a3]],1⟩ ?_
 refine jN ?_
 refine AT ?_
 refine As (fun x120=>⟨[V 0 (pt 0 4),V 1 (bs a4),V 6 (iv x58),V 7 (bs x120),V 9 (bv (x118 && ((a4 == [61,61]) || (a4 == [33,61]))))],[W 0 4 [bs a0,iv x71,iv a2,iv a3]],1⟩) (fun x120=>.normal) ?_ ?_
 ·refine jS ⟨[V 0 (pt 0 4),V 1 (bs a4),V 6 (iv x58),V 7 (bs x80),V 9 (bv (x118 && ((a4 == [61,61]) || (a4 == [33,61])))),V 101 (bv (x118 && ((a4 == [61,61]) || (a4 == [33,61]))))],[W 0 4 [bs a0,iv x71,iv a2,iv a3]],1⟩ ?_
  refine jIf ?_ ?_
  ·refine CA ?_
   refine jG 0 4 ⟨[V 0 (pt 0 4),V 1 (bs a4),V 6 (iv x58),V 9 (bv (x118 && ((a4 == [61,61]) || (a4 == [33,61])))),V 102 (bs x80),V 105 (iv (w64 ((List.length x80:Int) - 2)))],[W 0 4 [bs a0,iv x71,iv a2,iv a3]],1⟩ ?_
   refine An (i:=4) (mo:=Fj x80 0 (w64 ((List.length x80:Int) - 2))) rfl rfl rfl rfl (fun _ hc=>He (by kernel_rfl) (by kernel_rfl) (by kernel_rfl) (by kernel_rfl) hc) (fun _=>rfl) ?_
   intro x121 h121
   refine jG 5 1 ⟨[V 0 (pt 0 4),V 1 (bs a4),V 6 (iv x58),V 7 (bs x121),V 9 (bv (x118 && ((a4 == [61,61]) || (a4 == [33,61]))))],[W 0 4 [bs a0,iv x71,iv a2,iv a3]],1⟩ ?_
   refine AQ rfl ?_
   exact AK rfl (wkR [(0,some 0)] (AY hF (k:=1) rfl) (pc (hC 0) AB))
  refine AS ?_
  exact AK rfl (wkR [(0,some 0)] (AY hF (k:=1) rfl) (pc (hC 0) AB))
 intro x120
 refine AN ?_
 refine jR ?_
 refine jG 0 1 ⟨[V 0 (pt 0 4),V 1 (bs a4),V 6 (iv x58),V 7 (bs x120),V 9 (bv (x118 && ((a4 == [61,61]) || (a4 == [33,61])))),V 108 (bs x120)],[W 0 4 [bs a0,iv x71,iv a2,iv a3]],1⟩ ?_
 refine jK 1 (GR x120) ?_
 intro x122 h122
 refine jG 2 7 ⟨[V 0 (pt 0 4),V 1 (bs a4),V 6 (iv x58),V 7 (bs x120),V 9 (bv (x118 && ((a4 == [61,61]) || (a4 == [33,61])))),V 10 (pt 1 9),V 11 (pt 2 2)],[W 0 4 [bs a0,iv x71,iv a2,iv a3],W 1 9 [bs x122.1.Epoch,.fsl 1 (List.map cS x122.1.Release),.s (.int .u8 x122.1.Pre),bs x122.1.PreNum,bv x122.1.Post,bs x122.1.PostNum,bv x122.1.Dev,bs x122.1.DevNum,.fsl 1 (List.map cS x122.1.Local)],W 2 2 [iv x122.2.Err,iv x122.2.At]],3⟩ ?_
 refine jN ?_
 refine AT ?_
 refine As (fun (x130,x131)=>⟨[V 7 (bs x120),V 9 (bv (x118 && ((a4 == [61,61]) || (a4 == [33,61]))))],[W 0 4 [bs a0,iv x71,iv x130,iv x131]],1⟩) (fun (x130,x131)=>.normal) ?_ ?_
 ·refine Ai ?_
  refine jS ⟨[V 0 (pt 0 4),V 1 (bs a4),V 6 (iv x58),V 7 (bs x120),V 9 (bv (x118 && ((a4 == [61,61]) || (a4 == [33,61])))),V 10 (pt 1 9),V 11 (pt 2 2),V 112 (bv (x122.2.Err != 0))],[W 0 4 [bs a0,iv x71,iv a2,iv a3],W 1 9 [bs x122.1.Epoch,.fsl 1 (List.map cS x122.1.Release),.s (.int .u8 x122.1.Pre),bs x122.1.PreNum,bv x122.1.Post,bs x122.1.PostNum,bv x122.1.Dev,bs x122.1.DevNum,.fsl 1 (List.map cS x122.1.Local)],W 2 2 [iv x122.2.Err,iv x122.2.At]],3⟩ ?_
  refine jIf ?_ ?_
  ·refine CA ?_
   refine jG 0 7 ⟨[V 7 (bs x120),V 9 (bv (x118 && ((a4 == [61,61]) || (a4 == [33,61])))),V 116 (pt 0 4),V 118 (iv x122.2.Err),V 122 (iv (w64 (x58 + x122.2.At)))],[W 0 4 [bs a0,iv x71,iv a2,iv a3]],3⟩ ?_
   refine Am 7 [(0,some 0)] [(0,some 0)] (fun r:Int × Int=>[W 0 4 [bs a0,iv x71,iv r.1,iv r.2]]) (fun r:Int × Int=>.tup []) 3 (Bs a0 x71 a2 a3 x122.2.Err (w64 (x58 + x122.2.At))) (pc (hC 0) AB) (fun r=>(pc (.inr (hC 0)) AB)) ?_
   rintro⟨x132,x133⟩ hm14
   refine AQ rfl ?_
   refine A8 ?_
   exact AK rfl (wkR [(0,some 0)] (AY hF (k:=1) rfl) (pc (hC 0) AB))
  refine AT ?_
  refine As (fun x136=>⟨[V 0 (pt 0 4),V 6 (iv x58),V 7 (bs x120),V 9 (bv (x118 && ((a4 == [61,61]) || (a4 == [33,61])))),V 124 (bv x136)],[W 0 4 [bs a0,iv x71,iv a2,iv a3]],1⟩) (fun x136=>.normal) ?_ ?_
  ·refine jR ?_
   refine jG 0 2 ⟨[V 0 (pt 0 4),V 1 (bs a4),V 6 (iv x58),V 7 (bs x120),V 9 (bv (x118 && ((a4 == [61,61]) || (a4 == [33,61])))),V 10 (pt 1 9),V 126 (bv (x118 && ((a4 == [61,61]) || (a4 == [33,61]))))],[W 0 4 [bs a0,iv x71,iv a2,iv a3],W 1 9 [bs x122.1.Epoch,.fsl 1 (List.map cS x122.1.Release),.s (.int .u8 x122.1.Pre),bs x122.1.PreNum,bv x122.1.Post,bs x122.1.PostNum,bv x122.1.Dev,bs x122.1.DevNum,.fsl 1 (List.map cS x122.1.Local)]],3⟩ ?_
   refine Ak 2 4 (fun x138=>⟨[V 0 (pt 0 4),V 1 (bs a4),V 6 (iv x58),V 7 (bs x120),V 9 (bv (x118 && ((a4 == [61,61]) || (a4 == [33,61])))),V 10 (pt 1 9),V 130 (bv x138)],[W 0 4 [bs a0,iv x71,iv a2,iv a3],W 1 9 [bs x122.1.Epoch,.fsl 1 (List.map cS x122.1.Release),.s (.int .u8 x122.1.Pre),bs x122.1.PreNum,bv x122.1.Post,bs x122.1.PostNum,bv x122.1.Dev,bs x122.1.DevNum,.fsl 1 (List.map cS x122.1.Local)]],2⟩) ?_ ?_
   ·refine jSp 126 ?_ ?_
    ·refine jG 0 1 ⟨[V 0 (pt 0 4),V 1 (bs a4),V 6 (iv x58),V 7 (bs x120),V 9 (bv (x118 && ((a4 == [61,61]) || (a4 == [33,61])))),V 10 (pt 1 9),(126,.lit true),V 127 (.agg [bs x122.1.Epoch,.fsl 1 (List.map cS x122.1.Release),.s (.int .u8 x122.1.Pre),bs x122.1.PreNum,bv x122.1.Post,bs x122.1.PostNum,bv x122.1.Dev,bs x122.1.DevNum,.fsl 1 (List.map cS x122.1.Local)])],[W 0 4 [bs a0,iv x71,iv a2,iv a3],W 1 9 [bs x122.1.Epoch,.fsl 1 (List.map cS x122.1.Release),.s (.int .u8 x122.1.Pre),bs x122.1.PreNum,bv x122.1.Post,bs x122.1.PostNum,bv x122.1.Dev,bs x122.1.DevNum,.fsl 1 (List.map cS x122.1.Local)]],3⟩ ?_
     refine jK 1 (T4 (AF.mk x122.1.Epoch x122.1.Release x122.1.Pre x122.1.PreNum x122.1.Post x122.1.PostNum x122.1.Dev x122.1.DevNum x122.1.Local)) ?_
     intro x139 h139
     refine jG 2 2 ⟨[V 0 (pt 0 4),V 1 (bs a4),V 6 (iv x58),V 7 (bs x120),V 9 (bv (x118 && ((a4 == [61,61]) || (a4 == [33,61])))),V 10 (pt 1 9),V 130 (bv (!x139))],[W 0 4 [bs a0,iv x71,iv a2,iv a3],W 1 9 [bs x122.1.Epoch,.fsl 1 (List.map cS x122.1.Release),.s (.int .u8 x122.1.Pre),bs x122.1.PreNum,bv x122.1.Post,bs x122.1.PostNum,bv x122.1.Dev,bs x122.1.DevNum,.fsl 1 (List.map cS x122.1.Local)]],3⟩ ?_
     refine AQ rfl ?_
     exact AK rfl (wkR [(0,some 0),(1,some 1)] (AY hF (k:=1) rfl) (pc (hC 0) (pc (hC 1) AB)))
    refine jG 0 4 ⟨[V 0 (pt 0 4),V 1 (bs a4),V 6 (iv x58),V 7 (bs x120),V 9 (bv (x118 && ((a4 == [61,61]) || (a4 == [33,61])))),V 10 (pt 1 9),V 130 (bv false)],[W 0 4 [bs a0,iv x71,iv a2,iv a3],W 1 9 [bs x122.1.Epoch,.fsl 1 (List.map cS x122.1.Release),.s (.int .u8 x122.1.Pre),bs x122.1.PreNum,bv x122.1.Post,bs x122.1.PostNum,bv x122.1.Dev,bs x122.1.DevNum,.fsl 1 (List.map cS x122.1.Local)]],3⟩ ?_
    refine AQ rfl ?_
    exact AK rfl (wkR [(0,some 0),(1,some 1)] (AY hF (k:=1) rfl) (pc (hC 0) (pc (hC 1) AB)))
   intro x138
   refine jG 6 1 ⟨[V 0 (pt 0 4),V 1 (bs a4),V 6 (iv x58),V 7 (bs x120),V 9 (bv (x118 && ((a4 == [61,61]) || (a4 == [33,61])))),V 10 (pt 1 9),V 124 (bv x138)],[W 0 4 [bs a0,iv x71,iv a2,iv a3],W 1 9 [bs x122.1.Epoch,.fsl 1 (List.map cS x122.1.Release),.s (.int .u8 x122.1.Pre),bs x122.1.PreNum,bv x122.1.Post,bs x122.1.PostNum,bv x122.1.Dev,bs x122.1.DevNum,.fsl 1 (List.map cS x122.1.Local)]],2⟩ ?_
   refine jN ?_
   refine jIf ?_ ?_
   ·refine AS ?_
    exact AK rfl (wkR [(0,some 0)] (AY hF (k:=1) rfl) (pc (hC 0) AB))
   refine jR ?_
   refine jG 0 9 ⟨[V 0 (pt 0 4),V 1 (bs a4),V 6 (iv x58),V 7 (bs x120),V 9 (bv (x118 && ((a4 == [61,61]) || (a4 == [33,61])))),V 10 (pt 1 9),V 124 (bv ((a4 == [126,61]) && (decide ((List.length (List.map cS x122.1.Release):Int) < 2))))],[W 0 4 [bs a0,iv x71,iv a2,iv a3],W 1 9 [bs x122.1.Epoch,.fsl 1 (List.map cS x122.1.Release),.s (.int .u8 x122.1.Pre),bs x122.1.PreNum,bv x122.1.Post,bs x122.1.PostNum,bv x122.1.Dev,bs x122.1.DevNum,.fsl 1 (List.map cS x122.1.Local)]],2⟩ ?_
   simp only[List.length_map]
   refine jN ?_
   refine jIf ?_ ?_
   ·refine AS ?_
    exact AK rfl (wkR [(0,some 0)] (AY hF (k:=1) rfl) (pc (hC 0) AB))
   refine CA ?_
   refine jG 0 13 ⟨[V 0 (pt 0 4),V 6 (iv x58),V 7 (bs x120),V 9 (bv (x118 && ((a4 == [61,61]) || (a4 == [33,61])))),V 124 (bv (((!(a4 == [61,61])) && (!(a4 == [33,61]))) && (decide ((List.length (List.map cS x122.1.Local):Int) > 0))))],[W 0 4 [bs a0,iv x71,iv a2,iv a3]],2⟩ ?_
   simp only[List.length_map]
   refine AQ rfl ?_
   exact AK rfl (wkR [(0,some 0)] (AY hF (k:=1) rfl) (pc (hC 0) AB))
  intro x136
  refine AN ?_
  refine jIf ?_ ?_
  ·refine CA ?_
   refine jG 0 2 ⟨[V 7 (bs x120),V 9 (bv (x118 && ((a4 == [61,61]) || (a4 == [33,61])))),V 151 (pt 0 4),V 152 (iv x58)],[W 0 4 [bs a0,iv x71,iv a2,iv a3]],1⟩ ?_
   refine Am 2 [(0,some 0)] [(0,some 0)] (fun r:Int × Int=>[W 0 4 [bs a0,iv x71,iv r.1,iv r.2]]) (fun r:Int × Int=>.tup []) 1 (Bs a0 x71 a2 a3 19 x58) (pc (hC 0) AB) (fun r=>(pc (.inr (hC 0)) AB)) ?_
   rintro⟨x140,x141⟩ hm15
   refine AQ rfl ?_
   refine A8 ?_
   exact AK rfl (wkR [(0,some 0)] (AY hF (k:=1) rfl) (pc (hC 0) AB))
  refine AS ?_
  refine A8 ?_
  exact AK rfl (wkR [(0,some 0)] (AY hF (k:=1) rfl) (pc (hC 0) AB))
 rintro⟨x130,x131⟩
 refine AN ?_
 refine jS ⟨[V 4 (bs x120),V 5 (bv (x118 && ((a4 == [61,61]) || (a4 == [33,61]))))],[W 0 4 [bs a0,iv x71,iv x130,iv x131]],1⟩ ?_
 refine AO ?_
 exact A7 (EI a0 a1 a2 a3 a4 (x120,(x118 && ((a4 == [61,61]) || (a4 == [33,61]))),x71,x130,x131)) (.inr rfl) (wkR [(0,some 0)] (AY hF (k:=1) rfl) (pc (hC 0) AB)))
abbrev DT:List LO:=[lo 2 (.box 22 (.tmp 0)) 0,lo 4 (.assign (.const (.slice none 0 0))) 22]
abbrev DV:List LO:=[lm 6 1 49]
abbrev DW:List LO:=[lo 5 (.alloc 39) 0,ln (.store 39 (.tmp 5) (.tmp 7)) 0]
abbrev DU:List LO:=[lo 8 (.load 22 (.tmp 2)) 22,lo 9 (.load 39 (.tmp 5)) 39,lo 10 (.buildSlice 22 1 #[(0,.tmp 9)]) 22,lo 11 (.call ⟨.builtin .append,#[.tmp 8,.tmp 10],#[22,22]⟩) 22,ln (.store 22 (.tmp 2) (.tmp 11)) 0]
noncomputable def BG:Code:=Ea (Jx Go.Proofs.Tryz.f36) [1,0,1,0,0]
theorem DA:FR E BG=some (.reg false DW):=by kernel_rfl
noncomputable def BH:Code:=Ea (Jx Go.Proofs.Tryz.f36) [1,0,1,0,1]
theorem DC:FR E BH=some (.block 1 (.reg false DU)):=by kernel_rfl
abbrev DR:List LO:=[lo 12 (.load 22 (.tmp 2)) 22,lo 4 (.assign (.tmp 12)) 22]
noncomputable abbrev B0:LC:=.seq (.reg false DT) (.seq (.seq (.reg false DV) (.block 0 (.rng (.tmp 6) [7] BG BH))) (.seq (.reg false DR) .ret))
theorem De:BE E 36 13 [.tmp 4] B0:=⟨⟨Go.Proofs.Tryz.f36,by kernel_rfl,by kernel_rfl,by kernel_rfl,by kernel_rfl,by kernel_rfl⟩,rfl,rfl⟩
noncomputable abbrev AC (q:LoopState) (p:Option Code):B6:=.loop { state:=q,pending:=p,tmps:=tl 13 [V 2 (pt 2 1),V 6 (.fn 37 [pt 0 1])] none,params:=[7],assign:=BG,body:=BH }
noncomputable def Ap (a0:Str):(Int × Int × Int × Int × List AD)→Option (Step (Int × Int × Int × Int × List AD) ((Int × Int × Int × List AD) ⊕ (Int × Int × Int × List AD))):=fun (x90,x91,x92,x93,x94)=>Option.bind (Av a0 x90 x91 x92) (fun x131=>(if x131=true then Option.bind (BT a0 x90 x91 x92) (fun x132=>(if ((x93 == 32) && (decide (x132 < (List.length a0:Int))))=true then Option.bind (A6 a0 x132 x91 x92 12 x132) (fun (x133,x134)=>some (Step.done (Sum.inl (x132,x133,x134,x94)))) else Option.bind (CB a0 x132 x91 x92) (fun (x135,x136,x137,x138)=>Option.bind (Av a0 x136 x137 x138) (fun x139=>(if (!x139)=true then some (Step.done (Sum.inl (x136,x137,x138,x94))) else Option.bind (C2 a0 x136 x137 x138 x135) (fun (x140,x141,x142,x143,x144)=>Option.bind (Av a0 x142 x143 x144) (fun x145=>Option.bind (if (!x145)=true then some (true,x94) else Option.bind (Option.bind (app 40 x94 [(AD.mk x135 x140 x141)]) (fun x152=>some x152):Option (List AD)) (fun x151=>some (false,x151)):Option (Bool × List AD)) (fun (x148,x149)=>(if x148=true then some (Step.done (Sum.inl (x142,x143,x144,x149))) else Option.bind (BT a0 x142 x143 x144) (fun x153=>(if (decide (x153≥(List.length a0:Int)))=true then some (Step.done (Sum.inl (x153,x143,x144,x149))) else Option.bind (BA a0 x153 x143 x144 44) (fun x154=>(if (!x154)=true then Option.bind (Bn a0 x153 x143 x144) (fun (x155,x156)=>some (Step.done (Sum.inl (x153,x155,x156,x149)))) else some (Step.next ((w64 (x153 + 1)),x143,x144,(w64 (x93 + 1)),x149))))))))))))))) else some (Step.done (Sum.inr (x90,x91,x92,x94)))))
abbrev BP (a0:Str) (a1:Int) (a2:Int) (a3:Int) (r:List AD × Int × Int × Int):CS:=⟨[V 4 (.osl 2 0 (List.length r.1) 3)],[W 0 1 [pt 1 4],W 1 4 [bs a0,iv r.2.1,iv r.2.2.1,iv r.2.2.2],(2,.rows 3 (List.map AA r.1))],3⟩
noncomputable def A9 (a0:Str) (a1:Int) (a2:Int) (a3:Int):Option (List AD × Int × Int × Int):=Option.bind (BT a0 a1 a2 a3) (fun x68=>(if (decide (x68≥(List.length a0:Int)))=true then some ([],x68,a2,a3) else Option.bind (Bi (Ap a0) (x68,a2,a3,0,[])) (fun y=>match y with | Sum.inl (x123,x124,x125,x126)=>some (x126,x123,x124,x125) | Sum.inr (x127,x128,x129,x130)=>some (x130,x127,x128,x129))))
theorem DS (a0:Str) (a1:Int) (a2:Int) (a3:Int):CtM E 36 [Af,.fn 37 [pt 0 1]] [W 0 1 [pt 1 4],W 1 4 [bs a0,iv a1,iv a2,iv a3]] 2 (A9 a0 a1 a2 a3) (fun r:List AD × Int × Int × Int=>.osl 2 0 (List.length r.1) 3) (fun r:List AD × Int × Int × Int=>[W 0 1 [pt 1 4],W 1 4 [bs a0,iv r.2.1,iv r.2.2.1,iv r.2.2.2],(2,.rows 3 (List.map AA r.1))]) 3:=Bf (N:=13) (L:=B0) De rfl (Nat.le_of_ble_eq_true rfl) (fun F hF=>by
 unfold A9
 refine jS ⟨[V 1 (.fn 37 [pt 0 1]),V 2 (pt 2 1)],[W 0 1 [pt 1 4],W 1 4 [bs a0,iv a1,iv a2,iv a3],W 2 1 [Af]],3⟩ ?_
 refine AT ?_
 refine jS ⟨[V 2 (pt 2 1),V 6 (.fn 37 [pt 0 1])],[W 0 1 [pt 1 4],W 1 4 [bs a0,iv a1,iv a2,iv a3],W 2 1 [Af]],3⟩ ?_
 refine Ai ?_
 refine pF [2,6] [0,1,2] (st1:=⟨[V 2 (pt 2 1),V 6 (.fn 37 [pt 0 1])],[W 0 1 [pt 1 4],W 1 4 [bs a0,iv a1,iv a2,iv a3],W 2 1 [Af]],3⟩) (by kernel_rfl) ?_
 refine rV (g:=37) (caps:=[pt 0 1]) (by kernel_rfl) JM (Nat.le_of_ble_eq_true rfl) ?_
 intro F16 hc16
 refine jR ?_
 refine jG 0 1 ⟨[V 0 (.yld 3),V 1 (pt 0 1),V 5 (pt 1 4)],[W 0 1 [pt 1 4],W 1 4 [bs a0,iv a1,iv a2,iv a3],W 2 1 [Af],(3,AC .ready none)],4⟩ ?_
 refine Am 1 [(0,some 1)] [(1,some 0)] (fun r:Int=>[W 0 1 [pt 1 4],W 1 4 [bs a0,iv r,iv a2,iv a3],W 2 1 [Af],(3,AC .ready none)]) (fun r:Int=>.tup []) 4 (Cl a0 a1 a2 a3) (pc (hC 1) AB) (fun r=>(pc (.inl ⟨rfl,rfl⟩) (pc (.inr (hC 0)) (pc (.inl ⟨rfl,rfl⟩) (pc (.inl ⟨rfl,rfl⟩) AB))))) ?_
 rintro x68 hm38
 refine jN ?_
 refine AT ?_
 refine jS ⟨[V 0 (.yld 3),V 1 (pt 0 1),V 16 (bv (decide (x68≥(List.length a0:Int))))],[W 0 1 [pt 1 4],W 1 4 [bs a0,iv x68,iv a2,iv a3],W 2 1 [Af],(3,AC .ready none)],4⟩ ?_
 refine jIf ?_ ?_
 ·refine AO ?_
  refine AZ ?_
  refine VP hc16 (.inr rfl) rfl nofun rfl ?_
  refine A8 ?_
  refine AN ?_
  refine jS ⟨[V 4 (Af)],[W 0 1 [pt 1 4],W 1 4 [bs a0,iv x68,iv a2,iv a3]],4⟩ ?_
  refine AO ?_
  exact A7 (BP a0 a1 a2 a3 ([],x68,a2,a3)) (.inr rfl) (wkR [(0,some 0),(1,some 1),(2,none)] (AY hF (k:=2) rfl) (pc (hC 0) (pc (hC 1) (pc hZ AB))))
 refine AS ?_
 refine AN ?_
 refine jS ⟨[V 0 (.yld 3),V 1 (pt 0 1),V 3 (iv 0)],[W 0 1 [pt 1 4],W 1 4 [bs a0,iv x68,iv a2,iv a3],W 2 1 [Af],(3,AC .ready none)],4⟩ ?_
 refine Ai ?_
 refine As (fun y=>match y with | Sum.inl (x123,x124,x125,x126)=>⟨[],[W 0 1 [pt 1 4],W 1 4 [bs a0,iv x123,iv x124,iv x125],W 2 1 [.osl 4 0 (List.length x126) 3],(3,AC .ready none),(4,.rows 3 (List.map AA x126))],5⟩ | Sum.inr (x127,x128,x129,x130)=>⟨[],[W 0 1 [pt 1 4],W 1 4 [bs a0,iv x127,iv x128,iv x129],W 2 1 [.osl 4 0 (List.length x130) 3],(3,AC .ready none),(4,.rows 3 (List.map AA x130))],5⟩) (fun y=>match y with | Sum.inl (x123,x124,x125,x126)=>.ret | Sum.inr (x127,x128,x129,x130)=>(.exit 0)) (Cj (fun (x90,x91,x92,x93,x94)=>⟨[V 0 (.yld 3),V 1 (pt 0 1),V 3 (iv x93)],[W 0 1 [pt 1 4],W 1 4 [bs a0,iv x90,iv x91,iv x92],W 2 1 [.osl 4 0 (List.length x94) 3],(3,AC .ready none),(4,.rows 3 (List.map AA x94))],5⟩) (wkR [(0,some 0),(1,some 1),(2,some 2),(3,some 3),(4,none)] (AY hc16.2.2 (k:=4) rfl) (pc (hC 0) (pc (hC 1) (pc (hC 2) (pc (.inr (.inr (.inl ⟨3,_,_,rfl,rfl,rfl,by kernel_rfl⟩))) (pc hZ AB)))))) ?_) ?_
 ·rintro⟨x90,x91,x92,x93,x94⟩
  unfold Ap
  refine AT ?_
  refine jR ?_
  refine jG 0 1 ⟨[V 0 (.yld 3),V 1 (pt 0 1),V 3 (iv x93),V 17 (pt 1 4)],[W 0 1 [pt 1 4],W 1 4 [bs a0,iv x90,iv x91,iv x92],W 2 1 [.osl 4 0 (List.length x94) 3],(3,AC .ready none),(4,.rows 3 (List.map AA x94))],5⟩ ?_
  refine Bh (i:=1) rfl rfl rfl rfl (vs:=[pt 1 4]) (vs0:=[.fptr [bs a0,iv x90,iv x91,iv x92] 0]) (b:=true) (by kernel_rfl) (by kernel_rfl) (AJ (AE _) Aj) (Bm a0 x90 x91 x92) (fun _=>rfl) (fun _=>rfl) ?_
  intro x131 h131
  refine jN ?_
  refine jIf ?_ ?_
  ·refine AS ?_
   refine AN ?_
   refine AT ?_
   refine Ai ?_
   refine jR ?_
   refine jG 0 1 ⟨[V 0 (.yld 3),V 1 (pt 0 1),V 3 (iv x93),V 21 (pt 1 4)],[W 0 1 [pt 1 4],W 1 4 [bs a0,iv x90,iv x91,iv x92],W 2 1 [.osl 4 0 (List.length x94) 3],(3,AC .ready none),(4,.rows 3 (List.map AA x94))],5⟩ ?_
   refine Am 1 [(0,some 1)] [(1,some 0)] (fun r:Int=>[W 0 1 [pt 1 4],W 1 4 [bs a0,iv r,iv x91,iv x92],W 2 1 [.osl 4 0 (List.length x94) 3],(3,AC .ready none),(4,.rows 3 (List.map AA x94))]) (fun r:Int=>.tup []) 5 (Cl a0 x90 x91 x92) (pc (hC 1) AB) (fun r=>(pc (.inl ⟨rfl,rfl⟩) (pc (.inr (hC 0)) (pc (.inl ⟨rfl,rfl⟩) (pc (.inl ⟨rfl,rfl⟩) (pc (.inl ⟨rfl,rfl⟩) AB)))))) ?_
   rintro x132 hm37
   refine jN ?_
   refine AT ?_
   refine jS ⟨[V 0 (.yld 3),V 1 (pt 0 1),V 3 (iv x93),V 36 (bv ((x93 == 32) && (decide (x132 < (List.length a0:Int)))))],[W 0 1 [pt 1 4],W 1 4 [bs a0,iv x132,iv x91,iv x92],W 2 1 [.osl 4 0 (List.length x94) 3],(3,AC .ready none),(4,.rows 3 (List.map AA x94))],5⟩ ?_
   refine jIf ?_ ?_
   ·refine jR ?_
    refine jG 0 5 ⟨[V 37 (pt 1 4),V 41 (iv x132)],[W 0 1 [pt 1 4],W 1 4 [bs a0,iv x132,iv x91,iv x92],W 2 1 [.osl 4 0 (List.length x94) 3],(3,AC .ready none),(4,.rows 3 (List.map AA x94))],5⟩ ?_
    refine Am 5 [(0,some 1)] [(1,some 0)] (fun r:Int × Int=>[W 0 1 [pt 1 4],W 1 4 [bs a0,iv x132,iv r.1,iv r.2],W 2 1 [.osl 4 0 (List.length x94) 3],(3,AC .ready none),(4,.rows 3 (List.map AA x94))]) (fun r:Int × Int=>.tup []) 5 (Bs a0 x132 x91 x92 12 x132) (pc (hC 1) AB) (fun r=>(pc (.inl ⟨rfl,rfl⟩) (pc (.inr (hC 0)) (pc (.inl ⟨rfl,rfl⟩) (pc (.inl ⟨rfl,rfl⟩) (pc (.inl ⟨rfl,rfl⟩) AB)))))) ?_
    rintro⟨x133,x134⟩ hm30
    refine jN ?_
    refine AO ?_
    refine AZ ?_
    refine Aq ?_
    refine AZ ?_
    exact BD rfl nofun (wkR [(0,some 0),(1,some 1),(2,some 2),(3,some 3),(4,some 4)] (AY hc16.2.2 (k:=4) rfl) (pc (hC 0) (pc (hC 1) (pc (hC 2) (pc (.inr (.inr (.inl ⟨3,_,_,rfl,rfl,rfl,by kernel_rfl⟩))) (pc (hL 4 (AM Ab _)) AB))))))
   refine AS ?_
   refine AN ?_
   refine jR ?_
   refine jG 0 1 ⟨[V 0 (.yld 3),V 1 (pt 0 1),V 3 (iv x93),V 43 (pt 1 4)],[W 0 1 [pt 1 4],W 1 4 [bs a0,iv x132,iv x91,iv x92],W 2 1 [.osl 4 0 (List.length x94) 3],(3,AC .ready none),(4,.rows 3 (List.map AA x94))],5⟩ ?_
   refine Am 1 [(0,some 1)] [(1,some 0)] (fun r:Str × Int × Int × Int=>[W 0 1 [pt 1 4],W 1 4 [bs a0,iv r.2.1,iv r.2.2.1,iv r.2.2.2],W 2 1 [.osl 4 0 (List.length x94) 3],(3,AC .ready none),(4,.rows 3 (List.map AA x94))]) (fun r:Str × Int × Int × Int=>bs r.1) 5 (KM a0 x132 x91 x92) (pc (hC 1) AB) (fun r=>(pc (.inl ⟨rfl,rfl⟩) (pc (.inr (hC 0)) (pc (.inl ⟨rfl,rfl⟩) (pc (.inl ⟨rfl,rfl⟩) (pc (.inl ⟨rfl,rfl⟩) AB)))))) ?_
   rintro⟨x135,x136,x137,x138⟩ hm36
   refine jG 2 3 ⟨[V 0 (.yld 3),V 1 (pt 0 1),V 3 (iv x93),V 4 (pt 5 3)],[W 0 1 [pt 1 4],W 1 4 [bs a0,iv x136,iv x137,iv x138],W 2 1 [.osl 4 0 (List.length x94) 3],(3,AC .ready none),(4,.rows 3 (List.map AA x94)),W 5 3 [bs x135,bs [],bv false]],6⟩ ?_
   refine jN ?_
   refine AT ?_
   refine jR ?_
   refine jG 0 1 ⟨[V 0 (.yld 3),V 1 (pt 0 1),V 3 (iv x93),V 4 (pt 5 3),V 46 (pt 1 4)],[W 0 1 [pt 1 4],W 1 4 [bs a0,iv x136,iv x137,iv x138],W 2 1 [.osl 4 0 (List.length x94) 3],(3,AC .ready none),(4,.rows 3 (List.map AA x94)),W 5 3 [bs x135,bs [],bv false]],6⟩ ?_
   refine Bh (i:=1) rfl rfl rfl rfl (vs:=[pt 1 4]) (vs0:=[.fptr [bs a0,iv x136,iv x137,iv x138] 0]) (b:=true) (by kernel_rfl) (by kernel_rfl) (AJ (AE _) Aj) (Bm a0 x136 x137 x138) (fun _=>rfl) (fun _=>rfl) ?_
   intro x139 h139
   refine jG 2 1 ⟨[V 0 (.yld 3),V 1 (pt 0 1),V 3 (iv x93),V 4 (pt 5 3),V 48 (bv (!x139))],[W 0 1 [pt 1 4],W 1 4 [bs a0,iv x136,iv x137,iv x138],W 2 1 [.osl 4 0 (List.length x94) 3],(3,AC .ready none),(4,.rows 3 (List.map AA x94)),W 5 3 [bs x135,bs [],bv false]],6⟩ ?_
   refine jN ?_
   refine jIf ?_ ?_
   ·refine AO ?_
    refine AZ ?_
    refine Aq ?_
    refine AZ ?_
    exact BD rfl nofun (wkR [(0,some 0),(1,some 1),(2,some 2),(3,some 3),(4,some 4)] (AY hc16.2.2 (k:=4) rfl) (pc (hC 0) (pc (hC 1) (pc (hC 2) (pc (.inr (.inr (.inl ⟨3,_,_,rfl,rfl,rfl,by kernel_rfl⟩))) (pc (hL 4 (AM Ab _)) AB))))))
   refine AS ?_
   refine AN ?_
   refine jR ?_
   refine jG 0 3 ⟨[V 0 (.yld 3),V 1 (pt 0 1),V 3 (iv x93),V 4 (pt 5 3),V 50 (pt 1 4),V 52 (bs x135)],[W 0 1 [pt 1 4],W 1 4 [bs a0,iv x136,iv x137,iv x138],W 2 1 [.osl 4 0 (List.length x94) 3],(3,AC .ready none),(4,.rows 3 (List.map AA x94)),W 5 3 [bs x135,bs [],bv false]],6⟩ ?_
   refine Am 3 [(0,some 1)] [(1,some 0)] (fun r:Str × Bool × Int × Int × Int=>[W 0 1 [pt 1 4],W 1 4 [bs a0,iv r.2.2.1,iv r.2.2.2.1,iv r.2.2.2.2],W 2 1 [.osl 4 0 (List.length x94) 3],(3,AC .ready none),(4,.rows 3 (List.map AA x94)),W 5 3 [bs x135,bs [],bv false]]) (fun r:Str × Bool × Int × Int × Int=>.tup [bs r.1,bv r.2.1]) 6 (N8 a0 x136 x137 x138 x135) (pc (hC 1) AB) (fun r=>(pc (.inl ⟨rfl,rfl⟩) (pc (.inr (hC 0)) (pc (.inl ⟨rfl,rfl⟩) (pc (.inl ⟨rfl,rfl⟩) (pc (.inl ⟨rfl,rfl⟩) (pc (.inl ⟨rfl,rfl⟩) AB))))))) ?_
   rintro⟨x140,x141,x142,x143,x144⟩ hm35
   refine jG 4 7 ⟨[V 0 (.yld 3),V 1 (pt 0 1),V 3 (iv x93),V 4 (pt 5 3)],[W 0 1 [pt 1 4],W 1 4 [bs a0,iv x142,iv x143,iv x144],W 2 1 [.osl 4 0 (List.length x94) 3],(3,AC .ready none),(4,.rows 3 (List.map AA x94)),W 5 3 [bs x135,bs x140,bv x141]],6⟩ ?_
   refine jN ?_
   refine AT ?_
   refine jR ?_
   refine jG 0 1 ⟨[V 0 (.yld 3),V 1 (pt 0 1),V 3 (iv x93),V 4 (pt 5 3),V 58 (pt 1 4)],[W 0 1 [pt 1 4],W 1 4 [bs a0,iv x142,iv x143,iv x144],W 2 1 [.osl 4 0 (List.length x94) 3],(3,AC .ready none),(4,.rows 3 (List.map AA x94)),W 5 3 [bs x135,bs x140,bv x141]],6⟩ ?_
   refine Bh (i:=1) rfl rfl rfl rfl (vs:=[pt 1 4]) (vs0:=[.fptr [bs a0,iv x142,iv x143,iv x144] 0]) (b:=true) (by kernel_rfl) (by kernel_rfl) (AJ (AE _) Aj) (Bm a0 x142 x143 x144) (fun _=>rfl) (fun _=>rfl) ?_
   intro x145 h145
   refine jG 2 2 ⟨[V 0 (.yld 3),V 1 (pt 0 1),V 3 (iv x93),V 4 (pt 5 3),V 61 (bv (!x145))],[W 0 1 [pt 1 4],W 1 4 [bs a0,iv x142,iv x143,iv x144],W 2 1 [.osl 4 0 (List.length x94) 3],(3,AC .ready none),(4,.rows 3 (List.map AA x94)),W 5 3 [bs x135,bs x140,bv x141]],6⟩ ?_
   refine Ak 4 5 (fun (x148,x149)=>⟨[V 0 (.yld 3),V 1 (pt 0 1),V 3 (iv x93),V 66 (bv x148)],[W 0 1 [pt 1 4],W 1 4 [bs a0,iv x142,iv x143,iv x144],W 2 1 [.osl 4 0 (List.length x149) 3],(3,AC .ready none),(4,.rows 3 (List.map AA x149))],5⟩) ?_ ?_
   ·refine jSp 61 ?_ ?_
    ·refine jG 0 5 ⟨[V 0 (.yld 3),V 1 (pt 0 1),V 3 (iv x93),V 66 (bv true)],[W 0 1 [pt 1 4],W 1 4 [bs a0,iv x142,iv x143,iv x144],W 2 1 [.osl 4 0 (List.length x94) 3],(3,AC .ready none),(4,.rows 3 (List.map AA x94))],6⟩ ?_
     refine AQ rfl ?_
     exact AK rfl (wkR [(0,some 0),(1,some 1),(2,some 2),(3,some 3),(4,some 4)] (AY hc16.2.2 (k:=4) rfl) (pc (hC 0) (pc (hC 1) (pc (hC 2) (pc (.inr (.inr (.inl ⟨3,_,_,rfl,rfl,rfl,by kernel_rfl⟩))) (pc (hL 4 (AM Ab _)) AB))))))
    refine jG 0 2 ⟨[V 0 (.yld 3),V 1 (pt 0 1),V 3 (iv x93),(61,.lit false),V 62 (.yld 3),V 63 (.agg [bs x135,bs x140,bv x141])],[W 0 1 [pt 1 4],W 1 4 [bs a0,iv x142,iv x143,iv x144],W 2 1 [.osl 4 0 (List.length x94) 3],(3,AC .ready none),(4,.rows 3 (List.map AA x94))],6⟩ ?_
    refine Xv (i:=2) (l:=3) (Nc:=13) (Kc:=[V 2 (pt 2 1),V 6 (.fn 37 [pt 0 1])]) (ps:=[7]) (vs:=[.agg [bs x135,bs x140,bv x141]]) (fun x151=>⟨[],[W 0 1 [pt 1 4],W 1 4 [bs a0,iv x142,iv x143,iv x144],W 2 1 [.osl 6 0 (List.length x151) 3],(3,AC .busy none),(6,.rows 3 (List.map AA x151))],7⟩) (fun x151=>.normal) [0,1,3,61,64] [0,1,2,3,6] (after:=(fun x151=>⟨[V 0 (.yld 3),V 1 (pt 0 1),V 3 (iv x93),(61,.lit false),V 64 (bv true)],[W 0 1 [pt 1 4],W 1 4 [bs a0,iv x142,iv x143,iv x144],W 2 1 [.osl 6 0 (List.length x151) 3],(3,AC .ready none),(6,.rows 3 (List.map AA x151))],7⟩)) rfl rfl DA DC (by kernel_rfl) (by kernel_rfl) (dC hc16 rfl) rfl (by kernel_rfl) rfl ?_ (by intro x151 <;> exact⟨none,by kernel_rfl⟩) (by intro x151 <;> kernel_rfl) ?_
    ·intro F32 hy32
     refine jT ⟨[V 2 (pt 2 1),V 5 (pt 6 3)],[W 0 1 [pt 1 4],W 1 4 [bs a0,iv x142,iv x143,iv x144],W 2 1 [.osl 4 0 (List.length x94) 3],(3,AC .ready none),(4,.rows 3 (List.map AA x94)),W 6 3 [bs x135,bs x140,bv x141]],7⟩ ?_
     refine nW hy32 rfl ?_
     refine Ai ?_
     refine CA ?_
     refine jG 0 3 ⟨[V 2 (pt 2 1),V 8 (.osl 4 0 (List.length x94) 3),V 10 (.osl 7 0 (List.length [(AD.mk x135 x140 x141)]) 3)],[W 0 1 [pt 1 4],W 1 4 [bs a0,iv x142,iv x143,iv x144],W 2 1 [.osl 4 0 (List.length x94) 3],(3,AC .busy none),(4,.rows 3 (List.map AA x94)),(7,.rows 3 (List.map AA [(AD.mk x135 x140 x141)]))],8⟩ ?_
     refine An (i:=3) (mo:=app 40 x94 [(AD.mk x135 x140 x141)]) rfl rfl rfl rfl (fun _ hc=>QD (u:=.osl 4 0 (List.length x94) 3) (w:=.osl 7 0 (List.length [(AD.mk x135 x140 x141)]) 3) (e:=39) (td:=.slice 39) (by kernel_rfl) (by kernel_rfl) (by kernel_rfl) (by kernel_rfl) (.inl ⟨_,rfl⟩) (GY (c:=AA) (sz:=3) (b:=40) (id:=4) (by kernel_rfl) (by kernel_rfl) (PV (by kernel_rfl)) (List.cons_ne_nil _ _) hc)) (fun _=>rfl) ?_
     intro x152 h152
     refine jG 4 1 ⟨[],[W 0 1 [pt 1 4],W 1 4 [bs a0,iv x142,iv x143,iv x144],W 2 1 [.osl 8 0 (List.length x152) 3],(3,AC .busy none),(8,.rows 3 (List.map AA x152))],9⟩ ?_
     refine AQ rfl ?_
     refine A8 ?_
     exact AK rfl (wkR [(0,some 0),(1,some 1),(2,some 2),(3,some 3),(4,some 4),(5,some 5),(6,some 8)] (AY hy32.2 (k:=6) rfl) (pc (hC 0) (pc (hC 1) (pc (hC 2) (pc (.inr (.inr (.inl ⟨3,_,_,rfl,rfl,rfl,by kernel_rfl⟩))) (pc (hL 8 (AM Ab _)) AB))))))
    intro x151
    refine jG 3 2 ⟨[V 0 (.yld 3),V 1 (pt 0 1),V 3 (iv x93),V 66 (bv false)],[W 0 1 [pt 1 4],W 1 4 [bs a0,iv x142,iv x143,iv x144],W 2 1 [.osl 6 0 (List.length x151) 3],(3,AC .ready none),(6,.rows 3 (List.map AA x151))],7⟩ ?_
    refine AQ rfl ?_
    exact AK rfl (wkR [(0,some 0),(1,some 1),(2,some 2),(3,some 3),(4,some 6)] (AY hc16.2.2 (k:=4) rfl) (pc (hC 0) (pc (hC 1) (pc (hC 2) (pc (.inr (.inr (.inl ⟨3,_,_,rfl,rfl,rfl,by kernel_rfl⟩))) (pc (hL 6 (AM Ab _)) AB))))))
   rintro⟨x148,x149⟩
   refine jN ?_
   refine jIf ?_ ?_
   ·refine AO ?_
    refine AZ ?_
    refine Aq ?_
    refine AZ ?_
    exact BD rfl nofun (wkR [(0,some 0),(1,some 1),(2,some 2),(3,some 3),(4,some 4)] (AY hc16.2.2 (k:=4) rfl) (pc (hC 0) (pc (hC 1) (pc (hC 2) (pc (.inr (.inr (.inl ⟨3,_,_,rfl,rfl,rfl,by kernel_rfl⟩))) (pc (hL 4 (AM Ab _)) AB))))))
   refine AS ?_
   refine AN ?_
   refine jR ?_
   refine jG 0 1 ⟨[V 0 (.yld 3),V 1 (pt 0 1),V 3 (iv x93),V 67 (pt 1 4)],[W 0 1 [pt 1 4],W 1 4 [bs a0,iv x142,iv x143,iv x144],W 2 1 [.osl 4 0 (List.length x149) 3],(3,AC .ready none),(4,.rows 3 (List.map AA x149))],5⟩ ?_
   refine Am 1 [(0,some 1)] [(1,some 0)] (fun r:Int=>[W 0 1 [pt 1 4],W 1 4 [bs a0,iv r,iv x143,iv x144],W 2 1 [.osl 4 0 (List.length x149) 3],(3,AC .ready none),(4,.rows 3 (List.map AA x149))]) (fun r:Int=>.tup []) 5 (Cl a0 x142 x143 x144) (pc (hC 1) AB) (fun r=>(pc (.inl ⟨rfl,rfl⟩) (pc (.inr (hC 0)) (pc (.inl ⟨rfl,rfl⟩) (pc (.inl ⟨rfl,rfl⟩) (pc (.inl ⟨rfl,rfl⟩) AB)))))) ?_
   rintro x153 hm34
   refine jN ?_
   refine AT ?_
   refine jS ⟨[V 0 (.yld 3),V 1 (pt 0 1),V 3 (iv x93),V 78 (bv (decide (x153≥(List.length a0:Int))))],[W 0 1 [pt 1 4],W 1 4 [bs a0,iv x153,iv x143,iv x144],W 2 1 [.osl 4 0 (List.length x149) 3],(3,AC .ready none),(4,.rows 3 (List.map AA x149))],5⟩ ?_
   refine jIf ?_ ?_
   ·refine AO ?_
    refine AZ ?_
    refine Aq ?_
    refine AZ ?_
    exact BD rfl nofun (wkR [(0,some 0),(1,some 1),(2,some 2),(3,some 3),(4,some 4)] (AY hc16.2.2 (k:=4) rfl) (pc (hC 0) (pc (hC 1) (pc (hC 2) (pc (.inr (.inr (.inl ⟨3,_,_,rfl,rfl,rfl,by kernel_rfl⟩))) (pc (hL 4 (AM Ab _)) AB))))))
   refine AS ?_
   refine AN ?_
   refine AT ?_
   refine jR ?_
   refine jG 0 1 ⟨[V 0 (.yld 3),V 1 (pt 0 1),V 3 (iv x93),V 79 (pt 1 4)],[W 0 1 [pt 1 4],W 1 4 [bs a0,iv x153,iv x143,iv x144],W 2 1 [.osl 4 0 (List.length x149) 3],(3,AC .ready none),(4,.rows 3 (List.map AA x149))],5⟩ ?_
   refine Bh (i:=1) rfl rfl rfl rfl (vs:=[pt 1 4,.s (.int .u8 44)]) (vs0:=[.fptr [bs a0,iv x153,iv x143,iv x144] 0,.s (.int .u8 44)]) (b:=true) (by kernel_rfl) (by kernel_rfl) (AJ (AE _) (AJ (AE _) Aj)) (Bl a0 x153 x143 x144 44) (fun _=>rfl) (fun _=>rfl) ?_
   intro x154 h154
   refine jG 2 1 ⟨[V 0 (.yld 3),V 1 (pt 0 1),V 3 (iv x93),V 81 (bv (!x154))],[W 0 1 [pt 1 4],W 1 4 [bs a0,iv x153,iv x143,iv x144],W 2 1 [.osl 4 0 (List.length x149) 3],(3,AC .ready none),(4,.rows 3 (List.map AA x149))],5⟩ ?_
   refine jN ?_
   refine jIf ?_ ?_
   ·refine jR ?_
    refine jG 0 1 ⟨[V 82 (pt 1 4)],[W 0 1 [pt 1 4],W 1 4 [bs a0,iv x153,iv x143,iv x144],W 2 1 [.osl 4 0 (List.length x149) 3],(3,AC .ready none),(4,.rows 3 (List.map AA x149))],5⟩ ?_
    refine Am 1 [(0,some 1)] [(1,some 0)] (fun r:Int × Int=>[W 0 1 [pt 1 4],W 1 4 [bs a0,iv x153,iv r.1,iv r.2],W 2 1 [.osl 4 0 (List.length x149) 3],(3,AC .ready none),(4,.rows 3 (List.map AA x149))]) (fun r:Int × Int=>.tup []) 5 (D0 a0 x153 x143 x144) (pc (hC 1) AB) (fun r=>(pc (.inl ⟨rfl,rfl⟩) (pc (.inr (hC 0)) (pc (.inl ⟨rfl,rfl⟩) (pc (.inl ⟨rfl,rfl⟩) (pc (.inl ⟨rfl,rfl⟩) AB)))))) ?_
    rintro⟨x155,x156⟩ hm33
    refine jN ?_
    refine AO ?_
    refine AZ ?_
    refine Aq ?_
    refine AZ ?_
    exact BD rfl nofun (wkR [(0,some 0),(1,some 1),(2,some 2),(3,some 3),(4,some 4)] (AY hc16.2.2 (k:=4) rfl) (pc (hC 0) (pc (hC 1) (pc (hC 2) (pc (.inr (.inr (.inl ⟨3,_,_,rfl,rfl,rfl,by kernel_rfl⟩))) (pc (hL 4 (AM Ab _)) AB))))))
   refine AS ?_
   refine AN ?_
   refine jT ⟨[V 0 (.yld 3),V 1 (pt 0 1),V 3 (iv x93)],[W 0 1 [pt 1 4],W 1 4 [bs a0,iv (w64 (x153 + 1)),iv x143,iv x144],W 2 1 [.osl 4 0 (List.length x149) 3],(3,AC .ready none),(4,.rows 3 (List.map AA x149))],5⟩ ?_
   refine A8 ?_
   refine AN ?_
   refine jT ⟨[V 0 (.yld 3),V 1 (pt 0 1),V 3 (iv (w64 (x93 + 1)))],[W 0 1 [pt 1 4],W 1 4 [bs a0,iv (w64 (x153 + 1)),iv x143,iv x144],W 2 1 [.osl 4 0 (List.length x149) 3],(3,AC .ready none),(4,.rows 3 (List.map AA x149))],5⟩ ?_
   exact Ck (wkR [(0,some 0),(1,some 1),(2,some 2),(3,some 3),(4,some 4)] (AY hc16.2.2 (k:=4) rfl) (pc (hC 0) (pc (hC 1) (pc (hC 2) (pc (.inr (.inr (.inl ⟨3,_,_,rfl,rfl,rfl,by kernel_rfl⟩))) (pc (hL 4 (AM Ab _)) AB))))))
  refine CN ?_
  refine CM ?_
  exact BD rfl nofun (wkR [(0,some 0),(1,some 1),(2,some 2),(3,some 3),(4,some 4)] (AY hc16.2.2 (k:=4) rfl) (pc (hC 0) (pc (hC 1) (pc (hC 2) (pc (.inr (.inr (.inl ⟨3,_,_,rfl,rfl,rfl,by kernel_rfl⟩))) (pc (hL 4 (AM Ab _)) AB))))))
 rintro (⟨x123,x124,x125,x126⟩ | ⟨x127,x128,x129,x130⟩)
 ·refine Aq ?_
  refine VP hc16 (.inr rfl) rfl nofun rfl ?_
  refine A8 ?_
  refine AN ?_
  refine jS ⟨[V 4 (.osl 4 0 (List.length x126) 3)],[W 0 1 [pt 1 4],W 1 4 [bs a0,iv x123,iv x124,iv x125],(4,.rows 3 (List.map AA x126))],5⟩ ?_
  refine AO ?_
  exact A7 (BP a0 a1 a2 a3 (x126,x123,x124,x125)) (.inr rfl) (wkR [(0,some 0),(1,some 1),(2,some 4)] (AY hF (k:=2) rfl) (pc (hC 0) (pc (hC 1) (pc (hL 4 (AM Ab _)) AB))))
 refine CY ?_
 refine VP hc16 (.inl rfl) rfl nofun rfl ?_
 refine A8 ?_
 refine AN ?_
 refine jS ⟨[V 4 (.osl 4 0 (List.length x130) 3)],[W 0 1 [pt 1 4],W 1 4 [bs a0,iv x127,iv x128,iv x129],(4,.rows 3 (List.map AA x130))],5⟩ ?_
 refine AO ?_
 exact A7 (BP a0 a1 a2 a3 (x130,x127,x128,x129)) (.inr rfl) (wkR [(0,some 0),(1,some 1),(2,some 4)] (AY hF (k:=2) rfl) (pc (hC 0) (pc (hC 1) (pc (hL 4 (AM Ab _)) AB)))))
abbrev HK:List LO:=[lo 2 (.assign (.const (.slice none 0 0))) 22]
abbrev G2:List LO:=[lm 3 0 49,lo 4 (.call ⟨.value (.func 36),#[.const (.slice none 0 0),.tmp 3],#[22,49]⟩) 22,lo 2 (.assign (.tmp 4)) 22]
abbrev Dn:LC:=.seq (.reg false HK) (.seq (.reg false G2) .ret)
theorem HV:BE E 17 5 [.tmp 2] Dn:=⟨⟨Go.Proofs.Tryz.f17,by kernel_rfl,by kernel_rfl,by kernel_rfl,by kernel_rfl,by kernel_rfl⟩,rfl,rfl⟩
abbrev JA (a0:Str) (a1:Int) (a2:Int) (a3:Int) (r:List AD × Int × Int × Int):CS:=⟨[V 2 (.osl 2 0 (List.length r.1) 3)],[W 0 1 [pt 1 4],W 1 4 [bs a0,iv r.2.1,iv r.2.2.1,iv r.2.2.2],(2,.rows 3 (List.map AA r.1))],3⟩
noncomputable def B5 (a0:Str) (a1:Int) (a2:Int) (a3:Int):Option (List AD × Int × Int × Int):=Option.bind (A9 a0 a1 a2 a3) (fun (x9,x10,x11,x12)=>some (x9,x10,x11,x12))
theorem HA (a0:Str) (a1:Int) (a2:Int) (a3:Int):CtM E 17 [.fn 37 [pt 0 1]] [W 0 1 [pt 1 4],W 1 4 [bs a0,iv a1,iv a2,iv a3]] 2 (B5 a0 a1 a2 a3) (fun r:List AD × Int × Int × Int=>.osl 2 0 (List.length r.1) 3) (fun r:List AD × Int × Int × Int=>[W 0 1 [pt 1 4],W 1 4 [bs a0,iv r.2.1,iv r.2.2.1,iv r.2.2.2],(2,.rows 3 (List.map AA r.1))]) 3:=Bf (N:=5) (L:=Dn) HV rfl (Nat.le_of_ble_eq_true rfl) (fun F hF=>by
 unfold B5
 refine jS ⟨[V 0 (.fn 37 [pt 0 1])],[W 0 1 [pt 1 4],W 1 4 [bs a0,iv a1,iv a2,iv a3]],2⟩ ?_
 refine jR ?_
 refine jG 0 1 ⟨[V 3 (.fn 37 [pt 0 1])],[W 0 1 [pt 1 4],W 1 4 [bs a0,iv a1,iv a2,iv a3]],2⟩ ?_
 refine Am 1 [(0,some 0),(1,some 1)] [(0,some 0),(1,some 1),(2,some 2)] (fun r:List AD × Int × Int × Int=>[W 0 1 [pt 1 4],W 1 4 [bs a0,iv r.2.1,iv r.2.2.1,iv r.2.2.2],(2,.rows 3 (List.map AA r.1))]) (fun r:List AD × Int × Int × Int=>.osl 2 0 (List.length r.1) 3) 3 (DS a0 a1 a2 a3) (pc (hC 0) (pc (hC 1) AB)) (fun r=>(pc (.inr (hC 0)) (pc (.inr (hC 1)) (pc (.inr (hL 2 (AM Ab _))) AB)))) ?_
 rintro⟨x9,x10,x11,x12⟩ hm2
 refine jG 2 1 ⟨[V 2 (.osl 2 0 (List.length x9) 3)],[W 0 1 [pt 1 4],W 1 4 [bs a0,iv x10,iv x11,iv x12],(2,.rows 3 (List.map AA x9))],3⟩ ?_
 refine jN ?_
 refine AO ?_
 exact A7 (JA a0 a1 a2 a3 (x9,x10,x11,x12)) (.inr rfl) (wkR [(0,some 0),(1,some 1),(2,some 2)] (AY hF (k:=2) rfl) (pc (hC 0) (pc (hC 1) (pc (hL 2 (AM Ab _)) AB)))))
abbrev LD:List LO:=[lo 1 (.box 44 (.tmp 0)) 0,lo 2 (.assign (.const .nilFunc)) 49]
abbrev LM:List LO:=[lo 3 (.makeFunc (Fn.func 37) #[] #[.tmp 1]) 48,lo 2 (.assign (.tmp 3)) 49]
abbrev Fv:LC:=.seq (.reg false LD) (.seq (.reg false LM) .ret)
theorem MY:BE E 18 4 [.tmp 2] Fv:=⟨⟨Go.Proofs.Tryz.f18,by kernel_rfl,by kernel_rfl,by kernel_rfl,by kernel_rfl,by kernel_rfl⟩,rfl,rfl⟩
abbrev Lq (a0:Str) (a1:Int) (a2:Int) (a3:Int) (r:Unit):CS:=⟨[V 2 (.fn 37 [pt 1 1])],[W 0 4 [bs a0,iv a1,iv a2,iv a3],W 1 1 [pt 0 4]],2⟩
noncomputable def C3 (a0:Str) (a1:Int) (a2:Int) (a3:Int):Option (Unit):=some ()
theorem LA (a0:Str) (a1:Int) (a2:Int) (a3:Int):CtM E 18 [pt 0 4] [W 0 4 [bs a0,iv a1,iv a2,iv a3]] 1 (C3 a0 a1 a2 a3) (fun r:Unit=>.fn 37 [pt 1 1]) (fun r:Unit=>[W 0 4 [bs a0,iv a1,iv a2,iv a3],W 1 1 [pt 0 4]]) 2:=Bf (N:=4) (L:=Fv) MY rfl (Nat.le_of_ble_eq_true rfl) (fun F hF=>by
 unfold C3
 refine jS ⟨[V 1 (pt 1 1)],[W 0 4 [bs a0,iv a1,iv a2,iv a3],W 1 1 [pt 0 4]],2⟩ ?_
 refine jS ⟨[V 2 (.fn 37 [pt 1 1])],[W 0 4 [bs a0,iv a1,iv a2,iv a3],W 1 1 [pt 0 4]],2⟩ ?_
 refine AO ?_
 exact A7 (Lq a0 a1 a2 a3 ()) (.inr rfl) (wkR [(0,some 0),(1,some 1)] (AY hF (k:=1) rfl) (pc (hC 0) (pc (hC 1) AB))))
abbrev Wc:List LO:=[lo 2 (.assign (.const (.slice none 0 0))) 22,lo 3 (.alloc 25) 0]
abbrev WT:List LO:=[lm 6 0 9,lo 7 (.call ⟨.builtin .len,#[.tmp 6],#[9]⟩) 3,lo 8 (.binOp .gtr 3 (.tmp 7) (.const (.int .i64 256)) 3) 4]
abbrev WU:List LO:=[lo 9 (.build 25 #[(0,.const (.int .i64 12)),(1,.const (.int .i64 256))]) 25,lo 2 (.assign (.const (.slice none 0 0))) 22,ln (.store 25 (.tmp 3) (.tmp 9)) 0]
abbrev WQ:List LO:=[lm 10 0 9,lo 11 (.build 46 #[(0,.tmp 10)]) 46,lo 12 (.box 46 (.tmp 11)) 44,lo 4 (.assign (.tmp 12)) 44]
abbrev Wl:List LO:=[lm 13 4 44,lo 14 (.call ⟨.value (.func 18),#[.tmp 13],#[44]⟩) 49,lo 15 (.call ⟨.value (.func 17),#[.tmp 14],#[49]⟩) 22,lo 5 (.assign (.tmp 15)) 22]
abbrev WN:List LO:=[lm 16 4 44,lo 17 (.call ⟨.value (.func 19),#[.tmp 16],#[44]⟩) 4,lo 18 (.unOp .not 4 (.tmp 17)) 4]
abbrev WX:List LO:=[lm 19 4 44,lo 20 (.nilCheck (.tmp 19)) 0,lo 21 (.fieldAddr 46 (.tmp 20) 2) 0,lo 22 (.load 25 (.tmp 21)) 25,lo 2 (.assign (.const (.slice none 0 0))) 22,ln (.store 25 (.tmp 3) (.tmp 22)) 0]
abbrev WY:List LO:=[lm 23 5 22,lo 24 (.build 25 #[]) 25,lo 2 (.assign (.tmp 23)) 22,ln (.store 25 (.tmp 3) (.tmp 24)) 0]
abbrev Pr:LC:=.seq (.reg false Wc) (.seq (.seq (.reg false WT) (.cond (.tmp 8) (.seq (.reg false WU) .ret) .skip)) (.seq (.reg false WQ) (.seq (.reg false Wl) (.seq (.seq (.reg false WN) (.cond (.tmp 18) (.seq (.reg true WX) .ret) .skip)) (.seq (.reg false WY) .ret)))))
theorem YY:BE E 6 25 [.tmp 2,.cell 3 25] Pr:=⟨⟨Go.Proofs.Tryz.f6,by kernel_rfl,by kernel_rfl,by kernel_rfl,by kernel_rfl,by kernel_rfl⟩,rfl,rfl⟩
abbrev Jw (a0:Str) (r:List AD × Int × Int):CS:=⟨[V 2 (.osl 0 0 (List.length r.1) 3),V 3 (pt 1 2)],[(0,.rows 3 (List.map AA r.1)),W 1 2 [iv r.2.1,iv r.2.2]],2⟩
noncomputable def B8 (a0:Str):Option (List AD × Int × Int):=(if (decide ((List.length a0:Int) > 256))=true then some ([],12,256) else Option.bind (C3 a0 0 0 0) (fun _=>Option.bind (B5 a0 0 0 0) (fun (x9,x10,x11,x12)=>Option.bind (Av a0 x10 x11 x12) (fun x13=>(if (!x13)=true then some ([],x11,x12) else some (x9,0,0))))))
theorem Cn (a0:Str):CtM E 6 [bs a0] [] 0 (B8 a0) (fun r:List AD × Int × Int=>.tup [.osl 0 0 (List.length r.1) 3,.agg [iv r.2.1,iv r.2.2]]) (fun r:List AD × Int × Int=>[(0,.rows 3 (List.map AA r.1))]) 2:=Bf (N:=25) (L:=Pr) YY rfl (Nat.le_of_ble_eq_true rfl) (fun F hF=>by
 unfold B8
 refine jS ⟨[V 0 (bs a0),V 3 (pt 0 2)],[W 0 2 [iv 0,iv 0]],1⟩ ?_
 refine AT ?_
 refine jS ⟨[V 0 (bs a0),V 3 (pt 0 2),V 8 (bv (decide ((List.length a0:Int) > 256)))],[W 0 2 [iv 0,iv 0]],1⟩ ?_
 refine jIf ?_ ?_
 ·refine jS ⟨[V 2 (Af),V 3 (pt 0 2)],[W 0 2 [iv 12,iv 256]],1⟩ ?_
  refine AO ?_
  refine AZ ?_
  exact A7 (Jw a0 ([],12,256)) (.inr rfl) (wkR [(0,none),(1,some 0)] (AY hF (k:=0) rfl) (pc hZ (pc (hC 0) AB)))
 refine AS ?_
 refine AN ?_
 refine jS ⟨[V 3 (pt 0 2),V 4 (pt 1 4)],[W 0 2 [iv 0,iv 0],W 1 4 [bs a0,iv 0,iv 0,iv 0]],2⟩ ?_
 refine jR ?_
 refine jG 0 1 ⟨[V 3 (pt 0 2),V 4 (pt 1 4),V 13 (pt 1 4)],[W 0 2 [iv 0,iv 0],W 1 4 [bs a0,iv 0,iv 0,iv 0]],2⟩ ?_
 refine Am 1 [(0,some 1)] [(1,some 0),(2,some 1)] (fun r:Unit=>[W 0 2 [iv 0,iv 0],W 1 4 [bs a0,iv 0,iv 0,iv 0],W 2 1 [pt 1 4]]) (fun r:Unit=>.fn 37 [pt 2 1]) 3 (LA a0 0 0 0) (pc (hC 1) AB) (fun r=>(pc (.inl ⟨rfl,rfl⟩) (pc (.inr (hC 0)) (pc (.inr (hC 1)) AB)))) ?_
 rintro⟨⟩ hm4
 refine Am 2 [(0,some 2),(1,some 1)] [(2,some 0),(1,some 1),(3,some 2)] (fun r:List AD × Int × Int × Int=>[W 0 2 [iv 0,iv 0],W 1 4 [bs a0,iv r.2.1,iv r.2.2.1,iv r.2.2.2],W 2 1 [pt 1 4],(3,.rows 3 (List.map AA r.1))]) (fun r:List AD × Int × Int × Int=>.osl 3 0 (List.length r.1) 3) 4 (HA a0 0 0 0) (pc (hC 2) (pc (hC 1) AB)) (fun r=>(pc (.inl ⟨rfl,rfl⟩) (pc (.inr (hC 1)) (pc (.inr (hC 0)) (pc (.inr (hL 2 (AM Ab _))) AB))))) ?_
 rintro⟨x9,x10,x11,x12⟩ hm3
 refine jG 3 1 ⟨[V 3 (pt 0 2),V 4 (pt 1 4),V 5 (.osl 3 0 (List.length x9) 3)],[W 0 2 [iv 0,iv 0],W 1 4 [bs a0,iv x10,iv x11,iv x12],(3,.rows 3 (List.map AA x9))],4⟩ ?_
 refine jN ?_
 refine AT ?_
 refine jR ?_
 refine jG 0 1 ⟨[V 3 (pt 0 2),V 4 (pt 1 4),V 5 (.osl 3 0 (List.length x9) 3),V 16 (pt 1 4)],[W 0 2 [iv 0,iv 0],W 1 4 [bs a0,iv x10,iv x11,iv x12],(3,.rows 3 (List.map AA x9))],4⟩ ?_
 refine Bh (i:=1) rfl rfl rfl rfl (vs:=[pt 1 4]) (vs0:=[.fptr [bs a0,iv x10,iv x11,iv x12] 0]) (b:=true) (by kernel_rfl) (by kernel_rfl) (AJ (AE _) Aj) (Bm a0 x10 x11 x12) (fun _=>rfl) (fun _=>rfl) ?_
 intro x13 h13
 refine jG 2 1 ⟨[V 3 (pt 0 2),V 4 (pt 1 4),V 5 (.osl 3 0 (List.length x9) 3),V 18 (bv (!x13))],[W 0 2 [iv 0,iv 0],W 1 4 [bs a0,iv x10,iv x11,iv x12],(3,.rows 3 (List.map AA x9))],4⟩ ?_
 refine jN ?_
 refine jIf ?_ ?_
 ·refine jS ⟨[V 2 (Af),V 3 (pt 0 2)],[W 0 2 [iv x11,iv x12]],4⟩ ?_
  refine AO ?_
  refine AZ ?_
  exact A7 (Jw a0 ([],x11,x12)) (.inr rfl) (wkR [(0,none),(1,some 0)] (AY hF (k:=0) rfl) (pc hZ (pc (hC 0) AB)))
 refine AS ?_
 refine AN ?_
 refine jS ⟨[V 2 (.osl 3 0 (List.length x9) 3),V 3 (pt 0 2)],[W 0 2 [iv 0,iv 0],(3,.rows 3 (List.map AA x9))],4⟩ ?_
 refine AO ?_
 exact A7 (Jw a0 (x9,0,0)) (.inr rfl) (wkR [(0,some 3),(1,some 0)] (AY hF (k:=0) rfl) (pc (hL 3 (AM Ab _)) (pc (hC 0) AB))))
abbrev Hw:List LO:=[lo 2 (.assign (.const (.slice none 0 0))) 32]
abbrev Hp:List LO:=[lm 3 0 32,lo 4 (.binOp .eql 32 (.tmp 3) (.const (.slice none 0 0)) 32) 4]
abbrev Hl:List LO:=[lo 2 (.assign (.const (.slice none 0 0))) 32]
abbrev Hs:List LO:=[lo 5 (.buildSlice 32 0 #[]) 32,lm 6 0 32,lo 7 (.call ⟨.builtin .append,#[.tmp 5,.tmp 6],#[32,32]⟩) 32,lo 2 (.assign (.tmp 7)) 32]
abbrev D9:LC:=.seq (.reg false Hw) (.seq (.seq (.reg false Hp) (.cond (.tmp 4) (.seq (.reg false Hl) .ret) .skip)) (.seq (.reg false Hs) .ret))
theorem JG:BE E 110 8 [.tmp 2] D9:=⟨⟨Go.Proofs.Tryz.f110,by kernel_rfl,by kernel_rfl,by kernel_rfl,by kernel_rfl,by kernel_rfl⟩,rfl,rfl⟩
abbrev EA (a0:List Str) (r:List Str):CS:=⟨[V 2 (.osl 0 0 (List.length r) 1)],[(0,.rows 1 (List.map cS r))],1⟩
noncomputable def Bg (a0:List Str):Option (List Str):=Option.bind (app 16 ([]:List Str) a0) (fun x3=>some x3)
theorem JD (a0:List Str):CtM E 110 [.fsl 1 (List.map cS a0)] [] 0 (Bg a0) (fun r:List Str=>.osl 0 0 (List.length r) 1) (fun r:List Str=>[(0,.rows 1 (List.map cS r))]) 1:=Bf (N:=8) (L:=D9) JG rfl (Nat.le_of_ble_eq_true rfl) (fun F hF=>by
 unfold Bg
 refine jS ⟨[V 0 (.fsl 1 (List.map cS a0))],[],0⟩ ?_
 refine AT ?_
 refine jR ?_
 refine jG 0 1 ⟨[V 0 (.fsl 1 (List.map cS a0)),V 3 (.fsl 1 (List.map cS a0))],[],0⟩ ?_
 refine sS 1 (v:=.fsl 1 (List.map cS a0)) (C:=a0=[]) (mA:=(some [])) (b:=false) zB (fun h=>by first | (rw[h]; rfl) | simp[h,app]) (fun _=>?_) ?_ (hr:=.inr ⟨_,_,rfl⟩)
 ·refine jN ?_
  refine Ow (c:=true) (by kernel_rfl) ?_
  refine jS ⟨[V 2 (Af)],[],0⟩ ?_
  refine AO ?_
  refine AZ ?_
  exact A7 (EA a0 []) (.inr rfl) (wkR [(0,none)] (AY hF (k:=0) rfl) (pc hZ AB))
 refine jN ?_
 refine Ow (c:=false) (by kernel_rfl) ?_
 refine AS ?_
 refine AN ?_
 refine jR ?_
 refine jG 0 2 ⟨[V 5 (.osl 0 0 (List.length ([]:List Str)) 1),V 6 (.fsl 1 (List.map cS a0))],[(0,.rows 1 (List.map cS ([]:List Str)))],1⟩ ?_
 refine xH (i:=2) (C:=a0=[]) (st1:=fun x3=>⟨[V 7 (.osl 1 0 (List.length x3) 1)],[(1,.rows 1 (List.map cS x3))],2⟩) rfl rfl rfl rfl (fun q _ hc=>QD (u:=.osl 0 0 (List.length ([]:List Str)) 1) (w:=.fsl 1 (List.map cS a0)) (e:=9) (td:=.slice 9) (by kernel_rfl) (by kernel_rfl) (by kernel_rfl) (by kernel_rfl) (.inl ⟨_,rfl⟩) (GY (c:=cS) (sz:=1) (b:=16) (id:=0) (by kernel_rfl) (by kernel_rfl) j7 q hc)) (fun q _ hc=>QD (u:=.osl 0 0 (List.length ([]:List Str)) 1) (w:=.fsl 1 (List.map cS a0)) (e:=9) (td:=.slice 9) (by kernel_rfl) (by kernel_rfl) (by kernel_rfl) (by kernel_rfl) (.inl ⟨_,rfl⟩) (Z5 (c:=cS) (sz:=1) (b:=16) (m:=a0) (by kernel_rfl) (.inr (.inr ⟨_,_,_,_,rfl⟩)) j7 q)) (fun _=>rfl) (fun _=>rfl) (fun _=>wkR [(1,some 1)] (AY hF (k:=0) rfl) (pc (hL 1 (AM BS _)) AB)) (fun q _ hc=>by cases sY q hc; exact wkR [(1,some 0)] (AY hF (k:=0) rfl) (pc (hL 0 (AM BS _)) AB)) ?_
 intro x3 h3
 refine jG 3 1 ⟨[V 2 (.osl 1 0 (List.length x3) 1)],[(1,.rows 1 (List.map cS x3))],2⟩ ?_
 refine jN ?_
 refine AO ?_
 exact A7 (EA a0 x3) (.inr rfl) (wkR [(0,some 1)] (AY hF (k:=0) rfl) (pc (hL 1 (AM BS _)) AB)))
abbrev nL:List LO:=[lo 1 (.box 34 (.tmp 0)) 0,lo 2 (.assign (.const (.bool false))) 4]
abbrev nM:List LO:=[lo 3 (.fieldAddr 34 (.tmp 1) 2) 0,lo 4 (.load 5 (.tmp 3)) 5,lo 5 (.binOp .neq 5 (.tmp 4) (.const (.int .u8 0)) 5) 4,lm 6 5 4,lg 7 (.fieldAddr 34 (.tmp 1) 6) 0 6 false,lg 8 (.load 4 (.tmp 7)) 4 6 false,lo 9 (.pick (.tmp 6) (.const (.bool true)) (.tmp 8)) 4,lo 2 (.assign (.tmp 9)) 4]
abbrev aC:LC:=.seq (.reg false nL) (.seq (.reg false nM) .ret)
theorem rD:BE E 34 10 [.tmp 2] aC:=⟨⟨Go.Proofs.Tryz.f34,by kernel_rfl,by kernel_rfl,by kernel_rfl,by kernel_rfl,by kernel_rfl⟩,rfl,rfl⟩
noncomputable def HS (a0:AF):Option (Bool):=some ((a0.Pre != 0) || a0.Dev)
theorem NA (a0:AF):Ct E 34 [.agg [bs a0.Epoch,.fsl 1 (List.map cS a0.Release),.s (.int .u8 a0.Pre),bs a0.PreNum,bv a0.Post,bs a0.PostNum,bv a0.Dev,bs a0.DevNum,.fsl 1 (List.map cS a0.Local)]] (HS a0) (fun r:Bool=>bv r):=Ad (N:=10) (L:=aC) rD rfl (Nat.le_of_ble_eq_true rfl) (by kernel_rfl) (by
 unfold HS
 refine jS ⟨[V 1 (pt 0 9)],[W 0 9 [bs a0.Epoch,.fsl 1 (List.map cS a0.Release),.s (.int .u8 a0.Pre),bs a0.PreNum,bv a0.Post,bs a0.PostNum,bv a0.Dev,bs a0.DevNum,.fsl 1 (List.map cS a0.Local)]],1⟩ ?_
 refine jS ⟨[V 2 (bv ((a0.Pre != 0) || a0.Dev))],[],1⟩ ?_
 refine AO ?_
 exact AP (.inr rfl) (v:=bv ((a0.Pre != 0) || a0.Dev)) (by kernel_rfl) rfl (AE _))
abbrev Y6:List LO:=[lo 1 (.box 34 (.tmp 0)) 0,lo 2 (.alloc 34) 0]
abbrev Yr:List LO:=[lo 3 (.fieldAddr 34 (.tmp 1) 1) 0,lo 4 (.load 32 (.tmp 3)) 32,lo 5 (.call ⟨.value (.func 110),#[.tmp 4],#[32]⟩) 32,lo 6 (.fieldAddr 34 (.tmp 1) 1) 0,ln (.store 32 (.tmp 6) (.tmp 5)) 0,lo 7 (.fieldAddr 34 (.tmp 1) 8) 0,ln (.store 32 (.tmp 7) (.const (.slice none 0 0))) 0]
abbrev Za:List LO:=[lo 8 (.load 34 (.tmp 1)) 34,ln (.store 34 (.tmp 2) (.tmp 8)) 0]
abbrev Tq:LC:=.seq (.reg false Y6) (.seq (.reg false Yr) (.seq (.reg false Za) .ret))
theorem d8:BE E 87 9 [.cell 2 34] Tq:=⟨⟨Go.Proofs.Tryz.f87,by kernel_rfl,by kernel_rfl,by kernel_rfl,by kernel_rfl,by kernel_rfl⟩,rfl,rfl⟩
noncomputable def G5 (a0:AF):Option (AF):=Option.bind (Bg a0.Release) (fun x1=>some (AF.mk a0.Epoch x1 a0.Pre a0.PreNum a0.Post a0.PostNum a0.Dev a0.DevNum []))
theorem RC (a0:AF):Ct E 87 [.agg [bs a0.Epoch,.fsl 1 (List.map cS a0.Release),.s (.int .u8 a0.Pre),bs a0.PreNum,bv a0.Post,bs a0.PostNum,bv a0.Dev,bs a0.DevNum,.fsl 1 (List.map cS a0.Local)]] (G5 a0) (fun r:AF=>.agg [bs r.Epoch,.fsl 1 (List.map cS r.Release),.s (.int .u8 r.Pre),bs r.PreNum,bv r.Post,bs r.PostNum,bv r.Dev,bs r.DevNum,.fsl 1 (List.map cS r.Local)]):=Ad (N:=9) (L:=Tq) d8 rfl (Nat.le_of_ble_eq_true rfl) (by kernel_rfl) (by
 unfold G5
 refine jS ⟨[V 1 (pt 0 9),V 2 (pt 1 9)],[W 0 9 [bs a0.Epoch,.fsl 1 (List.map cS a0.Release),.s (.int .u8 a0.Pre),bs a0.PreNum,bv a0.Post,bs a0.PostNum,bv a0.Dev,bs a0.DevNum,.fsl 1 (List.map cS a0.Local)],W 1 9 [bs [],Af,.s (.int .u8 0),bs [],bv false,bs [],bv false,bs [],Af]],2⟩ ?_
 refine jR ?_
 refine jG 0 2 ⟨[V 1 (pt 0 9),V 2 (pt 1 9),V 4 (.fsl 1 (List.map cS a0.Release))],[W 0 9 [bs a0.Epoch,.fsl 1 (List.map cS a0.Release),.s (.int .u8 a0.Pre),bs a0.PreNum,bv a0.Post,bs a0.PostNum,bv a0.Dev,bs a0.DevNum,.fsl 1 (List.map cS a0.Local)],W 1 9 [bs [],Af,.s (.int .u8 0),bs [],bv false,bs [],bv false,bs [],Af]],2⟩ ?_
 refine Am 2 [] [(2,some 0)] (fun r:List Str=>[W 0 9 [bs a0.Epoch,.fsl 1 (List.map cS a0.Release),.s (.int .u8 a0.Pre),bs a0.PreNum,bv a0.Post,bs a0.PostNum,bv a0.Dev,bs a0.DevNum,.fsl 1 (List.map cS a0.Local)],W 1 9 [bs [],Af,.s (.int .u8 0),bs [],bv false,bs [],bv false,bs [],Af],(2,.rows 1 (List.map cS r))]) (fun r:List Str=>.osl 2 0 (List.length r) 1) 3 (JD a0.Release) AB (fun r=>(pc (.inl ⟨rfl,rfl⟩) (pc (.inl ⟨rfl,rfl⟩) (pc (.inr (hL 0 (AM BS _))) AB)))) ?_
 rintro x1 hm1
 refine jG 3 4 ⟨[V 1 (pt 0 9),V 2 (pt 1 9)],[W 0 9 [bs a0.Epoch,.osl 2 0 (List.length x1) 1,.s (.int .u8 a0.Pre),bs a0.PreNum,bv a0.Post,bs a0.PostNum,bv a0.Dev,bs a0.DevNum,Af],W 1 9 [bs [],Af,.s (.int .u8 0),bs [],bv false,bs [],bv false,bs [],Af],(2,.rows 1 (List.map cS x1))],3⟩ ?_
 refine jN ?_
 refine jS ⟨[V 2 (pt 1 9)],[W 1 9 [bs a0.Epoch,.osl 2 0 (List.length x1) 1,.s (.int .u8 a0.Pre),bs a0.PreNum,bv a0.Post,bs a0.PostNum,bv a0.Dev,bs a0.DevNum,Af],(2,.rows 1 (List.map cS x1))],3⟩ ?_
 refine AO ?_
 exact AP (.inr rfl) (v:=.agg [bs a0.Epoch,.osl 2 0 (List.length x1) 1,.s (.int .u8 a0.Pre),bs a0.PreNum,bv a0.Post,bs a0.PostNum,bv a0.Dev,bs a0.DevNum,Af]) (by kernel_rfl) (Mj (AL rfl (AL (Dc qY (by kernel_rfl)) (AL rfl (AL rfl (AL rfl (AL rfl (AL rfl (AL rfl (AL rfl (Aw _))))))))))) (TJ (AJ (AE _) (AJ (AE _) (AJ (AE _) (AJ (AE _) (AJ (AE _) (AJ (AE _) (AJ (AE _) (AJ (AE _) (AJ (Pz _) Aj)))))))))))
abbrev X7:List LO:=[lo 2 (.assign (.const (.string ⟨#[]⟩))) 9]
abbrev XH:List LO:=[lo 3 (.assign (.const (.slice none 0 0))) 32]
abbrev X8:List LO:=[lm 7 0 22,lo 8 (.call ⟨.builtin .len,#[.tmp 7],#[22]⟩) 3,lo 9 (.move (.const (.int .i64 0))) 3]
abbrev W4:List LO:=[lo 10 (.binOp .lss 3 (.tmp 9) (.tmp 8) 3) 0]
abbrev XB:List LO:=[lo 11 (.indexAddr 22 (.tmp 7) (.tmp 9)) 0,lo 12 (.load 39 (.tmp 11)) 39,lo 5 (.alloc 39) 0,ln (.store 39 (.tmp 5) (.tmp 12)) 0]
abbrev Ya:List LO:=[lo 13 (.fieldAddr 39 (.tmp 5) 0) 0,lo 14 (.load 9 (.tmp 13)) 9,lo 15 (.fieldAddr 39 (.tmp 5) 1) 0,lo 16 (.load 9 (.tmp 15)) 9,lo 17 (.binOp .add 9 (.tmp 14) (.tmp 16) 9) 9,lo 6 (.assign (.tmp 17)) 9]
abbrev W3:List LO:=[lo 18 (.fieldAddr 39 (.tmp 5) 2) 0,lo 19 (.load 4 (.tmp 18)) 4]
abbrev XY:List LO:=[lm 20 6 9,lo 21 (.binOp .add 9 (.tmp 20) (.const (.string ⟨#[46,42]⟩)) 9) 9,lo 6 (.assign (.tmp 21)) 9]
abbrev YL:List LO:=[lm 22 3 32,lm 23 6 9,lo 24 (.buildSlice 32 1 #[(0,.tmp 23)]) 32,lo 25 (.call ⟨.builtin .append,#[.tmp 22,.tmp 24],#[32,32]⟩) 32,lo 3 (.assign (.tmp 25)) 32]
abbrev WL:List LO:=[lo 26 (.binOp .add 3 (.tmp 9) (.const (.int .i64 1)) 3) 3,lm 9 26 3]
abbrev Wa:List LO:=[lm 27 3 32,lo 28 (.call ⟨.value (.func 44),#[.tmp 27,.const (.string ⟨#[44]⟩)],#[32,9]⟩) 9,lo 2 (.assign (.tmp 28)) 9]
abbrev RB:LC:=.seq (.reg false X7) (.seq (.reg false XH) (.seq (.seq (.reg false X8) (.block 0 (.loop (.seq (.reg false W4) (.seq (.cond (.tmp 10) .skip (.exit 0)) (.seq (.block 1 (.seq (.reg false XB) (.seq (.reg false Ya) (.seq (.seq (.reg false W3) (.cond (.tmp 19) (.reg false XY) .skip)) (.reg false YL))))) (.reg false WL))))))) (.seq (.reg false Wa) .ret)))
theorem Yx:BE E 20 29 [.tmp 2] RB:=⟨⟨Go.Proofs.Tryz.f20,by kernel_rfl,by kernel_rfl,by kernel_rfl,by kernel_rfl,by kernel_rfl⟩,rfl,rfl⟩
noncomputable def GQ (a0:(List AD)):(List Str × Int)→Option (Step (List Str × Int) (List Str)):=fun (x6,x7)=>(if (decide (x7 < (List.length a0:Int)))=true then Option.bind (ixl a0 x7) (fun x16=>Option.bind (cat x16.Op x16.Ver) (fun x17=>Option.bind ((if x16.Star=true then Option.bind (cat x17 [46,42]) (fun x20=>some x20) else some x17):Option (Str)) (fun x19=>Option.bind (app 16 x6 [x19]) (fun x21=>some (Step.next (x21,(w64 (x7 + 1)))))))) else some (Step.done x6))
noncomputable def Ha (a0:(List AD)):Option (Str):=Option.bind (Bi (GQ a0) ([],0)) (fun x15=>Option.bind (strings_Join x15 [44]) (fun x22=>some x22))
theorem Xe (a0:(List AD)):Ct E 20 [.fsl 3 (List.map AA a0)] (Ha a0) (fun r:Str=>bs r):=Ad (N:=29) (L:=RB) Yx rfl (Nat.le_of_ble_eq_true rfl) (by kernel_rfl) (by
 unfold Ha
 refine jS ⟨[V 0 (.fsl 3 (List.map AA a0))],[],0⟩ ?_
 refine jS ⟨[V 0 (.fsl 3 (List.map AA a0)),V 3 (Af)],[],0⟩ ?_
 refine AT ?_
 refine jR ?_
 refine jG 0 3 ⟨[V 3 (Af),V 7 (.fsl 3 (List.map AA a0)),V 8 (iv (List.length (List.map AA a0):Int)),V 9 (iv 0)],[],0⟩ ?_
 simp only[List.length_map]
 refine jN ?_
 refine Ai ?_
 refine As (fun x15=>⟨[V 3 (.osl 0 0 (List.length x15) 1)],[(0,.rows 1 (List.map cS x15))],1⟩) (fun x15=>(.exit 0)) (Cj (fun (x6,x7)=>⟨[V 3 (.osl 0 0 (List.length x6) 1),V 7 (.fsl 3 (List.map AA a0)),V 8 (iv (List.length a0:Int)),V 9 (iv x7)],[(0,.rows 1 (List.map cS x6))],1⟩) (wkR [(0,none)] (AH _) (pc hZ AB)) ?_) ?_
 ·rintro⟨x6,x7⟩
  unfold GQ
  refine jS ⟨[V 3 (.osl 0 0 (List.length x6) 1),V 7 (.fsl 3 (List.map AA a0)),V 8 (iv (List.length a0:Int)),V 9 (iv x7),V 10 (bv (decide (x7 < (List.length a0:Int))))],[(0,.rows 1 (List.map cS x6))],1⟩ ?_
  refine AT ?_
  refine jIf ?_ ?_
  ·refine AS ?_
   refine AN ?_
   refine AT ?_
   refine Ai ?_
   refine jR ?_
   refine An (i:=0) (mo:=ixl a0 x7) rfl rfl rfl rfl (fun _ hc=>Da (c:=AA) (sz:=3) (e:=39) (kk:=.i64) (by kernel_rfl) (by kernel_rfl) (by kernel_rfl) (by kernel_rfl) hc) (fun _=>rfl) ?_
   intro x16 h16
   refine jG 1 3 ⟨[V 3 (.osl 0 0 (List.length x6) 1),V 5 (pt 1 3),V 7 (.fsl 3 (List.map AA a0)),V 8 (iv (List.length a0:Int)),V 9 (iv x7)],[(0,.rows 1 (List.map cS x6)),W 1 3 [bs x16.Op,bs x16.Ver,bv x16.Star]],2⟩ ?_
   refine jN ?_
   refine jR ?_
   refine jG 0 4 ⟨[V 3 (.osl 0 0 (List.length x6) 1),V 5 (pt 1 3),V 7 (.fsl 3 (List.map AA a0)),V 8 (iv (List.length a0:Int)),V 9 (iv x7),V 14 (bs x16.Op),V 16 (bs x16.Ver)],[(0,.rows 1 (List.map cS x6)),W 1 3 [bs x16.Op,bs x16.Ver,bv x16.Star]],2⟩ ?_
   refine An (i:=4) (mo:=cat x16.Op x16.Ver) rfl rfl rfl rfl (fun _ hc=>oN (by kernel_rfl) (by kernel_rfl) hc) (fun _=>rfl) ?_
   intro x17 h17
   refine jG 5 1 ⟨[V 3 (.osl 0 0 (List.length x6) 1),V 5 (pt 1 3),V 6 (bs x17),V 7 (.fsl 3 (List.map AA a0)),V 8 (iv (List.length a0:Int)),V 9 (iv x7)],[(0,.rows 1 (List.map cS x6)),W 1 3 [bs x16.Op,bs x16.Ver,bv x16.Star]],2⟩ ?_
   refine jN ?_
   refine AT ?_
   refine As (fun x19=>⟨[V 3 (.osl 0 0 (List.length x6) 1),V 6 (bs x19),V 7 (.fsl 3 (List.map AA a0)),V 8 (iv (List.length a0:Int)),V 9 (iv x7)],[(0,.rows 1 (List.map cS x6))],1⟩) (fun x19=>.normal) ?_ ?_
   ·refine jS ⟨[V 3 (.osl 0 0 (List.length x6) 1),V 6 (bs x17),V 7 (.fsl 3 (List.map AA a0)),V 8 (iv (List.length a0:Int)),V 9 (iv x7),V 19 (bv x16.Star)],[(0,.rows 1 (List.map cS x6))],2⟩ ?_
    refine jIf ?_ ?_
    ·refine CA ?_
     refine jG 0 1 ⟨[V 3 (.osl 0 0 (List.length x6) 1),V 7 (.fsl 3 (List.map AA a0)),V 8 (iv (List.length a0:Int)),V 9 (iv x7),V 20 (bs x17)],[(0,.rows 1 (List.map cS x6))],2⟩ ?_
     refine An (i:=1) (mo:=cat x17 [46,42]) rfl rfl rfl rfl (fun _ hc=>oN (by kernel_rfl) (by kernel_rfl) hc) (fun _=>rfl) ?_
     intro x20 h20
     refine jG 2 1 ⟨[V 3 (.osl 0 0 (List.length x6) 1),V 6 (bs x20),V 7 (.fsl 3 (List.map AA a0)),V 8 (iv (List.length a0:Int)),V 9 (iv x7)],[(0,.rows 1 (List.map cS x6))],2⟩ ?_
     refine AQ rfl ?_
     exact AK rfl (wkR [(0,some 0)] (AH _) (pc (hL 0 (AM BS _)) AB))
    refine AS ?_
    exact AK rfl (wkR [(0,some 0)] (AH _) (pc (hL 0 (AM BS _)) AB))
   intro x19
   refine AN ?_
   refine CA ?_
   refine jG 0 3 ⟨[V 7 (.fsl 3 (List.map AA a0)),V 8 (iv (List.length a0:Int)),V 9 (iv x7),V 22 (.osl 0 0 (List.length x6) 1),V 24 (.osl 1 0 (List.length [x19]) 1)],[(0,.rows 1 (List.map cS x6)),(1,.rows 1 (List.map cS [x19]))],2⟩ ?_
   refine An (i:=3) (mo:=app 16 x6 [x19]) rfl rfl rfl rfl (fun _ hc=>QD (u:=.osl 0 0 (List.length x6) 1) (w:=.osl 1 0 (List.length [x19]) 1) (e:=9) (td:=.slice 9) (by kernel_rfl) (by kernel_rfl) (by kernel_rfl) (by kernel_rfl) (.inl ⟨_,rfl⟩) (GY (c:=cS) (sz:=1) (b:=16) (id:=0) (by kernel_rfl) (by kernel_rfl) (PV (by kernel_rfl)) (List.cons_ne_nil _ _) hc)) (fun _=>rfl) ?_
   intro x21 h21
   refine jG 4 1 ⟨[V 3 (.osl 2 0 (List.length x21) 1),V 7 (.fsl 3 (List.map AA a0)),V 8 (iv (List.length a0:Int)),V 9 (iv x7)],[(2,.rows 1 (List.map cS x21))],3⟩ ?_
   refine AQ rfl ?_
   refine A8 ?_
   refine AN ?_
   refine jT ⟨[V 3 (.osl 2 0 (List.length x21) 1),V 7 (.fsl 3 (List.map AA a0)),V 8 (iv (List.length a0:Int)),V 9 (iv (w64 (x7 + 1)))],[(2,.rows 1 (List.map cS x21))],3⟩ ?_
   exact Ck (wkR [(0,some 2)] (AH _) (pc (hL 2 (AM BS _)) AB))
  refine CN ?_
  refine CM ?_
  exact BD rfl nofun (wkR [(0,some 0)] (AH _) (pc (hL 0 (AM BS _)) AB))
 intro x15
 refine CY ?_
 refine AN ?_
 refine jR ?_
 refine jG 0 1 ⟨[V 27 (.osl 0 0 (List.length x15) 1)],[(0,.rows 1 (List.map cS x15))],1⟩ ?_
 refine Bh (i:=1) rfl rfl rfl rfl (vs:=[.osl 0 0 (List.length x15) 1,bs [44]]) (by kernel_rfl) (AL (Dc qY (by kernel_rfl)) (AL rfl (Aw _))) (AJ (AE _) (AJ (AE _) Aj)) (WJ x15 [44]) (fun _=>rfl) (fun _=>rfl) ?_
 intro x22 h22
 refine jG 2 1 ⟨[V 2 (bs x22)],[],1⟩ ?_
 refine jN ?_
 refine AO ?_
 exact AP (.inr rfl) (v:=bs x22) (by kernel_rfl) rfl (AE _))
abbrev ED:List LO:=[lo 4 (.assign (.const (.bool false))) 4]
abbrev EG:List LO:=[lm 6 0 22,lo 7 (.call ⟨.builtin .len,#[.tmp 6],#[22]⟩) 3,lm 8 1 22,lo 9 (.call ⟨.builtin .len,#[.tmp 8],#[22]⟩) 3,lo 10 (.binOp .neq 3 (.tmp 7) (.tmp 9) 3) 4]
abbrev EE:List LO:=[lo 4 (.assign (.const (.bool false))) 4]
abbrev EB:List LO:=[lm 11 0 22,lo 12 (.call ⟨.builtin .len,#[.tmp 11],#[22]⟩) 3,lo 13 (.move (.const (.int .i64 0))) 3]
abbrev EK:List LO:=[lo 14 (.binOp .lss 3 (.tmp 13) (.tmp 12) 3) 0]
abbrev EF:List LO:=[lm 15 13 3,lo 5 (.assign (.tmp 15)) 3]
abbrev EO:List LO:=[lm 16 0 22,lm 17 5 3,lo 18 (.indexAddr 22 (.tmp 16) (.tmp 17)) 0,lo 19 (.load 39 (.tmp 18)) 39,lm 20 1 22,lm 21 5 3,lo 22 (.indexAddr 22 (.tmp 20) (.tmp 21)) 0,lo 23 (.load 39 (.tmp 22)) 39,lo 24 (.binOp .neq 39 (.tmp 19) (.tmp 23) 39) 4]
abbrev EL:List LO:=[lo 4 (.assign (.const (.bool false))) 4]
abbrev D5:List LO:=[lo 25 (.binOp .add 3 (.tmp 13) (.const (.int .i64 1)) 3) 3,lm 13 25 3]
abbrev D4:List LO:=[lo 4 (.assign (.const (.bool true))) 4]
abbrev CR:LC:=.seq (.reg false ED) (.seq (.seq (.reg false EG) (.cond (.tmp 10) (.seq (.reg false EE) .ret) .skip)) (.seq (.seq (.reg false EB) (.block 0 (.loop (.seq (.reg false EK) (.seq (.cond (.tmp 14) .skip (.exit 0)) (.seq (.block 1 (.seq (.reg false EF) (.seq (.reg true EO) (.cond (.tmp 24) (.seq (.reg false EL) .ret) .skip)))) (.reg false D5))))))) (.seq (.reg false D4) .ret)))
theorem EX:BE E 21 26 [.tmp 4] CR:=⟨⟨Go.Proofs.Tryz.f21,by kernel_rfl,by kernel_rfl,by kernel_rfl,by kernel_rfl,by kernel_rfl⟩,rfl,rfl⟩
noncomputable def BC (a0:(List AD)) (a1:(List AD)):Int→Option (Step (Int) ((Unit) ⊕ (Unit))):=fun x3=>(if (decide (x3 < (List.length a0:Int)))=true then Option.bind (ixl a0 x3) (fun x7=>Option.bind (ixl a1 x3) (fun x8=>(if (!((x7.Op == x8.Op) && ((x7.Ver == x8.Ver) && (x7.Star == x8.Star))))=true then some (Step.done (Sum.inl ())) else some (Step.next (w64 (x3 + 1)))))) else some (Step.done (Sum.inr ())))
noncomputable def A2 (a0:(List AD)) (a1:(List AD)):Option (Bool):=(if ((List.length a0:Int) != (List.length a1:Int))=true then some false else Option.bind (Bi (BC a0 a1) 0) (fun y=>match y with | Sum.inl _=>some false | Sum.inr _=>some true))
theorem EN (a0:(List AD)) (a1:(List AD)):Ct E 21 [.fsl 3 (List.map AA a0),.fsl 3 (List.map AA a1)] (A2 a0 a1) (fun r:Bool=>bv r):=Ad (N:=26) (L:=CR) EX rfl (Nat.le_of_ble_eq_true rfl) (by kernel_rfl) (by
 unfold A2
 refine jS ⟨[V 0 (.fsl 3 (List.map AA a0)),V 1 (.fsl 3 (List.map AA a1))],[],0⟩ ?_
 refine AT ?_
 refine jR ?_
 refine jG 0 5 ⟨[V 0 (.fsl 3 (List.map AA a0)),V 1 (.fsl 3 (List.map AA a1)),V 10 (bv ((List.length (List.map AA a0):Int) != (List.length (List.map AA a1):Int)))],[],0⟩ ?_
 simp only[List.length_map]
 refine jN ?_
 refine jIf ?_ ?_
 ·refine jS ⟨[V 4 (bv false)],[],0⟩ ?_
  refine AO ?_
  refine AZ ?_
  exact AP (.inr rfl) (v:=bv false) (by kernel_rfl) rfl (AE _)
 refine AS ?_
 refine AN ?_
 refine AT ?_
 refine jR ?_
 refine jG 0 3 ⟨[V 0 (.fsl 3 (List.map AA a0)),V 1 (.fsl 3 (List.map AA a1)),V 12 (iv (List.length (List.map AA a0):Int)),V 13 (iv 0)],[],0⟩ ?_
 simp only[List.length_map]
 refine jN ?_
 refine Ai ?_
 refine As (fun y=>match y with | Sum.inl _=>⟨[V 4 (bv false)],[],0⟩ | Sum.inr _=>⟨[],[],0⟩) (fun y=>match y with | Sum.inl _=>.ret | Sum.inr _=>(.exit 0)) (Cj (fun x3=>⟨[V 0 (.fsl 3 (List.map AA a0)),V 1 (.fsl 3 (List.map AA a1)),V 12 (iv (List.length a0:Int)),V 13 (iv x3)],[],0⟩) (wkR [] (AH _) AB) ?_) ?_
 ·intro x3
  unfold BC
  refine jS ⟨[V 0 (.fsl 3 (List.map AA a0)),V 1 (.fsl 3 (List.map AA a1)),V 12 (iv (List.length a0:Int)),V 13 (iv x3),V 14 (bv (decide (x3 < (List.length a0:Int))))],[],0⟩ ?_
  refine AT ?_
  refine jIf ?_ ?_
  ·refine AS ?_
   refine AN ?_
   refine AT ?_
   refine Ai ?_
   refine jS ⟨[V 0 (.fsl 3 (List.map AA a0)),V 1 (.fsl 3 (List.map AA a1)),V 5 (iv x3),V 12 (iv (List.length a0:Int)),V 13 (iv x3)],[],0⟩ ?_
   refine jR ?_
   refine jG 0 2 ⟨[V 0 (.fsl 3 (List.map AA a0)),V 1 (.fsl 3 (List.map AA a1)),V 5 (iv x3),V 12 (iv (List.length a0:Int)),V 13 (iv x3),V 16 (.fsl 3 (List.map AA a0)),V 17 (iv x3)],[],0⟩ ?_
   refine An (i:=2) (mo:=ixl a0 x3) rfl rfl rfl rfl (fun _ hc=>Da (c:=AA) (sz:=3) (e:=39) (kk:=.i64) (by kernel_rfl) (by kernel_rfl) (by kernel_rfl) (by kernel_rfl) hc) (fun _=>rfl) ?_
   intro x7 h7
   refine jG 3 3 ⟨[V 0 (.fsl 3 (List.map AA a0)),V 1 (.fsl 3 (List.map AA a1)),V 12 (iv (List.length a0:Int)),V 13 (iv x3),V 19 (.agg [bs x7.Op,bs x7.Ver,bv x7.Star]),V 20 (.fsl 3 (List.map AA a1)),V 21 (iv x3)],[],0⟩ ?_
   refine An (i:=6) (mo:=ixl a1 x3) rfl rfl rfl rfl (fun _ hc=>Da (c:=AA) (sz:=3) (e:=39) (kk:=.i64) (by kernel_rfl) (by kernel_rfl) (by kernel_rfl) (by kernel_rfl) hc) (fun _=>rfl) ?_
   intro x8 h8
   refine jG 7 2 ⟨[V 0 (.fsl 3 (List.map AA a0)),V 1 (.fsl 3 (List.map AA a1)),V 12 (iv (List.length a0:Int)),V 13 (iv x3),V 24 (bv (!((x7.Op == x8.Op) && ((x7.Ver == x8.Ver) && (x7.Star == x8.Star)))))],[],0⟩ ?_
   refine jN ?_
   refine jIf ?_ ?_
   ·refine jS ⟨[V 4 (bv false)],[],0⟩ ?_
    refine AO ?_
    refine Aq ?_
    refine AZ ?_
    exact BD rfl nofun (wkR [] (AH _) AB)
   refine AS ?_
   refine A8 ?_
   refine AN ?_
   refine jT ⟨[V 0 (.fsl 3 (List.map AA a0)),V 1 (.fsl 3 (List.map AA a1)),V 12 (iv (List.length a0:Int)),V 13 (iv (w64 (x3 + 1)))],[],0⟩ ?_
   exact Ck (wkR [] (AH _) AB)
  refine CN ?_
  refine CM ?_
  exact BD rfl nofun (wkR [] (AH _) AB)
 rintro (_ | _)
 ·refine Aq ?_
  refine AZ ?_
  exact AP (.inr rfl) (v:=bv false) (by kernel_rfl) rfl (AE _)
 refine CY ?_
 refine AN ?_
 refine jS ⟨[V 4 (bv true)],[],0⟩ ?_
 refine AO ?_
 exact AP (.inr rfl) (v:=bv true) (by kernel_rfl) rfl (AE _))
abbrev Uj:List LO:=[lo 2 (.assign (.const (.string ⟨#[]⟩))) 9]
abbrev Um:List LO:=[lm 6 0 22,lo 7 (.call ⟨.value (.func 20),#[.tmp 6],#[22]⟩) 9,lo 3 (.assign (.tmp 7)) 9]
abbrev Ug:List LO:=[lm 9 3 9,lo 10 (.call ⟨.value (.func 6),#[.tmp 9],#[9]⟩) 26,lm 8 10 26,lo 11 (.extract (.tmp 8) 0) 22,lo 12 (.extract (.tmp 8) 1) 25,lo 5 (.alloc 25) 0,lo 4 (.assign (.tmp 11)) 22,ln (.store 25 (.tmp 5) (.tmp 12)) 0]
abbrev T2:List LO:=[lo 13 (.fieldAddr 25 (.tmp 5) 0) 0,lo 14 (.load 23 (.tmp 13)) 23,lo 15 (.binOp .neq 23 (.tmp 14) (.const (.int .i64 0)) 23) 4,lm 16 15 4,lmg 17 4 22 16 false,lmg 18 0 22 16 false,lg 19 (.call ⟨.value (.func 21),#[.tmp 17,.tmp 18],#[22,22]⟩) 4 16 false,lg 20 (.unOp .not 4 (.tmp 19)) 4 16 false,lo 21 (.pick (.tmp 16) (.const (.bool true)) (.tmp 20)) 4]
abbrev Uv:List LO:=[lo 2 (.assign (.const (.string ⟨#[]⟩))) 9]
abbrev VG:List LO:=[lm 22 3 9,lo 2 (.assign (.tmp 22)) 9]
abbrev Nw:LC:=.seq (.reg false Uj) (.seq (.reg false Um) (.seq (.reg false Ug) (.seq (.seq (.reg false T2) (.cond (.tmp 21) (.seq (.reg false Uv) .ret) .skip)) (.seq (.reg false VG) .ret))))
theorem WF:BE E 8 23 [.tmp 2] Nw:=⟨⟨Go.Proofs.Tryz.f8,by kernel_rfl,by kernel_rfl,by kernel_rfl,by kernel_rfl,by kernel_rfl⟩,rfl,rfl⟩
noncomputable def ET (a0:(List AD)):Option (Str):=Option.bind (Ha a0) (fun x1=>Option.bind (B8 x1) (fun (x2,x3,x4)=>Option.bind (if (x3 != 0)=true then some true else Option.bind (A2 x2 a0) (fun x7=>some (!x7)):Option (Bool)) (fun x6=>(if x6=true then some [] else some x1))))
theorem Ml (a0:(List AD)):Ct E 8 [.fsl 3 (List.map AA a0)] (ET a0) (fun r:Str=>bs r):=Ad (N:=23) (L:=Nw) WF rfl (Nat.le_of_ble_eq_true rfl) (by kernel_rfl) (by
 unfold ET
 refine jS ⟨[V 0 (.fsl 3 (List.map AA a0))],[],0⟩ ?_
 refine jR ?_
 refine jG 0 1 ⟨[V 0 (.fsl 3 (List.map AA a0)),V 6 (.fsl 3 (List.map AA a0))],[],0⟩ ?_
 refine jK 1 (Xe a0) ?_
 intro x1 h1
 refine jG 2 1 ⟨[V 0 (.fsl 3 (List.map AA a0)),V 3 (bs x1)],[],0⟩ ?_
 refine jN ?_
 refine jR ?_
 refine jG 0 1 ⟨[V 0 (.fsl 3 (List.map AA a0)),V 3 (bs x1),V 9 (bs x1)],[],0⟩ ?_
 refine Am 1 [] [(0,some 0)] (fun r:List AD × Int × Int=>[(0,.rows 3 (List.map AA r.1))]) (fun r:List AD × Int × Int=>.tup [.osl 0 0 (List.length r.1) 3,.agg [iv r.2.1,iv r.2.2]]) 2 (Cn x1) AB (fun r=>(pc (.inr (hL 0 (AM Ab _))) AB)) ?_
 rintro⟨x2,x3,x4⟩ hm1
 refine jG 2 6 ⟨[V 0 (.fsl 3 (List.map AA a0)),V 3 (bs x1),V 4 (.osl 0 0 (List.length x2) 3),V 5 (pt 2 2)],[(0,.rows 3 (List.map AA x2)),W 2 2 [iv x3,iv x4]],3⟩ ?_
 refine jN ?_
 refine AT ?_
 refine jR ?_
 refine jG 0 4 ⟨[V 0 (.fsl 3 (List.map AA a0)),V 3 (bs x1),V 4 (.osl 0 0 (List.length x2) 3),V 16 (bv (x3 != 0))],[(0,.rows 3 (List.map AA x2))],3⟩ ?_
 refine Ak 4 5 (fun x6=>⟨[V 3 (bs x1),V 21 (bv x6)],[],0⟩) ?_ ?_
 ·refine jSp 16 ?_ ?_
  ·refine jG 0 5 ⟨[V 3 (bs x1),V 21 (bv true)],[],3⟩ ?_
   refine AQ rfl ?_
   exact AK rfl (wkR [] (AH _) AB)
  refine jG 0 2 ⟨[V 3 (bs x1),(16,.lit false),V 17 (.osl 0 0 (List.length x2) 3),V 18 (.fsl 3 (List.map AA a0))],[(0,.rows 3 (List.map AA x2))],3⟩ ?_
  refine Bh (i:=2) rfl rfl rfl rfl (vs:=[.osl 0 0 (List.length x2) 3,.fsl 3 (List.map AA a0)]) (by kernel_rfl) (AL (Dc DK (by kernel_rfl)) (AL rfl (Aw _))) (AJ (AE _) (AJ (AE _) Aj)) (EN x2 a0) (fun _=>rfl) (fun _=>rfl) ?_
  intro x7 h7
  refine jG 3 2 ⟨[V 3 (bs x1),V 21 (bv (!x7))],[],3⟩ ?_
  refine AQ rfl ?_
  exact AK rfl (wkR [] (AH _) AB)
 intro x6
 refine jN ?_
 refine jIf ?_ ?_
 ·refine jS ⟨[V 2 (bs [])],[],0⟩ ?_
  refine AO ?_
  refine AZ ?_
  exact AP (.inr rfl) (v:=bs []) (by kernel_rfl) rfl (AE _)
 refine AS ?_
 refine AN ?_
 refine jS ⟨[V 2 (bs x1)],[],0⟩ ?_
 refine AO ?_
 exact AP (.inr rfl) (v:=bs x1) (by kernel_rfl) rfl (AE _))
abbrev Yw:List LO:=[lo 1 (.box 39 (.tmp 0)) 0,lo 2 (.assign (.const (.bool false))) 4]
abbrev Z1:List LO:=[lo 3 (.load 39 (.tmp 1)) 39,lo 4 (.buildSlice 22 1 #[(0,.tmp 3)]) 22,lo 5 (.call ⟨.value (.func 8),#[.tmp 4],#[22]⟩) 9,lo 6 (.binOp .neq 9 (.tmp 5) (.const (.string ⟨#[]⟩)) 9) 4,lo 2 (.assign (.tmp 6)) 4]
abbrev Sd:LC:=.seq (.reg false Yw) (.seq (.reg true Z1) .ret)
theorem cM:BE E 32 7 [.tmp 2] Sd:=⟨⟨Go.Proofs.Tryz.f32,by kernel_rfl,by kernel_rfl,by kernel_rfl,by kernel_rfl,by kernel_rfl⟩,rfl,rfl⟩
noncomputable def G4 (a0:AD):Option (Bool):=Option.bind (ET [a0]) (fun x1=>some (!(x1 == [])))
theorem Qy (a0:AD):Ct E 32 [.agg [bs a0.Op,bs a0.Ver,bv a0.Star]] (G4 a0) (fun r:Bool=>bv r):=Ad (N:=7) (L:=Sd) cM rfl (Nat.le_of_ble_eq_true rfl) (by kernel_rfl) (by
 unfold G4
 refine jS ⟨[V 1 (pt 0 3)],[W 0 3 [bs a0.Op,bs a0.Ver,bv a0.Star]],1⟩ ?_
 refine jR ?_
 refine jG 0 2 ⟨[V 4 (.fsl 3 (List.map AA [a0]))],[],1⟩ ?_
 refine jK 2 (Ml [a0]) ?_
 intro x1 h1
 refine jG 3 2 ⟨[V 2 (bv (!(x1 == [])))],[],1⟩ ?_
 refine jN ?_
 refine AO ?_
 exact AP (.inr rfl) (v:=bv (!(x1 == []))) (by kernel_rfl) rfl (AE _))
abbrev Wn:List LO:=[lo 0 (.assign (.const (.map none))) 64]
abbrev WO:List LO:=[lo 1 (.makeMap 64 none) 64,ln (.insert 64 (.tmp 1) (.const (.string ⟨#[61,61]⟩)) (.func 57)) 0,ln (.insert 64 (.tmp 1) (.const (.string ⟨#[33,61]⟩)) (.func 58)) 0,ln (.insert 64 (.tmp 1) (.const (.string ⟨#[126,61]⟩)) (.func 59)) 0,ln (.insert 64 (.tmp 1) (.const (.string ⟨#[60,61]⟩)) (.func 62)) 0,ln (.insert 64 (.tmp 1) (.const (.string ⟨#[62,61]⟩)) (.func 63)) 0,ln (.insert 64 (.tmp 1) (.const (.string ⟨#[60]⟩)) (.func 64)) 0,ln (.insert 64 (.tmp 1) (.const (.string ⟨#[62]⟩)) (.func 67)) 0,ln (.insert 64 (.tmp 1) (.const (.string ⟨#[61,61,61]⟩)) (.func 68)) 0,lm 2 1 64,lo 0 (.assign (.tmp 2)) 64]
abbrev O9:LC:=.seq (.reg false Wn) (.seq (.reg false WO) .ret)
theorem Xw:BE E 33 3 [.tmp 0] O9:=⟨⟨Go.Proofs.Tryz.f33,by kernel_rfl,by kernel_rfl,by kernel_rfl,by kernel_rfl,by kernel_rfl⟩,rfl,rfl⟩
noncomputable def Jc:Option (Unit):=some ()
theorem WP:Ct E 33 [] (Jc) (fun r:Unit=>.fmp [(.string ⟨#[61,61]⟩,.func (.func 57) #[] #[]),(.string ⟨#[33,61]⟩,.func (.func 58) #[] #[]),(.string ⟨#[126,61]⟩,.func (.func 59) #[] #[]),(.string ⟨#[60,61]⟩,.func (.func 62) #[] #[]),(.string ⟨#[62,61]⟩,.func (.func 63) #[] #[]),(.string ⟨#[60]⟩,.func (.func 64) #[] #[]),(.string ⟨#[62]⟩,.func (.func 67) #[] #[]),(.string ⟨#[61,61,61]⟩,.func (.func 68) #[] #[])]):=Ad (N:=3) (L:=O9) Xw rfl (Nat.le_of_ble_eq_true rfl) (by kernel_rfl) (by
 unfold Jc
 refine jS ⟨[],[],0⟩ ?_
 refine jR ?_
 refine jG 0 1 ⟨[V 1 (.mp 0)],[(0,.map [])],1⟩ ?_
 refine Nq (i:=1) [1] [0] (v:=.s undef) (us:=[(0,some (.map [(.string ⟨#[61,61]⟩,.fn 57 [])]))]) (st1:=⟨[V 1 (.mp 0)],[(0,.map [(.string ⟨#[61,61]⟩,.fn 57 [])])],1⟩) rfl rfl rfl rfl (by kernel_rfl) (by kernel_rfl) ?_
 refine Nq (i:=2) [1] [0] (v:=.s undef) (us:=[(0,some (.map [(.string ⟨#[61,61]⟩,.fn 57 []),(.string ⟨#[33,61]⟩,.fn 58 [])]))]) (st1:=⟨[V 1 (.mp 0)],[(0,.map [(.string ⟨#[61,61]⟩,.fn 57 []),(.string ⟨#[33,61]⟩,.fn 58 [])])],1⟩) rfl rfl rfl rfl (by kernel_rfl) (by kernel_rfl) ?_
 refine Nq (i:=3) [1] [0] (v:=.s undef) (us:=[(0,some (.map [(.string ⟨#[61,61]⟩,.fn 57 []),(.string ⟨#[33,61]⟩,.fn 58 []),(.string ⟨#[126,61]⟩,.fn 59 [])]))]) (st1:=⟨[V 1 (.mp 0)],[(0,.map [(.string ⟨#[61,61]⟩,.fn 57 []),(.string ⟨#[33,61]⟩,.fn 58 []),(.string ⟨#[126,61]⟩,.fn 59 [])])],1⟩) rfl rfl rfl rfl (by kernel_rfl) (by kernel_rfl) ?_
 refine Nq (i:=4) [1] [0] (v:=.s undef) (us:=[(0,some (.map [(.string ⟨#[61,61]⟩,.fn 57 []),(.string ⟨#[33,61]⟩,.fn 58 []),(.string ⟨#[126,61]⟩,.fn 59 []),(.string ⟨#[60,61]⟩,.fn 62 [])]))]) (st1:=⟨[V 1 (.mp 0)],[(0,.map [(.string ⟨#[61,61]⟩,.fn 57 []),(.string ⟨#[33,61]⟩,.fn 58 []),(.string ⟨#[126,61]⟩,.fn 59 []),(.string ⟨#[60,61]⟩,.fn 62 [])])],1⟩) rfl rfl rfl rfl (by kernel_rfl) (by kernel_rfl) ?_
 refine Nq (i:=5) [1] [0] (v:=.s undef) (us:=[(0,some (.map [(.string ⟨#[61,61]⟩,.fn 57 []),(.string ⟨#[33,61]⟩,.fn 58 []),(.string ⟨#[126,61]⟩,.fn 59 []),(.string ⟨#[60,61]⟩,.fn 62 []),(.string ⟨#[62,61]⟩,.fn 63 [])]))]) (st1:=⟨[V 1 (.mp 0)],[(0,.map [(.string ⟨#[61,61]⟩,.fn 57 []),(.string ⟨#[33,61]⟩,.fn 58 []),(.string ⟨#[126,61]⟩,.fn 59 []),(.string ⟨#[60,61]⟩,.fn 62 []),(.string ⟨#[62,61]⟩,.fn 63 [])])],1⟩) rfl rfl rfl rfl (by kernel_rfl) (by kernel_rfl) ?_
 refine Nq (i:=6) [1] [0] (v:=.s undef) (us:=[(0,some (.map [(.string ⟨#[61,61]⟩,.fn 57 []),(.string ⟨#[33,61]⟩,.fn 58 []),(.string ⟨#[126,61]⟩,.fn 59 []),(.string ⟨#[60,61]⟩,.fn 62 []),(.string ⟨#[62,61]⟩,.fn 63 []),(.string ⟨#[60]⟩,.fn 64 [])]))]) (st1:=⟨[V 1 (.mp 0)],[(0,.map [(.string ⟨#[61,61]⟩,.fn 57 []),(.string ⟨#[33,61]⟩,.fn 58 []),(.string ⟨#[126,61]⟩,.fn 59 []),(.string ⟨#[60,61]⟩,.fn 62 []),(.string ⟨#[62,61]⟩,.fn 63 []),(.string ⟨#[60]⟩,.fn 64 [])])],1⟩) rfl rfl rfl rfl (by kernel_rfl) (by kernel_rfl) ?_
 refine Nq (i:=7) [1] [0] (v:=.s undef) (us:=[(0,some (.map [(.string ⟨#[61,61]⟩,.fn 57 []),(.string ⟨#[33,61]⟩,.fn 58 []),(.string ⟨#[126,61]⟩,.fn 59 []),(.string ⟨#[60,61]⟩,.fn 62 []),(.string ⟨#[62,61]⟩,.fn 63 []),(.string ⟨#[60]⟩,.fn 64 []),(.string ⟨#[62]⟩,.fn 67 [])]))]) (st1:=⟨[V 1 (.mp 0)],[(0,.map [(.string ⟨#[61,61]⟩,.fn 57 []),(.string ⟨#[33,61]⟩,.fn 58 []),(.string ⟨#[126,61]⟩,.fn 59 []),(.string ⟨#[60,61]⟩,.fn 62 []),(.string ⟨#[62,61]⟩,.fn 63 []),(.string ⟨#[60]⟩,.fn 64 []),(.string ⟨#[62]⟩,.fn 67 [])])],1⟩) rfl rfl rfl rfl (by kernel_rfl) (by kernel_rfl) ?_
 refine Nq (i:=8) [1] [0] (v:=.s undef) (us:=[(0,some (.map [(.string ⟨#[61,61]⟩,.fn 57 []),(.string ⟨#[33,61]⟩,.fn 58 []),(.string ⟨#[126,61]⟩,.fn 59 []),(.string ⟨#[60,61]⟩,.fn 62 []),(.string ⟨#[62,61]⟩,.fn 63 []),(.string ⟨#[60]⟩,.fn 64 []),(.string ⟨#[62]⟩,.fn 67 []),(.string ⟨#[61,61,61]⟩,.fn 68 [])]))]) (st1:=⟨[V 1 (.mp 0)],[(0,.map [(.string ⟨#[61,61]⟩,.fn 57 []),(.string ⟨#[33,61]⟩,.fn 58 []),(.string ⟨#[126,61]⟩,.fn 59 []),(.string ⟨#[60,61]⟩,.fn 62 []),(.string ⟨#[62,61]⟩,.fn 63 []),(.string ⟨#[60]⟩,.fn 64 []),(.string ⟨#[62]⟩,.fn 67 []),(.string ⟨#[61,61,61]⟩,.fn 68 [])])],1⟩) rfl rfl rfl rfl (by kernel_rfl) (by kernel_rfl) ?_
 refine jG 9 2 ⟨[V 0 (.mp 0)],[(0,.map [(.string ⟨#[61,61]⟩,.fn 57 []),(.string ⟨#[33,61]⟩,.fn 58 []),(.string ⟨#[126,61]⟩,.fn 59 []),(.string ⟨#[60,61]⟩,.fn 62 []),(.string ⟨#[62,61]⟩,.fn 63 []),(.string ⟨#[60]⟩,.fn 64 []),(.string ⟨#[62]⟩,.fn 67 []),(.string ⟨#[61,61,61]⟩,.fn 68 [])])],1⟩ ?_
 refine jN ?_
 refine AO ?_
 exact AP (.inr rfl) (v:=.mp 0) (u:=.fmp [(.string ⟨#[61,61]⟩,.func (.func 57) #[] #[]),(.string ⟨#[33,61]⟩,.func (.func 58) #[] #[]),(.string ⟨#[126,61]⟩,.func (.func 59) #[] #[]),(.string ⟨#[60,61]⟩,.func (.func 62) #[] #[]),(.string ⟨#[62,61]⟩,.func (.func 63) #[] #[]),(.string ⟨#[60]⟩,.func (.func 64) #[] #[]),(.string ⟨#[62]⟩,.func (.func 67) #[] #[]),(.string ⟨#[61,61,61]⟩,.func (.func 68) #[] #[])]) (q:=true) (by kernel_rfl) (by kernel_rfl) (AE _))
abbrev U2:List LO:=[lo 3 (.box 34 (.tmp 0)) 0,lo 6 (.assign (.const (.bool false))) 4]
abbrev U3:List LO:=[lo 10 (.fieldAddr 34 (.tmp 3) 0) 0,lo 11 (.load 9 (.tmp 10)) 9,lm 12 1 9,lo 13 (.binOp .neq 9 (.tmp 11) (.tmp 12) 9) 4]
abbrev US:List LO:=[lo 6 (.assign (.const (.bool false))) 4]
abbrev U8:List LO:=[lm 14 2 32,lo 15 (.call ⟨.builtin .len,#[.tmp 14],#[32]⟩) 3,lo 16 (.move (.const (.int .i64 0))) 3]
abbrev UB:List LO:=[lo 17 (.binOp .lss 3 (.tmp 16) (.tmp 15) 3) 0]
abbrev UK:List LO:=[lm 18 16 3,lo 19 (.indexAddr 32 (.tmp 14) (.tmp 16)) 0,lo 20 (.load 9 (.tmp 19)) 9,lo 7 (.assign (.tmp 18)) 3,lo 8 (.assign (.tmp 20)) 9]
abbrev T7:List LO:=[lo 9 (.assign (.const (.string ⟨#[48]⟩))) 9]
abbrev VL:List LO:=[lm 21 7 3,lo 22 (.fieldAddr 34 (.tmp 3) 1) 0,lo 23 (.load 32 (.tmp 22)) 32,lo 24 (.call ⟨.builtin .len,#[.tmp 23],#[32]⟩) 3,lo 25 (.binOp .lss 3 (.tmp 21) (.tmp 24) 3) 4]
abbrev VH:List LO:=[lo 26 (.fieldAddr 34 (.tmp 3) 1) 0,lo 27 (.load 32 (.tmp 26)) 32,lm 28 7 3,lo 29 (.indexAddr 32 (.tmp 27) (.tmp 28)) 0,lo 30 (.load 9 (.tmp 29)) 9,lo 9 (.assign (.tmp 30)) 9]
abbrev To:List LO:=[lm 31 9 9,lm 32 8 9,lo 33 (.binOp .neq 9 (.tmp 31) (.tmp 32) 9) 4]
abbrev TY:List LO:=[lo 6 (.assign (.const (.bool false))) 4]
abbrev Tb:List LO:=[lo 34 (.binOp .add 3 (.tmp 16) (.const (.int .i64 1)) 3) 3,lm 16 34 3]
abbrev TO:List LO:=[lo 6 (.assign (.const (.bool true))) 4]
abbrev Nt:LC:=.seq (.reg false U2) (.seq (.seq (.reg false U3) (.cond (.tmp 13) (.seq (.reg false US) .ret) .skip)) (.seq (.seq (.reg false U8) (.block 0 (.loop (.seq (.reg false UB) (.seq (.cond (.tmp 17) .skip (.exit 0)) (.seq (.block 1 (.seq (.reg false UK) (.seq (.reg false T7) (.seq (.seq (.reg false VL) (.cond (.tmp 25) (.reg false VH) .skip)) (.seq (.reg false To) (.cond (.tmp 33) (.seq (.reg false TY) .ret) .skip)))))) (.reg false Tb))))))) (.seq (.reg false TO) .ret)))
theorem Wp:BE E 61 35 [.tmp 6] Nt:=⟨⟨Go.Proofs.Tryz.f61,by kernel_rfl,by kernel_rfl,by kernel_rfl,by kernel_rfl,by kernel_rfl⟩,rfl,rfl⟩
noncomputable def FE (a0:AF) (a2:(List Str)):Int→Option (Step (Int) ((Unit) ⊕ (Unit))):=fun x4=>(if (decide (x4 < (List.length a2:Int)))=true then Option.bind (ixl a2 x4) (fun x9=>Option.bind ((if (decide (x4 < (List.length a0.Release:Int)))=true then Option.bind (ixl a0.Release x4) (fun x12=>some x12) else some [48]):Option (Str)) (fun x11=>(if (!(x11 == x9))=true then some (Step.done (Sum.inl ())) else some (Step.next (w64 (x4 + 1)))))) else some (Step.done (Sum.inr ())))
noncomputable def ES (a0:AF) (a1:Str) (a2:(List Str)):Option (Bool):=(if (!(a0.Epoch == a1))=true then some false else Option.bind (Bi (FE a0 a2) 0) (fun y=>match y with | Sum.inl _=>some false | Sum.inr _=>some true))
theorem Mh (a0:AF) (a1:Str) (a2:(List Str)):Ct E 61 [.agg [bs a0.Epoch,.fsl 1 (List.map cS a0.Release),.s (.int .u8 a0.Pre),bs a0.PreNum,bv a0.Post,bs a0.PostNum,bv a0.Dev,bs a0.DevNum,.fsl 1 (List.map cS a0.Local)],bs a1,.fsl 1 (List.map cS a2)] (ES a0 a1 a2) (fun r:Bool=>bv r):=Ad (N:=35) (L:=Nt) Wp rfl (Nat.le_of_ble_eq_true rfl) (by kernel_rfl) (by
 unfold ES
 refine jS ⟨[V 1 (bs a1),V 2 (.fsl 1 (List.map cS a2)),V 3 (pt 0 9)],[W 0 9 [bs a0.Epoch,.fsl 1 (List.map cS a0.Release),.s (.int .u8 a0.Pre),bs a0.PreNum,bv a0.Post,bs a0.PostNum,bv a0.Dev,bs a0.DevNum,.fsl 1 (List.map cS a0.Local)]],1⟩ ?_
 refine AT ?_
 refine jS ⟨[V 2 (.fsl 1 (List.map cS a2)),V 3 (pt 0 9),V 13 (bv (!(a0.Epoch == a1)))],[W 0 9 [bs a0.Epoch,.fsl 1 (List.map cS a0.Release),.s (.int .u8 a0.Pre),bs a0.PreNum,bv a0.Post,bs a0.PostNum,bv a0.Dev,bs a0.DevNum,.fsl 1 (List.map cS a0.Local)]],1⟩ ?_
 refine jIf ?_ ?_
 ·refine jS ⟨[V 6 (bv false)],[],1⟩ ?_
  refine AO ?_
  refine AZ ?_
  exact AP (.inr rfl) (v:=bv false) (by kernel_rfl) rfl (AE _)
 refine AS ?_
 refine AN ?_
 refine AT ?_
 refine jR ?_
 refine jG 0 3 ⟨[V 3 (pt 0 9),V 14 (.fsl 1 (List.map cS a2)),V 15 (iv (List.length (List.map cS a2):Int)),V 16 (iv 0)],[W 0 9 [bs a0.Epoch,.fsl 1 (List.map cS a0.Release),.s (.int .u8 a0.Pre),bs a0.PreNum,bv a0.Post,bs a0.PostNum,bv a0.Dev,bs a0.DevNum,.fsl 1 (List.map cS a0.Local)]],1⟩ ?_
 simp only[List.length_map]
 refine jN ?_
 refine Ai ?_
 refine As (fun y=>match y with | Sum.inl _=>⟨[V 6 (bv false)],[],0⟩ | Sum.inr _=>⟨[],[],0⟩) (fun y=>match y with | Sum.inl _=>.ret | Sum.inr _=>(.exit 0)) (Cj (fun x4=>⟨[V 3 (pt 0 9),V 14 (.fsl 1 (List.map cS a2)),V 15 (iv (List.length a2:Int)),V 16 (iv x4)],[W 0 9 [bs a0.Epoch,.fsl 1 (List.map cS a0.Release),.s (.int .u8 a0.Pre),bs a0.PreNum,bv a0.Post,bs a0.PostNum,bv a0.Dev,bs a0.DevNum,.fsl 1 (List.map cS a0.Local)]],1⟩) (wkR [(0,some 0)] (AH _) (pc (hC 0) AB)) ?_) ?_
 ·intro x4
  unfold FE
  refine jS ⟨[V 3 (pt 0 9),V 14 (.fsl 1 (List.map cS a2)),V 15 (iv (List.length a2:Int)),V 16 (iv x4),V 17 (bv (decide (x4 < (List.length a2:Int))))],[W 0 9 [bs a0.Epoch,.fsl 1 (List.map cS a0.Release),.s (.int .u8 a0.Pre),bs a0.PreNum,bv a0.Post,bs a0.PostNum,bv a0.Dev,bs a0.DevNum,.fsl 1 (List.map cS a0.Local)]],1⟩ ?_
  refine AT ?_
  refine jIf ?_ ?_
  ·refine AS ?_
   refine AN ?_
   refine AT ?_
   refine Ai ?_
   refine jR ?_
   refine jG 0 1 ⟨[V 3 (pt 0 9),V 14 (.fsl 1 (List.map cS a2)),V 15 (iv (List.length a2:Int)),V 16 (iv x4),V 18 (iv x4)],[W 0 9 [bs a0.Epoch,.fsl 1 (List.map cS a0.Release),.s (.int .u8 a0.Pre),bs a0.PreNum,bv a0.Post,bs a0.PostNum,bv a0.Dev,bs a0.DevNum,.fsl 1 (List.map cS a0.Local)]],1⟩ ?_
   refine An (i:=1) (mo:=ixl a2 x4) rfl rfl rfl rfl (fun _ hc=>Da (c:=cS) (sz:=1) (e:=9) (kk:=.i64) (by kernel_rfl) (by kernel_rfl) (by kernel_rfl) (by kernel_rfl) hc) (fun _=>rfl) ?_
   intro x9 h9
   refine jG 2 3 ⟨[V 3 (pt 0 9),V 7 (iv x4),V 8 (bs x9),V 14 (.fsl 1 (List.map cS a2)),V 15 (iv (List.length a2:Int)),V 16 (iv x4)],[W 0 9 [bs a0.Epoch,.fsl 1 (List.map cS a0.Release),.s (.int .u8 a0.Pre),bs a0.PreNum,bv a0.Post,bs a0.PostNum,bv a0.Dev,bs a0.DevNum,.fsl 1 (List.map cS a0.Local)]],1⟩ ?_
   refine jN ?_
   refine jS ⟨[V 3 (pt 0 9),V 7 (iv x4),V 8 (bs x9),V 9 (bs [48]),V 14 (.fsl 1 (List.map cS a2)),V 15 (iv (List.length a2:Int)),V 16 (iv x4)],[W 0 9 [bs a0.Epoch,.fsl 1 (List.map cS a0.Release),.s (.int .u8 a0.Pre),bs a0.PreNum,bv a0.Post,bs a0.PostNum,bv a0.Dev,bs a0.DevNum,.fsl 1 (List.map cS a0.Local)]],1⟩ ?_
   refine AT ?_
   refine As (fun x11=>⟨[V 3 (pt 0 9),V 8 (bs x9),V 9 (bs x11),V 14 (.fsl 1 (List.map cS a2)),V 15 (iv (List.length a2:Int)),V 16 (iv x4)],[W 0 9 [bs a0.Epoch,.fsl 1 (List.map cS a0.Release),.s (.int .u8 a0.Pre),bs a0.PreNum,bv a0.Post,bs a0.PostNum,bv a0.Dev,bs a0.DevNum,.fsl 1 (List.map cS a0.Local)]],1⟩) (fun x11=>.normal) ?_ ?_
   ·refine jR ?_
    refine jG 0 5 ⟨[V 3 (pt 0 9),V 7 (iv x4),V 8 (bs x9),V 9 (bs [48]),V 14 (.fsl 1 (List.map cS a2)),V 15 (iv (List.length a2:Int)),V 16 (iv x4),V 25 (bv (decide (x4 < (List.length (List.map cS a0.Release):Int))))],[W 0 9 [bs a0.Epoch,.fsl 1 (List.map cS a0.Release),.s (.int .u8 a0.Pre),bs a0.PreNum,bv a0.Post,bs a0.PostNum,bv a0.Dev,bs a0.DevNum,.fsl 1 (List.map cS a0.Local)]],1⟩ ?_
    simp only[List.length_map]
    refine jN ?_
    refine jIf ?_ ?_
    ·refine CA ?_
     refine jG 0 3 ⟨[V 3 (pt 0 9),V 8 (bs x9),V 14 (.fsl 1 (List.map cS a2)),V 15 (iv (List.length a2:Int)),V 16 (iv x4),V 27 (.fsl 1 (List.map cS a0.Release)),V 28 (iv x4)],[W 0 9 [bs a0.Epoch,.fsl 1 (List.map cS a0.Release),.s (.int .u8 a0.Pre),bs a0.PreNum,bv a0.Post,bs a0.PostNum,bv a0.Dev,bs a0.DevNum,.fsl 1 (List.map cS a0.Local)]],1⟩ ?_
     refine An (i:=3) (mo:=ixl a0.Release x4) rfl rfl rfl rfl (fun _ hc=>Da (c:=cS) (sz:=1) (e:=9) (kk:=.i64) (by kernel_rfl) (by kernel_rfl) (by kernel_rfl) (by kernel_rfl) hc) (fun _=>rfl) ?_
     intro x12 h12
     refine jG 4 2 ⟨[V 3 (pt 0 9),V 8 (bs x9),V 9 (bs x12),V 14 (.fsl 1 (List.map cS a2)),V 15 (iv (List.length a2:Int)),V 16 (iv x4)],[W 0 9 [bs a0.Epoch,.fsl 1 (List.map cS a0.Release),.s (.int .u8 a0.Pre),bs a0.PreNum,bv a0.Post,bs a0.PostNum,bv a0.Dev,bs a0.DevNum,.fsl 1 (List.map cS a0.Local)]],1⟩ ?_
     refine AQ rfl ?_
     exact AK rfl (wkR [(0,some 0)] (AH _) (pc (hC 0) AB))
    refine AS ?_
    exact AK rfl (wkR [(0,some 0)] (AH _) (pc (hC 0) AB))
   intro x11
   refine AN ?_
   refine jS ⟨[V 3 (pt 0 9),V 14 (.fsl 1 (List.map cS a2)),V 15 (iv (List.length a2:Int)),V 16 (iv x4),V 33 (bv (!(x11 == x9)))],[W 0 9 [bs a0.Epoch,.fsl 1 (List.map cS a0.Release),.s (.int .u8 a0.Pre),bs a0.PreNum,bv a0.Post,bs a0.PostNum,bv a0.Dev,bs a0.DevNum,.fsl 1 (List.map cS a0.Local)]],1⟩ ?_
   refine jIf ?_ ?_
   ·refine jS ⟨[V 6 (bv false)],[],1⟩ ?_
    refine AO ?_
    refine Aq ?_
    refine AZ ?_
    exact BD rfl nofun (wkR [] (AH _) AB)
   refine AS ?_
   refine A8 ?_
   refine AN ?_
   refine jT ⟨[V 3 (pt 0 9),V 14 (.fsl 1 (List.map cS a2)),V 15 (iv (List.length a2:Int)),V 16 (iv (w64 (x4 + 1)))],[W 0 9 [bs a0.Epoch,.fsl 1 (List.map cS a0.Release),.s (.int .u8 a0.Pre),bs a0.PreNum,bv a0.Post,bs a0.PostNum,bv a0.Dev,bs a0.DevNum,.fsl 1 (List.map cS a0.Local)]],1⟩ ?_
   exact Ck (wkR [(0,some 0)] (AH _) (pc (hC 0) AB))
  refine CN ?_
  refine CM ?_
  exact BD rfl nofun (wkR [] (AH _) AB)
 rintro (_ | _)
 ·refine Aq ?_
  refine AZ ?_
  exact AP (.inr rfl) (v:=bv false) (by kernel_rfl) rfl (AE _)
 refine CY ?_
 refine AN ?_
 refine jS ⟨[V 6 (bv true)],[],0⟩ ?_
 refine AO ?_
 exact AP (.inr rfl) (v:=bv true) (by kernel_rfl) rfl (AE _))
abbrev OU:List LO:=[lo 1 (.box 67 (.tmp 0)) 0,lo 2 (.assign (.const (.bool false))) 4]
abbrev OB:List LO:=[lo 4 (.fieldAddr 67 (.tmp 1) 0) 0,lo 5 (.fieldAddr 39 (.tmp 4) 2) 0,lo 6 (.load 4 (.tmp 5)) 4]
abbrev N3:List LO:=[lo 7 (.fieldAddr 67 (.tmp 1) 2) 0,lo 8 (.load 34 (.tmp 7)) 34,lo 9 (.fieldAddr 67 (.tmp 1) 3) 0,lo 10 (.fieldAddr 34 (.tmp 9) 0) 0,lo 11 (.load 9 (.tmp 10)) 9,lo 12 (.fieldAddr 67 (.tmp 1) 3) 0,lo 13 (.fieldAddr 34 (.tmp 12) 1) 0,lo 14 (.load 32 (.tmp 13)) 32,lo 15 (.call ⟨.value (.func 61),#[.tmp 8,.tmp 11,.tmp 14],#[34,9,32]⟩) 4,lo 2 (.assign (.tmp 15)) 4]
abbrev OD:List LO:=[lo 16 (.fieldAddr 67 (.tmp 1) 2) 0,lo 17 (.load 34 (.tmp 16)) 34,lo 3 (.alloc 34) 0,ln (.store 34 (.tmp 3) (.tmp 17)) 0]
abbrev OQ:List LO:=[lo 18 (.fieldAddr 67 (.tmp 1) 3) 0,lo 19 (.fieldAddr 34 (.tmp 18) 8) 0,lo 20 (.load 32 (.tmp 19)) 32,lo 21 (.call ⟨.builtin .len,#[.tmp 20],#[32]⟩) 3,lo 22 (.binOp .eql 3 (.tmp 21) (.const (.int .i64 0)) 3) 4]
abbrev OC:List LO:=[lo 23 (.load 34 (.tmp 3)) 34,lo 24 (.call ⟨.value (.func 87),#[.tmp 23],#[34]⟩) 34,ln (.store 34 (.tmp 3) (.tmp 24)) 0]
abbrev N2:List LO:=[lo 25 (.load 34 (.tmp 3)) 34,lo 26 (.fieldAddr 67 (.tmp 1) 3) 0,lo 27 (.load 34 (.tmp 26)) 34,lo 28 (.call ⟨.value (.func 65),#[.tmp 25,.tmp 27],#[34,34]⟩) 3,lo 29 (.binOp .eql 3 (.tmp 28) (.const (.int .i64 0)) 3) 4,lo 2 (.assign (.tmp 29)) 4]
abbrev Hq:LC:=.seq (.reg false OU) (.seq (.seq (.reg false OB) (.cond (.tmp 6) (.seq (.reg false N3) .ret) .skip)) (.seq (.reg false OD) (.seq (.seq (.reg false OQ) (.cond (.tmp 22) (.reg false OC) .skip)) (.seq (.reg false N2) .ret))))
theorem PM:BE E 57 30 [.tmp 2] Hq:=⟨⟨Go.Proofs.Tryz.f57,by kernel_rfl,by kernel_rfl,by kernel_rfl,by kernel_rfl,by kernel_rfl⟩,rfl,rfl⟩
noncomputable def CU (a0:AR):Option (Bool):=(if a0.c.Star=true then Option.bind (ES (AF.mk a0.v.Epoch a0.v.Release a0.v.Pre a0.v.PreNum a0.v.Post a0.v.PostNum a0.v.Dev a0.v.DevNum a0.v.Local) a0.w.Epoch a0.w.Release) (fun x1=>some x1) else Option.bind ((if ((List.length a0.w.Local:Int) == 0)=true then Option.bind (G5 (AF.mk a0.v.Epoch a0.v.Release a0.v.Pre a0.v.PreNum a0.v.Post a0.v.PostNum a0.v.Dev a0.v.DevNum a0.v.Local)) (fun x12=>some (x12.Epoch,x12.Release,x12.Pre,x12.PreNum,x12.Post,x12.PostNum,x12.Dev,x12.DevNum,x12.Local)) else some (a0.v.Epoch,a0.v.Release,a0.v.Pre,a0.v.PreNum,a0.v.Post,a0.v.PostNum,a0.v.Dev,a0.v.DevNum,a0.v.Local)):Option (Str × List Str × Int × Str × Bool × Str × Bool × Str × List Str)) (fun (x3,x4,x5,x6,x7,x8,x9,x10,x11)=>Option.bind (EU (AF.mk x3 x4 x5 x6 x7 x8 x9 x10 x11) (AF.mk a0.w.Epoch a0.w.Release a0.w.Pre a0.w.PreNum a0.w.Post a0.w.PostNum a0.w.Dev a0.w.DevNum a0.w.Local)) (fun x13=>some (x13 == 0))))
theorem Gm (a0:AR):Ct E 57 [.agg [bs a0.c.Op,bs a0.c.Ver,bv a0.c.Star,bs a0.text,bs a0.v.Epoch,.fsl 1 (List.map cS a0.v.Release),.s (.int .u8 a0.v.Pre),bs a0.v.PreNum,bv a0.v.Post,bs a0.v.PostNum,bv a0.v.Dev,bs a0.v.DevNum,.fsl 1 (List.map cS a0.v.Local),bs a0.w.Epoch,.fsl 1 (List.map cS a0.w.Release),.s (.int .u8 a0.w.Pre),bs a0.w.PreNum,bv a0.w.Post,bs a0.w.PostNum,bv a0.w.Dev,bs a0.w.DevNum,.fsl 1 (List.map cS a0.w.Local)]] (CU a0) (fun r:Bool=>bv r):=Ad (N:=30) (L:=Hq) PM rfl (Nat.le_of_ble_eq_true rfl) (by kernel_rfl) (by
 unfold CU
 refine jS ⟨[V 1 (pt 0 22)],[W 0 22 [bs a0.c.Op,bs a0.c.Ver,bv a0.c.Star,bs a0.text,bs a0.v.Epoch,.fsl 1 (List.map cS a0.v.Release),.s (.int .u8 a0.v.Pre),bs a0.v.PreNum,bv a0.v.Post,bs a0.v.PostNum,bv a0.v.Dev,bs a0.v.DevNum,.fsl 1 (List.map cS a0.v.Local),bs a0.w.Epoch,.fsl 1 (List.map cS a0.w.Release),.s (.int .u8 a0.w.Pre),bs a0.w.PreNum,bv a0.w.Post,bs a0.w.PostNum,bv a0.w.Dev,bs a0.w.DevNum,.fsl 1 (List.map cS a0.w.Local)]],1⟩ ?_
 refine AT ?_
 refine jS ⟨[V 1 (pt 0 22),V 6 (bv a0.c.Star)],[W 0 22 [bs a0.c.Op,bs a0.c.Ver,bv a0.c.Star,bs a0.text,bs a0.v.Epoch,.fsl 1 (List.map cS a0.v.Release),.s (.int .u8 a0.v.Pre),bs a0.v.PreNum,bv a0.v.Post,bs a0.v.PostNum,bv a0.v.Dev,bs a0.v.DevNum,.fsl 1 (List.map cS a0.v.Local),bs a0.w.Epoch,.fsl 1 (List.map cS a0.w.Release),.s (.int .u8 a0.w.Pre),bs a0.w.PreNum,bv a0.w.Post,bs a0.w.PostNum,bv a0.w.Dev,bs a0.w.DevNum,.fsl 1 (List.map cS a0.w.Local)]],1⟩ ?_
 refine jIf ?_ ?_
 ·refine jR ?_
  refine jG 0 8 ⟨[V 8 (.agg [bs a0.v.Epoch,.fsl 1 (List.map cS a0.v.Release),.s (.int .u8 a0.v.Pre),bs a0.v.PreNum,bv a0.v.Post,bs a0.v.PostNum,bv a0.v.Dev,bs a0.v.DevNum,.fsl 1 (List.map cS a0.v.Local)]),V 11 (bs a0.w.Epoch),V 14 (.fsl 1 (List.map cS a0.w.Release))],[],1⟩ ?_
  refine jK 8 (Mh (AF.mk a0.v.Epoch a0.v.Release a0.v.Pre a0.v.PreNum a0.v.Post a0.v.PostNum a0.v.Dev a0.v.DevNum a0.v.Local) a0.w.Epoch a0.w.Release) ?_
  intro x1 h1
  refine jG 9 1 ⟨[V 2 (bv x1)],[],1⟩ ?_
  refine jN ?_
  refine AO ?_
  refine AZ ?_
  exact AP (.inr rfl) (v:=bv x1) (by kernel_rfl) rfl (AE _)
 refine AS ?_
 refine AN ?_
 refine jS ⟨[V 1 (pt 0 22),V 3 (pt 1 9)],[W 0 22 [bs a0.c.Op,bs a0.c.Ver,bv a0.c.Star,bs a0.text,bs a0.v.Epoch,.fsl 1 (List.map cS a0.v.Release),.s (.int .u8 a0.v.Pre),bs a0.v.PreNum,bv a0.v.Post,bs a0.v.PostNum,bv a0.v.Dev,bs a0.v.DevNum,.fsl 1 (List.map cS a0.v.Local),bs a0.w.Epoch,.fsl 1 (List.map cS a0.w.Release),.s (.int .u8 a0.w.Pre),bs a0.w.PreNum,bv a0.w.Post,bs a0.w.PostNum,bv a0.w.Dev,bs a0.w.DevNum,.fsl 1 (List.map cS a0.w.Local)],W 1 9 [bs a0.v.Epoch,.fsl 1 (List.map cS a0.v.Release),.s (.int .u8 a0.v.Pre),bs a0.v.PreNum,bv a0.v.Post,bs a0.v.PostNum,bv a0.v.Dev,bs a0.v.DevNum,.fsl 1 (List.map cS a0.v.Local)]],2⟩ ?_
 refine AT ?_
 refine As (fun (x3,x4,x5,x6,x7,x8,x9,x10,x11)=>⟨[V 1 (pt 0 22),V 3 (pt 1 9)],[W 0 22 [bs a0.c.Op,bs a0.c.Ver,bv a0.c.Star,bs a0.text,bs a0.v.Epoch,.fsl 1 (List.map cS a0.v.Release),.s (.int .u8 a0.v.Pre),bs a0.v.PreNum,bv a0.v.Post,bs a0.v.PostNum,bv a0.v.Dev,bs a0.v.DevNum,.fsl 1 (List.map cS a0.v.Local),bs a0.w.Epoch,.fsl 1 (List.map cS a0.w.Release),.s (.int .u8 a0.w.Pre),bs a0.w.PreNum,bv a0.w.Post,bs a0.w.PostNum,bv a0.w.Dev,bs a0.w.DevNum,.fsl 1 (List.map cS a0.w.Local)],W 1 9 [bs x3,.fsl 1 (List.map cS x4),.s (.int .u8 x5),bs x6,bv x7,bs x8,bv x9,bs x10,.fsl 1 (List.map cS x11)]],2⟩) (fun (x3,x4,x5,x6,x7,x8,x9,x10,x11)=>.normal) ?_ ?_
 ·refine jR ?_
  refine jG 0 5 ⟨[V 1 (pt 0 22),V 3 (pt 1 9),V 22 (bv ((List.length (List.map cS a0.w.Local):Int) == 0))],[W 0 22 [bs a0.c.Op,bs a0.c.Ver,bv a0.c.Star,bs a0.text,bs a0.v.Epoch,.fsl 1 (List.map cS a0.v.Release),.s (.int .u8 a0.v.Pre),bs a0.v.PreNum,bv a0.v.Post,bs a0.v.PostNum,bv a0.v.Dev,bs a0.v.DevNum,.fsl 1 (List.map cS a0.v.Local),bs a0.w.Epoch,.fsl 1 (List.map cS a0.w.Release),.s (.int .u8 a0.w.Pre),bs a0.w.PreNum,bv a0.w.Post,bs a0.w.PostNum,bv a0.w.Dev,bs a0.w.DevNum,.fsl 1 (List.map cS a0.w.Local)],W 1 9 [bs a0.v.Epoch,.fsl 1 (List.map cS a0.v.Release),.s (.int .u8 a0.v.Pre),bs a0.v.PreNum,bv a0.v.Post,bs a0.v.PostNum,bv a0.v.Dev,bs a0.v.DevNum,.fsl 1 (List.map cS a0.v.Local)]],2⟩ ?_
  simp only[List.length_map]
  refine jN ?_
  refine jIf ?_ ?_
  ·refine CA ?_
   refine jG 0 1 ⟨[V 1 (pt 0 22),V 3 (pt 1 9),V 23 (.agg [bs a0.v.Epoch,.fsl 1 (List.map cS a0.v.Release),.s (.int .u8 a0.v.Pre),bs a0.v.PreNum,bv a0.v.Post,bs a0.v.PostNum,bv a0.v.Dev,bs a0.v.DevNum,.fsl 1 (List.map cS a0.v.Local)])],[W 0 22 [bs a0.c.Op,bs a0.c.Ver,bv a0.c.Star,bs a0.text,bs a0.v.Epoch,.fsl 1 (List.map cS a0.v.Release),.s (.int .u8 a0.v.Pre),bs a0.v.PreNum,bv a0.v.Post,bs a0.v.PostNum,bv a0.v.Dev,bs a0.v.DevNum,.fsl 1 (List.map cS a0.v.Local),bs a0.w.Epoch,.fsl 1 (List.map cS a0.w.Release),.s (.int .u8 a0.w.Pre),bs a0.w.PreNum,bv a0.w.Post,bs a0.w.PostNum,bv a0.w.Dev,bs a0.w.DevNum,.fsl 1 (List.map cS a0.w.Local)],W 1 9 [bs a0.v.Epoch,.fsl 1 (List.map cS a0.v.Release),.s (.int .u8 a0.v.Pre),bs a0.v.PreNum,bv a0.v.Post,bs a0.v.PostNum,bv a0.v.Dev,bs a0.v.DevNum,.fsl 1 (List.map cS a0.v.Local)]],2⟩ ?_
   refine jK 1 (RC (AF.mk a0.v.Epoch a0.v.Release a0.v.Pre a0.v.PreNum a0.v.Post a0.v.PostNum a0.v.Dev a0.v.DevNum a0.v.Local)) ?_
   intro x12 h12
   refine jG 2 1 ⟨[V 1 (pt 0 22),V 3 (pt 1 9)],[W 0 22 [bs a0.c.Op,bs a0.c.Ver,bv a0.c.Star,bs a0.text,bs a0.v.Epoch,.fsl 1 (List.map cS a0.v.Release),.s (.int .u8 a0.v.Pre),bs a0.v.PreNum,bv a0.v.Post,bs a0.v.PostNum,bv a0.v.Dev,bs a0.v.DevNum,.fsl 1 (List.map cS a0.v.Local),bs a0.w.Epoch,.fsl 1 (List.map cS a0.w.Release),.s (.int .u8 a0.w.Pre),bs a0.w.PreNum,bv a0.w.Post,bs a0.w.PostNum,bv a0.w.Dev,bs a0.w.DevNum,.fsl 1 (List.map cS a0.w.Local)],W 1 9 [bs x12.Epoch,.fsl 1 (List.map cS x12.Release),.s (.int .u8 x12.Pre),bs x12.PreNum,bv x12.Post,bs x12.PostNum,bv x12.Dev,bs x12.DevNum,.fsl 1 (List.map cS x12.Local)]],2⟩ ?_
   refine AQ rfl ?_
   exact AK rfl (wkR [(0,some 0),(1,some 1)] (AH _) (pc (hC 0) (pc (hC 1) AB)))
  refine AS ?_
  exact AK rfl (wkR [(0,some 0),(1,some 1)] (AH _) (pc (hC 0) (pc (hC 1) AB)))
 rintro⟨x3,x4,x5,x6,x7,x8,x9,x10,x11⟩
 refine AN ?_
 refine jR ?_
 refine jG 0 3 ⟨[V 25 (.agg [bs x3,.fsl 1 (List.map cS x4),.s (.int .u8 x5),bs x6,bv x7,bs x8,bv x9,bs x10,.fsl 1 (List.map cS x11)]),V 27 (.agg [bs a0.w.Epoch,.fsl 1 (List.map cS a0.w.Release),.s (.int .u8 a0.w.Pre),bs a0.w.PreNum,bv a0.w.Post,bs a0.w.PostNum,bv a0.w.Dev,bs a0.w.DevNum,.fsl 1 (List.map cS a0.w.Local)])],[],2⟩ ?_
 refine jK 3 (GG (AF.mk x3 x4 x5 x6 x7 x8 x9 x10 x11) (AF.mk a0.w.Epoch a0.w.Release a0.w.Pre a0.w.PreNum a0.w.Post a0.w.PostNum a0.w.Dev a0.w.DevNum a0.w.Local)) ?_
 intro x13 h13
 refine jG 4 2 ⟨[V 2 (bv (x13 == 0))],[],2⟩ ?_
 refine jN ?_
 refine AO ?_
 exact AP (.inr rfl) (v:=bv (x13 == 0)) (by kernel_rfl) rfl (AE _))
abbrev TG:List LO:=[lo 1 (.box 67 (.tmp 0)) 0,lo 2 (.assign (.const (.bool false))) 4]
abbrev Sv:List LO:=[lo 3 (.load 67 (.tmp 1)) 67,lo 4 (.call ⟨.value (.func 57),#[.tmp 3],#[67]⟩) 4,lo 5 (.unOp .not 4 (.tmp 4)) 4,lo 2 (.assign (.tmp 5)) 4]
abbrev Lw:LC:=.seq (.reg false TG) (.seq (.reg false Sv) .ret)
theorem UD:BE E 58 6 [.tmp 2] Lw:=⟨⟨Go.Proofs.Tryz.f58,by kernel_rfl,by kernel_rfl,by kernel_rfl,by kernel_rfl,by kernel_rfl⟩,rfl,rfl⟩
noncomputable def Gb (a0:AR):Option (Bool):=Option.bind (CU (AR.mk (AD.mk a0.c.Op a0.c.Ver a0.c.Star) a0.text (AF.mk a0.v.Epoch a0.v.Release a0.v.Pre a0.v.PreNum a0.v.Post a0.v.PostNum a0.v.Dev a0.v.DevNum a0.v.Local) (AF.mk a0.w.Epoch a0.w.Release a0.w.Pre a0.w.PreNum a0.w.Post a0.w.PostNum a0.w.Dev a0.w.DevNum a0.w.Local))) (fun x1=>some (!x1))
theorem Td (a0:AR):Ct E 58 [.agg [bs a0.c.Op,bs a0.c.Ver,bv a0.c.Star,bs a0.text,bs a0.v.Epoch,.fsl 1 (List.map cS a0.v.Release),.s (.int .u8 a0.v.Pre),bs a0.v.PreNum,bv a0.v.Post,bs a0.v.PostNum,bv a0.v.Dev,bs a0.v.DevNum,.fsl 1 (List.map cS a0.v.Local),bs a0.w.Epoch,.fsl 1 (List.map cS a0.w.Release),.s (.int .u8 a0.w.Pre),bs a0.w.PreNum,bv a0.w.Post,bs a0.w.PostNum,bv a0.w.Dev,bs a0.w.DevNum,.fsl 1 (List.map cS a0.w.Local)]] (Gb a0) (fun r:Bool=>bv r):=Ad (N:=6) (L:=Lw) UD rfl (Nat.le_of_ble_eq_true rfl) (by kernel_rfl) (by
 unfold Gb
 refine jS ⟨[V 1 (pt 0 22)],[W 0 22 [bs a0.c.Op,bs a0.c.Ver,bv a0.c.Star,bs a0.text,bs a0.v.Epoch,.fsl 1 (List.map cS a0.v.Release),.s (.int .u8 a0.v.Pre),bs a0.v.PreNum,bv a0.v.Post,bs a0.v.PostNum,bv a0.v.Dev,bs a0.v.DevNum,.fsl 1 (List.map cS a0.v.Local),bs a0.w.Epoch,.fsl 1 (List.map cS a0.w.Release),.s (.int .u8 a0.w.Pre),bs a0.w.PreNum,bv a0.w.Post,bs a0.w.PostNum,bv a0.w.Dev,bs a0.w.DevNum,.fsl 1 (List.map cS a0.w.Local)]],1⟩ ?_
 refine jR ?_
 refine jG 0 1 ⟨[V 3 (.agg [bs a0.c.Op,bs a0.c.Ver,bv a0.c.Star,bs a0.text,bs a0.v.Epoch,.fsl 1 (List.map cS a0.v.Release),.s (.int .u8 a0.v.Pre),bs a0.v.PreNum,bv a0.v.Post,bs a0.v.PostNum,bv a0.v.Dev,bs a0.v.DevNum,.fsl 1 (List.map cS a0.v.Local),bs a0.w.Epoch,.fsl 1 (List.map cS a0.w.Release),.s (.int .u8 a0.w.Pre),bs a0.w.PreNum,bv a0.w.Post,bs a0.w.PostNum,bv a0.w.Dev,bs a0.w.DevNum,.fsl 1 (List.map cS a0.w.Local)])],[],1⟩ ?_
 refine jK 1 (Gm (AR.mk (AD.mk a0.c.Op a0.c.Ver a0.c.Star) a0.text (AF.mk a0.v.Epoch a0.v.Release a0.v.Pre a0.v.PreNum a0.v.Post a0.v.PostNum a0.v.Dev a0.v.DevNum a0.v.Local) (AF.mk a0.w.Epoch a0.w.Release a0.w.Pre a0.w.PreNum a0.w.Post a0.w.PostNum a0.w.Dev a0.w.DevNum a0.w.Local))) ?_
 intro x1 h1
 refine jG 2 2 ⟨[V 2 (bv (!x1))],[],1⟩ ?_
 refine jN ?_
 refine AO ?_
 exact AP (.inr rfl) (v:=bv (!x1)) (by kernel_rfl) rfl (AE _))
abbrev M9:List LO:=[lo 1 (.box 67 (.tmp 0)) 0,lo 2 (.assign (.const (.int .i64 0))) 3]
abbrev NC:List LO:=[lo 3 (.fieldAddr 67 (.tmp 1) 2) 0,lo 4 (.load 34 (.tmp 3)) 34,lo 5 (.call ⟨.value (.func 87),#[.tmp 4],#[34]⟩) 34,lo 6 (.fieldAddr 67 (.tmp 1) 3) 0,lo 7 (.load 34 (.tmp 6)) 34,lo 8 (.call ⟨.value (.func 65),#[.tmp 5,.tmp 7],#[34,34]⟩) 3,lo 2 (.assign (.tmp 8)) 3]
abbrev Gk:LC:=.seq (.reg false M9) (.seq (.reg true NC) .ret)
theorem OO:BE E 60 9 [.tmp 2] Gk:=⟨⟨Go.Proofs.Tryz.f60,by kernel_rfl,by kernel_rfl,by kernel_rfl,by kernel_rfl,by kernel_rfl⟩,rfl,rfl⟩
noncomputable def Bo (a0:AR):Option (Int):=Option.bind (G5 (AF.mk a0.v.Epoch a0.v.Release a0.v.Pre a0.v.PreNum a0.v.Post a0.v.PostNum a0.v.Dev a0.v.DevNum a0.v.Local)) (fun x1=>Option.bind (EU x1 (AF.mk a0.w.Epoch a0.w.Release a0.w.Pre a0.w.PreNum a0.w.Post a0.w.PostNum a0.w.Dev a0.w.DevNum a0.w.Local)) (fun x2=>some x2))
theorem Do (a0:AR):Ct E 60 [.agg [bs a0.c.Op,bs a0.c.Ver,bv a0.c.Star,bs a0.text,bs a0.v.Epoch,.fsl 1 (List.map cS a0.v.Release),.s (.int .u8 a0.v.Pre),bs a0.v.PreNum,bv a0.v.Post,bs a0.v.PostNum,bv a0.v.Dev,bs a0.v.DevNum,.fsl 1 (List.map cS a0.v.Local),bs a0.w.Epoch,.fsl 1 (List.map cS a0.w.Release),.s (.int .u8 a0.w.Pre),bs a0.w.PreNum,bv a0.w.Post,bs a0.w.PostNum,bv a0.w.Dev,bs a0.w.DevNum,.fsl 1 (List.map cS a0.w.Local)]] (Bo a0) (fun r:Int=>iv r):=Ad (N:=9) (L:=Gk) OO rfl (Nat.le_of_ble_eq_true rfl) (by kernel_rfl) (by
 unfold Bo
 refine jS ⟨[V 1 (pt 0 22)],[W 0 22 [bs a0.c.Op,bs a0.c.Ver,bv a0.c.Star,bs a0.text,bs a0.v.Epoch,.fsl 1 (List.map cS a0.v.Release),.s (.int .u8 a0.v.Pre),bs a0.v.PreNum,bv a0.v.Post,bs a0.v.PostNum,bv a0.v.Dev,bs a0.v.DevNum,.fsl 1 (List.map cS a0.v.Local),bs a0.w.Epoch,.fsl 1 (List.map cS a0.w.Release),.s (.int .u8 a0.w.Pre),bs a0.w.PreNum,bv a0.w.Post,bs a0.w.PostNum,bv a0.w.Dev,bs a0.w.DevNum,.fsl 1 (List.map cS a0.w.Local)]],1⟩ ?_
 refine jR ?_
 refine jG 0 2 ⟨[V 1 (pt 0 22),V 4 (.agg [bs a0.v.Epoch,.fsl 1 (List.map cS a0.v.Release),.s (.int .u8 a0.v.Pre),bs a0.v.PreNum,bv a0.v.Post,bs a0.v.PostNum,bv a0.v.Dev,bs a0.v.DevNum,.fsl 1 (List.map cS a0.v.Local)])],[W 0 22 [bs a0.c.Op,bs a0.c.Ver,bv a0.c.Star,bs a0.text,bs a0.v.Epoch,.fsl 1 (List.map cS a0.v.Release),.s (.int .u8 a0.v.Pre),bs a0.v.PreNum,bv a0.v.Post,bs a0.v.PostNum,bv a0.v.Dev,bs a0.v.DevNum,.fsl 1 (List.map cS a0.v.Local),bs a0.w.Epoch,.fsl 1 (List.map cS a0.w.Release),.s (.int .u8 a0.w.Pre),bs a0.w.PreNum,bv a0.w.Post,bs a0.w.PostNum,bv a0.w.Dev,bs a0.w.DevNum,.fsl 1 (List.map cS a0.w.Local)]],1⟩ ?_
 refine jK 2 (RC (AF.mk a0.v.Epoch a0.v.Release a0.v.Pre a0.v.PreNum a0.v.Post a0.v.PostNum a0.v.Dev a0.v.DevNum a0.v.Local)) ?_
 intro x1 h1
 refine jG 3 2 ⟨[V 5 (.agg [bs x1.Epoch,.fsl 1 (List.map cS x1.Release),.s (.int .u8 x1.Pre),bs x1.PreNum,bv x1.Post,bs x1.PostNum,bv x1.Dev,bs x1.DevNum,.fsl 1 (List.map cS x1.Local)]),V 7 (.agg [bs a0.w.Epoch,.fsl 1 (List.map cS a0.w.Release),.s (.int .u8 a0.w.Pre),bs a0.w.PreNum,bv a0.w.Post,bs a0.w.PostNum,bv a0.w.Dev,bs a0.w.DevNum,.fsl 1 (List.map cS a0.w.Local)])],[],1⟩ ?_
 refine jK 5 (GG x1 (AF.mk a0.w.Epoch a0.w.Release a0.w.Pre a0.w.PreNum a0.w.Post a0.w.PostNum a0.w.Dev a0.w.DevNum a0.w.Local)) ?_
 intro x2 h2
 refine jG 6 1 ⟨[V 2 (iv x2)],[],1⟩ ?_
 refine jN ?_
 refine AO ?_
 exact AP (.inr rfl) (v:=iv x2) (by kernel_rfl) rfl (AE _))
abbrev TH:List LO:=[lo 1 (.box 67 (.tmp 0)) 0,lo 2 (.assign (.const (.bool false))) 4]
abbrev S6:List LO:=[lo 3 (.load 67 (.tmp 1)) 67,lo 4 (.call ⟨.value (.func 60),#[.tmp 3],#[67]⟩) 3,lo 5 (.binOp .geq 3 (.tmp 4) (.const (.int .i64 0)) 3) 4,lm 6 5 4,lg 7 (.fieldAddr 67 (.tmp 1) 2) 0 6 true,lg 8 (.load 34 (.tmp 7)) 34 6 true,lg 9 (.fieldAddr 67 (.tmp 1) 3) 0 6 true,lg 10 (.fieldAddr 34 (.tmp 9) 0) 0 6 true,lg 11 (.load 9 (.tmp 10)) 9 6 true,lg 12 (.fieldAddr 67 (.tmp 1) 3) 0 6 true,lg 13 (.fieldAddr 34 (.tmp 12) 1) 0 6 true,lg 14 (.load 32 (.tmp 13)) 32 6 true,lg 15 (.fieldAddr 67 (.tmp 1) 3) 0 6 true,lg 16 (.fieldAddr 34 (.tmp 15) 1) 0 6 true,lg 17 (.load 32 (.tmp 16)) 32 6 true,lg 18 (.call ⟨.builtin .len,#[.tmp 17],#[32]⟩) 3 6 true,lg 19 (.binOp .sub 3 (.tmp 18) (.const (.int .i64 1)) 3) 3 6 true,lg 20 (.slice 32 (.tmp 14) none (some (.tmp 19)) none) 32 6 true,lg 21 (.call ⟨.value (.func 61),#[.tmp 8,.tmp 11,.tmp 20],#[34,9,32]⟩) 4 6 true,lo 22 (.pick (.tmp 6) (.tmp 21) (.const (.bool false))) 4,lo 2 (.assign (.tmp 22)) 4]
abbrev Lu:LC:=.seq (.reg false TH) (.seq (.reg true S6) .ret)
theorem UN:BE E 59 23 [.tmp 2] Lu:=⟨⟨Go.Proofs.Tryz.f59,by kernel_rfl,by kernel_rfl,by kernel_rfl,by kernel_rfl,by kernel_rfl⟩,rfl,rfl⟩
noncomputable def GE (a0:AR):Option (Bool):=Option.bind (Bo (AR.mk (AD.mk a0.c.Op a0.c.Ver a0.c.Star) a0.text (AF.mk a0.v.Epoch a0.v.Release a0.v.Pre a0.v.PreNum a0.v.Post a0.v.PostNum a0.v.Dev a0.v.DevNum a0.v.Local) (AF.mk a0.w.Epoch a0.w.Release a0.w.Pre a0.w.PreNum a0.w.Post a0.w.PostNum a0.w.Dev a0.w.DevNum a0.w.Local))) (fun x1=>Option.bind (if (decide (x1≥0))=true then Option.bind (Fj a0.w.Release 0 (w64 ((List.length a0.w.Release:Int) - 1))) (fun x5=>Option.bind (ES (AF.mk a0.v.Epoch a0.v.Release a0.v.Pre a0.v.PreNum a0.v.Post a0.v.PostNum a0.v.Dev a0.v.DevNum a0.v.Local) a0.w.Epoch x5) (fun x6=>some x6)) else some false:Option (Bool)) (fun x4=>some x4))
theorem TX (a0:AR):Ct E 59 [.agg [bs a0.c.Op,bs a0.c.Ver,bv a0.c.Star,bs a0.text,bs a0.v.Epoch,.fsl 1 (List.map cS a0.v.Release),.s (.int .u8 a0.v.Pre),bs a0.v.PreNum,bv a0.v.Post,bs a0.v.PostNum,bv a0.v.Dev,bs a0.v.DevNum,.fsl 1 (List.map cS a0.v.Local),bs a0.w.Epoch,.fsl 1 (List.map cS a0.w.Release),.s (.int .u8 a0.w.Pre),bs a0.w.PreNum,bv a0.w.Post,bs a0.w.PostNum,bv a0.w.Dev,bs a0.w.DevNum,.fsl 1 (List.map cS a0.w.Local)]] (GE a0) (fun r:Bool=>bv r):=Ad (N:=23) (L:=Lu) UN rfl (Nat.le_of_ble_eq_true rfl) (by kernel_rfl) (by
 unfold GE
 refine jS ⟨[V 1 (pt 0 22)],[W 0 22 [bs a0.c.Op,bs a0.c.Ver,bv a0.c.Star,bs a0.text,bs a0.v.Epoch,.fsl 1 (List.map cS a0.v.Release),.s (.int .u8 a0.v.Pre),bs a0.v.PreNum,bv a0.v.Post,bs a0.v.PostNum,bv a0.v.Dev,bs a0.v.DevNum,.fsl 1 (List.map cS a0.v.Local),bs a0.w.Epoch,.fsl 1 (List.map cS a0.w.Release),.s (.int .u8 a0.w.Pre),bs a0.w.PreNum,bv a0.w.Post,bs a0.w.PostNum,bv a0.w.Dev,bs a0.w.DevNum,.fsl 1 (List.map cS a0.w.Local)]],1⟩ ?_
 refine jR ?_
 refine jG 0 1 ⟨[V 1 (pt 0 22),V 3 (.agg [bs a0.c.Op,bs a0.c.Ver,bv a0.c.Star,bs a0.text,bs a0.v.Epoch,.fsl 1 (List.map cS a0.v.Release),.s (.int .u8 a0.v.Pre),bs a0.v.PreNum,bv a0.v.Post,bs a0.v.PostNum,bv a0.v.Dev,bs a0.v.DevNum,.fsl 1 (List.map cS a0.v.Local),bs a0.w.Epoch,.fsl 1 (List.map cS a0.w.Release),.s (.int .u8 a0.w.Pre),bs a0.w.PreNum,bv a0.w.Post,bs a0.w.PostNum,bv a0.w.Dev,bs a0.w.DevNum,.fsl 1 (List.map cS a0.w.Local)])],[W 0 22 [bs a0.c.Op,bs a0.c.Ver,bv a0.c.Star,bs a0.text,bs a0.v.Epoch,.fsl 1 (List.map cS a0.v.Release),.s (.int .u8 a0.v.Pre),bs a0.v.PreNum,bv a0.v.Post,bs a0.v.PostNum,bv a0.v.Dev,bs a0.v.DevNum,.fsl 1 (List.map cS a0.v.Local),bs a0.w.Epoch,.fsl 1 (List.map cS a0.w.Release),.s (.int .u8 a0.w.Pre),bs a0.w.PreNum,bv a0.w.Post,bs a0.w.PostNum,bv a0.w.Dev,bs a0.w.DevNum,.fsl 1 (List.map cS a0.w.Local)]],1⟩ ?_
 refine jK 1 (Do (AR.mk (AD.mk a0.c.Op a0.c.Ver a0.c.Star) a0.text (AF.mk a0.v.Epoch a0.v.Release a0.v.Pre a0.v.PreNum a0.v.Post a0.v.PostNum a0.v.Dev a0.v.DevNum a0.v.Local) (AF.mk a0.w.Epoch a0.w.Release a0.w.Pre a0.w.PreNum a0.w.Post a0.w.PostNum a0.w.Dev a0.w.DevNum a0.w.Local))) ?_
 intro x1 h1
 refine jG 2 2 ⟨[V 1 (pt 0 22),V 6 (bv (decide (x1≥0)))],[W 0 22 [bs a0.c.Op,bs a0.c.Ver,bv a0.c.Star,bs a0.text,bs a0.v.Epoch,.fsl 1 (List.map cS a0.v.Release),.s (.int .u8 a0.v.Pre),bs a0.v.PreNum,bv a0.v.Post,bs a0.v.PostNum,bv a0.v.Dev,bs a0.v.DevNum,.fsl 1 (List.map cS a0.v.Local),bs a0.w.Epoch,.fsl 1 (List.map cS a0.w.Release),.s (.int .u8 a0.w.Pre),bs a0.w.PreNum,bv a0.w.Post,bs a0.w.PostNum,bv a0.w.Dev,bs a0.w.DevNum,.fsl 1 (List.map cS a0.w.Local)]],1⟩ ?_
 refine Ak 4 16 (fun x4=>⟨[V 22 (bv x4)],[],0⟩) ?_ ?_
 ·refine jSp 6 ?_ ?_
  ·refine jG 0 13 ⟨[(6,.lit true),V 8 (.agg [bs a0.v.Epoch,.fsl 1 (List.map cS a0.v.Release),.s (.int .u8 a0.v.Pre),bs a0.v.PreNum,bv a0.v.Post,bs a0.v.PostNum,bv a0.v.Dev,bs a0.v.DevNum,.fsl 1 (List.map cS a0.v.Local)]),V 11 (bs a0.w.Epoch),V 14 (.fsl 1 (List.map cS a0.w.Release)),V 19 (iv (w64 ((List.length (List.map cS a0.w.Release):Int) - 1)))],[],1⟩ ?_
   simp only[List.length_map]
   refine An (i:=13) (mo:=Fj a0.w.Release 0 (w64 ((List.length a0.w.Release:Int) - 1))) rfl rfl rfl rfl (fun _ hc=>sG (c:=cS) (sz:=1) (e:=9) (by kernel_rfl) (by kernel_rfl) (by kernel_rfl) (by kernel_rfl) (by kernel_rfl) hc) (fun _=>rfl) ?_
   intro x5 h5
   refine jK 14 (Mh (AF.mk a0.v.Epoch a0.v.Release a0.v.Pre a0.v.PreNum a0.v.Post a0.v.PostNum a0.v.Dev a0.v.DevNum a0.v.Local) a0.w.Epoch x5) ?_
   intro x6 h6
   refine jG 15 1 ⟨[V 22 (bv x6)],[],1⟩ ?_
   refine AQ rfl ?_
   exact AK rfl (wkR [] (AH _) AB)
  refine jG 0 16 ⟨[V 22 (bv false)],[],1⟩ ?_
  refine AQ rfl ?_
  exact AK rfl (wkR [] (AH _) AB)
 intro x4
 refine jG 20 1 ⟨[V 2 (bv x4)],[],0⟩ ?_
 refine jN ?_
 refine AO ?_
 exact AP (.inr rfl) (v:=bv x4) (by kernel_rfl) rfl (AE _))
abbrev Sl:List LO:=[lo 1 (.box 67 (.tmp 0)) 0,lo 2 (.assign (.const (.bool false))) 4]
abbrev Ss:List LO:=[lo 3 (.load 67 (.tmp 1)) 67,lo 4 (.call ⟨.value (.func 60),#[.tmp 3],#[67]⟩) 3,lo 5 (.binOp .leq 3 (.tmp 4) (.const (.int .i64 0)) 3) 4,lo 2 (.assign (.tmp 5)) 4]
abbrev Mc:LC:=.seq (.reg false Sl) (.seq (.reg false Ss) .ret)
theorem VC:BE E 62 6 [.tmp 2] Mc:=⟨⟨Go.Proofs.Tryz.f62,by kernel_rfl,by kernel_rfl,by kernel_rfl,by kernel_rfl,by kernel_rfl⟩,rfl,rfl⟩
noncomputable def GU (a0:AR):Option (Bool):=Option.bind (Bo (AR.mk (AD.mk a0.c.Op a0.c.Ver a0.c.Star) a0.text (AF.mk a0.v.Epoch a0.v.Release a0.v.Pre a0.v.PreNum a0.v.Post a0.v.PostNum a0.v.Dev a0.v.DevNum a0.v.Local) (AF.mk a0.w.Epoch a0.w.Release a0.w.Pre a0.w.PreNum a0.w.Post a0.w.PostNum a0.w.Dev a0.w.DevNum a0.w.Local))) (fun x1=>some (decide (x1≤0)))
theorem TD (a0:AR):Ct E 62 [.agg [bs a0.c.Op,bs a0.c.Ver,bv a0.c.Star,bs a0.text,bs a0.v.Epoch,.fsl 1 (List.map cS a0.v.Release),.s (.int .u8 a0.v.Pre),bs a0.v.PreNum,bv a0.v.Post,bs a0.v.PostNum,bv a0.v.Dev,bs a0.v.DevNum,.fsl 1 (List.map cS a0.v.Local),bs a0.w.Epoch,.fsl 1 (List.map cS a0.w.Release),.s (.int .u8 a0.w.Pre),bs a0.w.PreNum,bv a0.w.Post,bs a0.w.PostNum,bv a0.w.Dev,bs a0.w.DevNum,.fsl 1 (List.map cS a0.w.Local)]] (GU a0) (fun r:Bool=>bv r):=Ad (N:=6) (L:=Mc) VC rfl (Nat.le_of_ble_eq_true rfl) (by kernel_rfl) (by
 unfold GU
 refine jS ⟨[V 1 (pt 0 22)],[W 0 22 [bs a0.c.Op,bs a0.c.Ver,bv a0.c.Star,bs a0.text,bs a0.v.Epoch,.fsl 1 (List.map cS a0.v.Release),.s (.int .u8 a0.v.Pre),bs a0.v.PreNum,bv a0.v.Post,bs a0.v.PostNum,bv a0.v.Dev,bs a0.v.DevNum,.fsl 1 (List.map cS a0.v.Local),bs a0.w.Epoch,.fsl 1 (List.map cS a0.w.Release),.s (.int .u8 a0.w.Pre),bs a0.w.PreNum,bv a0.w.Post,bs a0.w.PostNum,bv a0.w.Dev,bs a0.w.DevNum,.fsl 1 (List.map cS a0.w.Local)]],1⟩ ?_
 refine jR ?_
 refine jG 0 1 ⟨[V 3 (.agg [bs a0.c.Op,bs a0.c.Ver,bv a0.c.Star,bs a0.text,bs a0.v.Epoch,.fsl 1 (List.map cS a0.v.Release),.s (.int .u8 a0.v.Pre),bs a0.v.PreNum,bv a0.v.Post,bs a0.v.PostNum,bv a0.v.Dev,bs a0.v.DevNum,.fsl 1 (List.map cS a0.v.Local),bs a0.w.Epoch,.fsl 1 (List.map cS a0.w.Release),.s (.int .u8 a0.w.Pre),bs a0.w.PreNum,bv a0.w.Post,bs a0.w.PostNum,bv a0.w.Dev,bs a0.w.DevNum,.fsl 1 (List.map cS a0.w.Local)])],[],1⟩ ?_
 refine jK 1 (Do (AR.mk (AD.mk a0.c.Op a0.c.Ver a0.c.Star) a0.text (AF.mk a0.v.Epoch a0.v.Release a0.v.Pre a0.v.PreNum a0.v.Post a0.v.PostNum a0.v.Dev a0.v.DevNum a0.v.Local) (AF.mk a0.w.Epoch a0.w.Release a0.w.Pre a0.w.PreNum a0.w.Post a0.w.PostNum a0.w.Dev a0.w.DevNum a0.w.Local))) ?_
 intro x1 h1
 refine jG 2 2 ⟨[V 2 (bv (decide (x1≤0)))],[],1⟩ ?_
 refine jN ?_
 refine AO ?_
 exact AP (.inr rfl) (v:=bv (decide (x1≤0))) (by kernel_rfl) rfl (AE _))
abbrev Su:List LO:=[lo 1 (.box 67 (.tmp 0)) 0,lo 2 (.assign (.const (.bool false))) 4]
abbrev Tv:List LO:=[lo 3 (.load 67 (.tmp 1)) 67,lo 4 (.call ⟨.value (.func 60),#[.tmp 3],#[67]⟩) 3,lo 5 (.binOp .geq 3 (.tmp 4) (.const (.int .i64 0)) 3) 4,lo 2 (.assign (.tmp 5)) 4]
abbrev MG:LC:=.seq (.reg false Su) (.seq (.reg false Tv) .ret)
theorem UX:BE E 63 6 [.tmp 2] MG:=⟨⟨Go.Proofs.Tryz.f63,by kernel_rfl,by kernel_rfl,by kernel_rfl,by kernel_rfl,by kernel_rfl⟩,rfl,rfl⟩
noncomputable def Ga (a0:AR):Option (Bool):=Option.bind (Bo (AR.mk (AD.mk a0.c.Op a0.c.Ver a0.c.Star) a0.text (AF.mk a0.v.Epoch a0.v.Release a0.v.Pre a0.v.PreNum a0.v.Post a0.v.PostNum a0.v.Dev a0.v.DevNum a0.v.Local) (AF.mk a0.w.Epoch a0.w.Release a0.w.Pre a0.w.PreNum a0.w.Post a0.w.PostNum a0.w.Dev a0.w.DevNum a0.w.Local))) (fun x1=>some (decide (x1≥0)))
theorem Ti (a0:AR):Ct E 63 [.agg [bs a0.c.Op,bs a0.c.Ver,bv a0.c.Star,bs a0.text,bs a0.v.Epoch,.fsl 1 (List.map cS a0.v.Release),.s (.int .u8 a0.v.Pre),bs a0.v.PreNum,bv a0.v.Post,bs a0.v.PostNum,bv a0.v.Dev,bs a0.v.DevNum,.fsl 1 (List.map cS a0.v.Local),bs a0.w.Epoch,.fsl 1 (List.map cS a0.w.Release),.s (.int .u8 a0.w.Pre),bs a0.w.PreNum,bv a0.w.Post,bs a0.w.PostNum,bv a0.w.Dev,bs a0.w.DevNum,.fsl 1 (List.map cS a0.w.Local)]] (Ga a0) (fun r:Bool=>bv r):=Ad (N:=6) (L:=MG) UX rfl (Nat.le_of_ble_eq_true rfl) (by kernel_rfl) (by
 unfold Ga
 refine jS ⟨[V 1 (pt 0 22)],[W 0 22 [bs a0.c.Op,bs a0.c.Ver,bv a0.c.Star,bs a0.text,bs a0.v.Epoch,.fsl 1 (List.map cS a0.v.Release),.s (.int .u8 a0.v.Pre),bs a0.v.PreNum,bv a0.v.Post,bs a0.v.PostNum,bv a0.v.Dev,bs a0.v.DevNum,.fsl 1 (List.map cS a0.v.Local),bs a0.w.Epoch,.fsl 1 (List.map cS a0.w.Release),.s (.int .u8 a0.w.Pre),bs a0.w.PreNum,bv a0.w.Post,bs a0.w.PostNum,bv a0.w.Dev,bs a0.w.DevNum,.fsl 1 (List.map cS a0.w.Local)]],1⟩ ?_
 refine jR ?_
 refine jG 0 1 ⟨[V 3 (.agg [bs a0.c.Op,bs a0.c.Ver,bv a0.c.Star,bs a0.text,bs a0.v.Epoch,.fsl 1 (List.map cS a0.v.Release),.s (.int .u8 a0.v.Pre),bs a0.v.PreNum,bv a0.v.Post,bs a0.v.PostNum,bv a0.v.Dev,bs a0.v.DevNum,.fsl 1 (List.map cS a0.v.Local),bs a0.w.Epoch,.fsl 1 (List.map cS a0.w.Release),.s (.int .u8 a0.w.Pre),bs a0.w.PreNum,bv a0.w.Post,bs a0.w.PostNum,bv a0.w.Dev,bs a0.w.DevNum,.fsl 1 (List.map cS a0.w.Local)])],[],1⟩ ?_
 refine jK 1 (Do (AR.mk (AD.mk a0.c.Op a0.c.Ver a0.c.Star) a0.text (AF.mk a0.v.Epoch a0.v.Release a0.v.Pre a0.v.PreNum a0.v.Post a0.v.PostNum a0.v.Dev a0.v.DevNum a0.v.Local) (AF.mk a0.w.Epoch a0.w.Release a0.w.Pre a0.w.PreNum a0.w.Post a0.w.PostNum a0.w.Dev a0.w.DevNum a0.w.Local))) ?_
 intro x1 h1
 refine jG 2 2 ⟨[V 2 (bv (decide (x1≥0)))],[],1⟩ ?_
 refine jN ?_
 refine AO ?_
 exact AP (.inr rfl) (v:=bv (decide (x1≥0))) (by kernel_rfl) rfl (AE _))
abbrev Yb:List LO:=[lo 1 (.box 34 (.tmp 0)) 0,lo 2 (.alloc 34) 0]
abbrev Xr:List LO:=[lo 3 (.fieldAddr 34 (.tmp 1) 0) 0,lo 4 (.load 9 (.tmp 3)) 9,lo 5 (.fieldAddr 34 (.tmp 1) 1) 0,lo 6 (.load 32 (.tmp 5)) 32,lo 7 (.build 34 #[(0,.tmp 4),(1,.tmp 6)]) 34,ln (.store 34 (.tmp 2) (.tmp 7)) 0]
abbrev Qx:LC:=.seq (.reg false Yb) (.seq (.reg false Xr) .ret)
theorem Y2:BE E 98 8 [.cell 2 34] Qx:=⟨⟨Go.Proofs.Tryz.f98,by kernel_rfl,by kernel_rfl,by kernel_rfl,by kernel_rfl,by kernel_rfl⟩,rfl,rfl⟩
noncomputable def Hc (a0:AF):Option (AF):=some (AF.mk a0.Epoch a0.Release 0 [] false [] false [] [])
theorem PD (a0:AF):Ct E 98 [.agg [bs a0.Epoch,.fsl 1 (List.map cS a0.Release),.s (.int .u8 a0.Pre),bs a0.PreNum,bv a0.Post,bs a0.PostNum,bv a0.Dev,bs a0.DevNum,.fsl 1 (List.map cS a0.Local)]] (Hc a0) (fun r:AF=>.agg [bs r.Epoch,.fsl 1 (List.map cS r.Release),.s (.int .u8 r.Pre),bs r.PreNum,bv r.Post,bs r.PostNum,bv r.Dev,bs r.DevNum,.fsl 1 (List.map cS r.Local)]):=Ad (N:=8) (L:=Qx) Y2 rfl (Nat.le_of_ble_eq_true rfl) (by kernel_rfl) (by
 unfold Hc
 refine jS ⟨[V 1 (pt 0 9),V 2 (pt 1 9)],[W 0 9 [bs a0.Epoch,.fsl 1 (List.map cS a0.Release),.s (.int .u8 a0.Pre),bs a0.PreNum,bv a0.Post,bs a0.PostNum,bv a0.Dev,bs a0.DevNum,.fsl 1 (List.map cS a0.Local)],W 1 9 [bs [],Af,.s (.int .u8 0),bs [],bv false,bs [],bv false,bs [],Af]],2⟩ ?_
 refine jS ⟨[V 2 (pt 1 9)],[W 1 9 [bs a0.Epoch,.fsl 1 (List.map cS a0.Release),.s (.int .u8 0),bs [],bv false,bs [],bv false,bs [],Af]],2⟩ ?_
 refine AO ?_
 exact AP (.inr rfl) (v:=.agg [bs a0.Epoch,.fsl 1 (List.map cS a0.Release),.s (.int .u8 0),bs [],bv false,bs [],bv false,bs [],Af]) (by kernel_rfl) (Mj (AL rfl (AL rfl (AL rfl (AL rfl (AL rfl (AL rfl (AL rfl (AL rfl (AL rfl (Aw _))))))))))) (TJ (AJ (AE _) (AJ (AE _) (AJ (AE _) (AJ (AE _) (AJ (AE _) (AJ (AE _) (AJ (AE _) (AJ (AE _) (AJ (Pz _) Aj)))))))))))
end Go.Vm

/- The law PepReads, a part of its proof: what the functions that it reaches compute. -/
import Derived.Test.YthifafijkpkliaaGreatDoorDxf61c61a0
set_option linter.unusedVariables false
namespace Go.Vm
open Go
structure S_api_Pep where
  Epoch:Str
  Release:(List Str)
  Pre:Int
  PreNum:Str
  Post:Bool
  PostNum:Str
  Dev:Bool
  DevNum:Str
  Local:(List Str)
  deriving DecidableEq,Inhabited
structure S_api_Fault where
  Err:Int
  At:Int
  deriving DecidableEq,Inhabited
set_option maxRecDepth 100000
set_option maxHeartbeats 0
set_option linter.unusedSimpArgs false
abbrev cmp_isNaN_int_r1:List LO:=[lo 2 (.assign (.const (.bool false))) 4]
abbrev cmp_isNaN_int_r2:List LO:=[lm 3 0 3,lm 4 0 3,lo 5 (.binOp .neq 3 (.tmp 3) (.tmp 4) 3) 4,lo 2 (.assign (.tmp 5)) 4]
abbrev cmp_isNaN_int_c:LC:=.seq (.reg false cmp_isNaN_int_r1) (.seq (.reg false cmp_isNaN_int_r2) .ret)
theorem cmp_isNaN_int_k:FnOk E 104 6 [.tmp 2] cmp_isNaN_int_c:=⟨⟨Go.Proofs.Tryz.f104,by kernel_rfl,by kernel_rfl,by kernel_rfl,by kernel_rfl,by kernel_rfl⟩,rfl,rfl⟩
noncomputable def cmp_isNaN_int (a0:Int):Option (Bool):=some (a0 != a0)
theorem cmp_isNaN_int_ok (a0:Int):Ct E 104 [iv a0] (cmp_isNaN_int a0) (fun r:Bool=>bv r):=ct_intro (N:=6) (L:=cmp_isNaN_int_c) cmp_isNaN_int_k rfl (Nat.le_of_ble_eq_true rfl) (by kernel_rfl) (by
 unfold cmp_isNaN_int
 refine jS ⟨[V 0 (iv a0)],[],0⟩ ?_
 refine jS ⟨[V 2 (bv (a0 != a0))],[],0⟩ ?_
 refine jc_ret ?_
 exact jx_retF (.inr rfl) (v:=bv (a0 != a0)) (by kernel_rfl) rfl (fle_refl _))
abbrev cmp_Compare_int_r1:List LO:=[lo 4 (.assign (.const (.int .i64 0))) 3]
abbrev cmp_Compare_int_r2:List LO:=[lm 7 0 3,lo 8 (.call ⟨.value (.func 104),#[.tmp 7],#[3]⟩) 4,lo 5 (.assign (.tmp 8)) 4]
abbrev cmp_Compare_int_r3:List LO:=[lm 9 1 3,lo 10 (.call ⟨.value (.func 104),#[.tmp 9],#[3]⟩) 4,lo 6 (.assign (.tmp 10)) 4]
abbrev cmp_Compare_int_r4:List LO:=[lm 11 5 4]
abbrev cmp_Compare_int_r5:List LO:=[lm 12 6 4]
abbrev cmp_Compare_int_r6:List LO:=[lo 4 (.assign (.const (.int .i64 0))) 3]
abbrev cmp_Compare_int_r7:List LO:=[lo 4 (.assign (.const (.int .i64 (-1)))) 3]
abbrev cmp_Compare_int_r8:List LO:=[lm 13 6 4]
abbrev cmp_Compare_int_r9:List LO:=[lo 4 (.assign (.const (.int .i64 1))) 3]
abbrev cmp_Compare_int_r10:List LO:=[lm 14 0 3,lm 15 1 3,lo 16 (.binOp .lss 3 (.tmp 14) (.tmp 15) 3) 4]
abbrev cmp_Compare_int_r11:List LO:=[lo 4 (.assign (.const (.int .i64 (-1)))) 3]
abbrev cmp_Compare_int_r12:List LO:=[lm 17 0 3,lm 18 1 3,lo 19 (.binOp .gtr 3 (.tmp 17) (.tmp 18) 3) 4]
abbrev cmp_Compare_int_r13:List LO:=[lo 4 (.assign (.const (.int .i64 1))) 3]
abbrev cmp_Compare_int_r14:List LO:=[lo 4 (.assign (.const (.int .i64 0))) 3]
abbrev cmp_Compare_int_c:LC:=.seq (.reg false cmp_Compare_int_r1) (.seq (.reg false cmp_Compare_int_r2) (.seq (.reg false cmp_Compare_int_r3) (.seq (.seq (.reg false cmp_Compare_int_r4) (.cond (.tmp 11) (.seq (.seq (.reg false cmp_Compare_int_r5) (.cond (.tmp 12) (.seq (.reg false cmp_Compare_int_r6) .ret) .skip)) (.seq (.reg false cmp_Compare_int_r7) .ret)) .skip)) (.seq (.seq (.reg false cmp_Compare_int_r8) (.cond (.tmp 13) (.seq (.reg false cmp_Compare_int_r9) .ret) .skip)) (.seq (.seq (.reg false cmp_Compare_int_r10) (.cond (.tmp 16) (.seq (.reg false cmp_Compare_int_r11) .ret) .skip)) (.seq (.seq (.reg false cmp_Compare_int_r12) (.cond (.tmp 19) (.seq (.reg false cmp_Compare_int_r13) .ret) .skip)) (.seq (.reg false cmp_Compare_int_r14) .ret)))))))
theorem cmp_Compare_int_k:FnOk E 70 20 [.tmp 4] cmp_Compare_int_c:=⟨⟨Go.Proofs.Tryz.f70,by kernel_rfl,by kernel_rfl,by kernel_rfl,by kernel_rfl,by kernel_rfl⟩,rfl,rfl⟩
noncomputable def cmp_Compare_int (a0:Int) (a1:Int):Option (Int):=Option.bind (cmp_isNaN_int a0) (fun x1=>Option.bind (cmp_isNaN_int a1) (fun x2=>(if x1=true then (if x2=true then some 0 else some (-1)) else (if x2=true then some 1 else (if (decide (a0 < a1))=true then some (-1) else (if (decide (a0 > a1))=true then some 1 else some 0))))))
theorem cmp_Compare_int_ok (a0:Int) (a1:Int):Ct E 70 [iv a0,iv a1] (cmp_Compare_int a0 a1) (fun r:Int=>iv r):=ct_intro (N:=20) (L:=cmp_Compare_int_c) cmp_Compare_int_k rfl (Nat.le_of_ble_eq_true rfl) (by kernel_rfl) (by
 unfold cmp_Compare_int
 refine jS ⟨[V 0 (iv a0),V 1 (iv a1)],[],0⟩ ?_
 refine jR ?_
 refine jG 0 1 ⟨[V 0 (iv a0),V 1 (iv a1),V 7 (iv a0)],[],0⟩ ?_
 refine jK 1 (cmp_isNaN_int_ok a0) ?_
 intro x1 h1
 refine jG 2 1 ⟨[V 0 (iv a0),V 1 (iv a1),V 5 (bv x1)],[],0⟩ ?_
 refine jN ?_
 refine jR ?_
 refine jG 0 1 ⟨[V 0 (iv a0),V 1 (iv a1),V 5 (bv x1),V 9 (iv a1)],[],0⟩ ?_
 refine jK 1 (cmp_isNaN_int_ok a1) ?_
 intro x2 h2
 refine jG 2 1 ⟨[V 0 (iv a0),V 1 (iv a1),V 5 (bv x1),V 6 (bv x2)],[],0⟩ ?_
 refine jN ?_
 refine jc_seq ?_
 refine jS ⟨[V 0 (iv a0),V 1 (iv a1),V 6 (bv x2),V 11 (bv x1)],[],0⟩ ?_
 refine jIf ?_ ?_
 ·refine jc_seq ?_
  refine jS ⟨[V 12 (bv x2)],[],0⟩ ?_
  refine jIf ?_ ?_
  ·refine jS ⟨[V 4 (iv 0)],[],0⟩ ?_
   refine jc_ret ?_
   refine jx_seqR ?_
   refine jx_seqR ?_
   exact jx_retF (.inr rfl) (v:=iv 0) (by kernel_rfl) rfl (fle_refl _)
  refine jc_skip ?_
  refine jx_seqN ?_
  refine jS ⟨[V 4 (iv (-1))],[],0⟩ ?_
  refine jc_ret ?_
  refine jx_seqR ?_
  exact jx_retF (.inr rfl) (v:=iv (-1)) (by kernel_rfl) rfl (fle_refl _)
 refine jc_skip ?_
 refine jx_seqN ?_
 refine jc_seq ?_
 refine jS ⟨[V 0 (iv a0),V 1 (iv a1),V 13 (bv x2)],[],0⟩ ?_
 refine jIf ?_ ?_
 ·refine jS ⟨[V 4 (iv 1)],[],0⟩ ?_
  refine jc_ret ?_
  refine jx_seqR ?_
  exact jx_retF (.inr rfl) (v:=iv 1) (by kernel_rfl) rfl (fle_refl _)
 refine jc_skip ?_
 refine jx_seqN ?_
 refine jc_seq ?_
 refine jS ⟨[V 0 (iv a0),V 1 (iv a1),V 16 (bv (decide (a0 < a1)))],[],0⟩ ?_
 refine jIf ?_ ?_
 ·refine jS ⟨[V 4 (iv (-1))],[],0⟩ ?_
  refine jc_ret ?_
  refine jx_seqR ?_
  exact jx_retF (.inr rfl) (v:=iv (-1)) (by kernel_rfl) rfl (fle_refl _)
 refine jc_skip ?_
 refine jx_seqN ?_
 refine jc_seq ?_
 refine jS ⟨[V 19 (bv (decide (a0 > a1)))],[],0⟩ ?_
 refine jIf ?_ ?_
 ·refine jS ⟨[V 4 (iv 1)],[],0⟩ ?_
  refine jc_ret ?_
  refine jx_seqR ?_
  exact jx_retF (.inr rfl) (v:=iv 1) (by kernel_rfl) rfl (fle_refl _)
 refine jc_skip ?_
 refine jx_seqN ?_
 refine jS ⟨[V 4 (iv 0)],[],0⟩ ?_
 refine jc_ret ?_
 exact jx_retF (.inr rfl) (v:=iv 0) (by kernel_rfl) rfl (fle_refl _))
abbrev cmp_Or_int_r1:List LO:=[lo 2 (.assign (.const (.int .i64 0))) 3]
abbrev cmp_Or_int_r2:List LO:=[lo 3 (.assign (.const (.int .i64 0))) 3]
abbrev cmp_Or_int_r3:List LO:=[lm 6 0 76,lo 7 (.call ⟨.builtin .len,#[.tmp 6],#[76]⟩) 3,lo 8 (.move (.const (.int .i64 0))) 3]
abbrev cmp_Or_int_r4:List LO:=[lo 9 (.binOp .lss 3 (.tmp 8) (.tmp 7) 3) 0]
abbrev cmp_Or_int_r5:List LO:=[lo 10 (.indexAddr 76 (.tmp 6) (.tmp 8)) 0,lo 11 (.load 3 (.tmp 10)) 3,lo 5 (.assign (.tmp 11)) 3]
abbrev cmp_Or_int_r6:List LO:=[lm 12 5 3,lm 13 3 3,lo 14 (.binOp .neq 3 (.tmp 12) (.tmp 13) 3) 4]
abbrev cmp_Or_int_r7:List LO:=[lm 15 5 3,lo 2 (.assign (.tmp 15)) 3]
abbrev cmp_Or_int_r8:List LO:=[lo 16 (.binOp .add 3 (.tmp 8) (.const (.int .i64 1)) 3) 3,lm 8 16 3]
abbrev cmp_Or_int_r9:List LO:=[lm 17 3 3,lo 2 (.assign (.tmp 17)) 3]
abbrev cmp_Or_int_c:LC:=.seq (.reg false cmp_Or_int_r1) (.seq (.reg false cmp_Or_int_r2) (.seq (.seq (.reg false cmp_Or_int_r3) (.block 0 (.loop (.seq (.reg false cmp_Or_int_r4) (.seq (.cond (.tmp 9) .skip (.exit 0)) (.seq (.block 1 (.seq (.reg false cmp_Or_int_r5) (.seq (.reg false cmp_Or_int_r6) (.cond (.tmp 14) (.seq (.reg false cmp_Or_int_r7) .ret) .skip)))) (.reg false cmp_Or_int_r8))))))) (.seq (.reg false cmp_Or_int_r9) .ret)))
theorem cmp_Or_int_k:FnOk E 67 18 [.tmp 2] cmp_Or_int_c:=⟨⟨Go.Proofs.Tryz.f67,by kernel_rfl,by kernel_rfl,by kernel_rfl,by kernel_rfl,by kernel_rfl⟩,rfl,rfl⟩
noncomputable def cmp_Or_int_l1 (a0:(List Int)):Int→Option (Step (Int) ((Int) ⊕ (Unit))):=fun x2=>(if (decide (x2 < (List.length a0:Int)))=true then Option.bind (ixl a0 x2) (fun x6=>(if (x6 != 0)=true then some (Step.done (Sum.inl x6)) else some (Step.next (w64 (x2 + 1))))) else some (Step.done (Sum.inr ())))
noncomputable def cmp_Or_int (a0:(List Int)):Option (Int):=Option.bind (loopC (cmp_Or_int_l1 a0) 0) (fun y=>match y with | Sum.inl x5=>some x5 | Sum.inr _=>some 0)
theorem cmp_Or_int_ok (a0:(List Int)):Ct E 67 [.fsl 1 (List.map cI a0)] (cmp_Or_int a0) (fun r:Int=>iv r):=ct_intro (N:=18) (L:=cmp_Or_int_c) cmp_Or_int_k rfl (Nat.le_of_ble_eq_true rfl) (by kernel_rfl) (by
 unfold cmp_Or_int
 refine jS ⟨[V 0 (.fsl 1 (List.map cI a0))],[],0⟩ ?_
 refine jS ⟨[V 0 (.fsl 1 (List.map cI a0)),V 3 (iv 0)],[],0⟩ ?_
 refine jc_seq ?_
 refine jR ?_
 refine jG 0 3 ⟨[V 3 (iv 0),V 6 (.fsl 1 (List.map cI a0)),V 7 (iv (List.length (List.map cI a0):Int)),V 8 (iv 0)],[],0⟩ ?_
 simp only[List.length_map]
 refine jN ?_
 refine jc_block ?_
 refine jc_bind (fun y=>match y with | Sum.inl x5=>⟨[V 2 (iv x5)],[],0⟩ | Sum.inr _=>⟨[V 3 (iv 0)],[],0⟩) (fun y=>match y with | Sum.inl x5=>.ret | Sum.inr _=>(.exit 0)) (jc_loop (fun x2=>⟨[V 3 (iv 0),V 6 (.fsl 1 (List.map cI a0)),V 7 (iv (List.length a0:Int)),V 8 (iv x2)],[],0⟩) (wkR [] (fix_nil _) allp_nil) ?_) ?_
 ·intro x2
  unfold cmp_Or_int_l1
  refine jS ⟨[V 3 (iv 0),V 6 (.fsl 1 (List.map cI a0)),V 7 (iv (List.length a0:Int)),V 8 (iv x2),V 9 (bv (decide (x2 < (List.length a0:Int))))],[],0⟩ ?_
  refine jc_seq ?_
  refine jIf ?_ ?_
  ·refine jc_skip ?_
   refine jx_seqN ?_
   refine jc_seq ?_
   refine jc_block ?_
   refine jR ?_
   refine jr_part (i:=0) (mo:=ixl a0 x2) rfl rfl rfl rfl (fun _ hc=>aop_ixf (c:=cI) (sz:=1) (e:=3) (kk:=.i64) (by kernel_rfl) (by kernel_rfl) (by kernel_rfl) (by kernel_rfl) hc) (fun _=>rfl) ?_
   intro x6 h6
   refine jG 1 2 ⟨[V 3 (iv 0),V 5 (iv x6),V 6 (.fsl 1 (List.map cI a0)),V 7 (iv (List.length a0:Int)),V 8 (iv x2)],[],0⟩ ?_
   refine jN ?_
   refine jS ⟨[V 3 (iv 0),V 5 (iv x6),V 6 (.fsl 1 (List.map cI a0)),V 7 (iv (List.length a0:Int)),V 8 (iv x2),V 14 (bv (x6 != 0))],[],0⟩ ?_
   refine jIf ?_ ?_
   ·refine jS ⟨[V 2 (iv x6)],[],0⟩ ?_
    refine jc_ret ?_
    refine jx_blkR ?_
    refine jx_seqR ?_
    exact jx_done rfl nofun (wkR [] (fix_nil _) allp_nil)
   refine jc_skip ?_
   refine jx_blkN ?_
   refine jx_seqN ?_
   refine jT ⟨[V 3 (iv 0),V 6 (.fsl 1 (List.map cI a0)),V 7 (iv (List.length a0:Int)),V 8 (iv (w64 (x2 + 1)))],[],0⟩ ?_
   exact jx_next (wkR [] (fix_nil _) allp_nil)
  refine jc_exit ?_
  refine jx_seqE ?_
  exact jx_done rfl nofun (wkR [] (fix_nil _) allp_nil)
 rintro (x5 | _)
 ·refine jx_blkR ?_
  refine jx_seqR ?_
  exact jx_retF (.inr rfl) (v:=iv x5) (by kernel_rfl) rfl (fle_refl _)
 refine jx_blkE ?_
 refine jx_seqN ?_
 refine jS ⟨[V 2 (iv 0)],[],0⟩ ?_
 refine jc_ret ?_
 exact jx_retF (.inr rfl) (v:=iv 0) (by kernel_rfl) rfl (fle_refl _))
abbrev ref01_Texts_r1:List LO:=[lo 4 (.assign (.const (.int .i64 0))) 3]
abbrev ref01_Texts_r2:List LO:=[lm 6 0 9,lm 7 1 9,lo 8 (.binOp .lss 9 (.tmp 6) (.tmp 7) 9) 4,lo 5 (.assign (.tmp 8)) 4]
abbrev ref01_Texts_r3:List LO:=[lo 4 (.assign (.const (.int .i64 (-1)))) 3]
abbrev ref01_Texts_r4:List LO:=[lm 10 0 9,lm 11 1 9,lo 12 (.binOp .gtr 9 (.tmp 10) (.tmp 11) 9) 4,lo 9 (.assign (.tmp 12)) 4]
abbrev ref01_Texts_r5:List LO:=[lo 4 (.assign (.const (.int .i64 1))) 3]
abbrev ref01_Texts_r6:List LO:=[lo 4 (.assign (.const (.int .i64 0))) 3]
abbrev ref01_Texts_c:LC:=.seq (.reg false ref01_Texts_r1) (.seq (.block 0 (.seq (.reg false ref01_Texts_r2) (.cond (.tmp 5) (.seq (.reg false ref01_Texts_r3) .ret) (.seq (.reg false ref01_Texts_r4) (.cond (.tmp 9) (.seq (.reg false ref01_Texts_r5) .ret) .skip))))) (.seq (.reg false ref01_Texts_r6) .ret))
theorem ref01_Texts_k:FnOk E 107 13 [.tmp 4] ref01_Texts_c:=⟨⟨Go.Proofs.Tryz.f107,by kernel_rfl,by kernel_rfl,by kernel_rfl,by kernel_rfl,by kernel_rfl⟩,rfl,rfl⟩
noncomputable def ref01_Texts (a0:Str) (a1:Str):Option (Int):=(if (Op.bytesLess a0 a1)=true then some (-1) else (if (!(Op.bytesLess a0 a1 || a0 == a1))=true then some 1 else some 0))
theorem ref01_Texts_ok (a0:Str) (a1:Str):Ct E 107 [bs a0,bs a1] (ref01_Texts a0 a1) (fun r:Int=>iv r):=ct_intro (N:=13) (L:=ref01_Texts_c) ref01_Texts_k rfl (Nat.le_of_ble_eq_true rfl) (by kernel_rfl) (by
 unfold ref01_Texts
 refine jS ⟨[V 0 (bs a0),V 1 (bs a1)],[],0⟩ ?_
 refine jc_seq ?_
 refine jc_block ?_
 refine jS ⟨[V 0 (bs a0),V 1 (bs a1),V 5 (bv (Op.bytesLess a0 a1))],[],0⟩ ?_
 refine jIf ?_ ?_
 ·refine jS ⟨[V 4 (iv (-1))],[],0⟩ ?_
  refine jc_ret ?_
  refine jx_blkR ?_
  refine jx_seqR ?_
  exact jx_retF (.inr rfl) (v:=iv (-1)) (by kernel_rfl) rfl (fle_refl _)
 refine jS ⟨[V 9 (bv (!(Op.bytesLess a0 a1 || a0 == a1)))],[],0⟩ ?_
 refine jIf ?_ ?_
 ·refine jS ⟨[V 4 (iv 1)],[],0⟩ ?_
  refine jc_ret ?_
  refine jx_blkR ?_
  refine jx_seqR ?_
  exact jx_retF (.inr rfl) (v:=iv 1) (by kernel_rfl) rfl (fle_refl _)
 refine jc_skip ?_
 refine jx_blkN ?_
 refine jx_seqN ?_
 refine jS ⟨[V 4 (iv 0)],[],0⟩ ?_
 refine jc_ret ?_
 exact jx_retF (.inr rfl) (v:=iv 0) (by kernel_rfl) rfl (fle_refl _))
abbrev ref01_Trim_r1:List LO:=[lo 2 (.assign (.const (.string ⟨#[]⟩))) 9]
abbrev ref01_Trim_r2:List LO:=[lo 3 (.assign (.const (.int .i64 0))) 3]
abbrev ref01_Trim_r3:List LO:=[lm 4 3 3,lm 5 0 9,lo 6 (.call ⟨.builtin .len,#[.tmp 5],#[9]⟩) 3,lo 7 (.binOp .lss 3 (.tmp 4) (.tmp 6) 3) 4,lm 8 7 4,lmg 9 0 9 8 true,lmg 10 3 3 8 true,lg 11 (.index 9 (.tmp 9) (.tmp 10)) 5 8 true,lg 12 (.binOp .eql 5 (.tmp 11) (.const (.int .u8 48)) 5) 4 8 true,lo 13 (.pick (.tmp 8) (.tmp 12) (.const (.bool false))) 4]
abbrev ref01_Trim_r4:List LO:=[lm 14 3 3,lo 15 (.binOp .add 3 (.tmp 14) (.const (.int .i64 1)) 3) 3,lo 3 (.assign (.tmp 15)) 3]
abbrev ref01_Trim_r5:List LO:=[lm 16 3 3,lm 17 0 9,lo 18 (.call ⟨.builtin .len,#[.tmp 17],#[9]⟩) 3,lo 19 (.binOp .eql 3 (.tmp 16) (.tmp 18) 3) 4]
abbrev ref01_Trim_r6:List LO:=[lo 2 (.assign (.const (.string ⟨#[48]⟩))) 9]
abbrev ref01_Trim_r7:List LO:=[lm 20 0 9,lm 21 3 3,lo 22 (.slice 9 (.tmp 20) (some (.tmp 21)) none none) 9,lo 2 (.assign (.tmp 22)) 9]
abbrev ref01_Trim_c:LC:=.seq (.reg false ref01_Trim_r1) (.seq (.reg false ref01_Trim_r2) (.seq (.block 0 (.loop (.seq (.seq (.reg false ref01_Trim_r3) (.cond (.tmp 13) .skip (.exit 0))) (.block 1 (.reg false ref01_Trim_r4))))) (.seq (.seq (.reg false ref01_Trim_r5) (.cond (.tmp 19) (.seq (.reg false ref01_Trim_r6) .ret) .skip)) (.seq (.reg false ref01_Trim_r7) .ret))))
theorem ref01_Trim_k:FnOk E 98 23 [.tmp 2] ref01_Trim_c:=⟨⟨Go.Proofs.Tryz.f98,by kernel_rfl,by kernel_rfl,by kernel_rfl,by kernel_rfl,by kernel_rfl⟩,rfl,rfl⟩
noncomputable def ref01_Trim_l1 (a0:Str):Int→Option (Step (Int) (Int)):=fun x3=>Option.bind (if (decide (x3 < (List.length a0:Int)))=true then Option.bind (idx a0 x3) (fun x10=>some (x10 == 48)) else some false:Option (Bool)) (fun x9=>(if x9=true then some (Step.next (w64 (x3 + 1))) else some (Step.done x3)))
noncomputable def ref01_Trim (a0:Str):Option (Str):=Option.bind (loopC (ref01_Trim_l1 a0) 0) (fun x7=>(if (x7 == (List.length a0:Int))=true then some [48] else Option.bind (subl a0 x7 (List.length a0:Int)) (fun x11=>some x11)))
theorem ref01_Trim_ok (a0:Str):Ct E 98 [bs a0] (ref01_Trim a0) (fun r:Str=>bs r):=ct_intro (N:=23) (L:=ref01_Trim_c) ref01_Trim_k rfl (Nat.le_of_ble_eq_true rfl) (by kernel_rfl) (by
 unfold ref01_Trim
 refine jS ⟨[V 0 (bs a0)],[],0⟩ ?_
 refine jS ⟨[V 0 (bs a0),V 3 (iv 0)],[],0⟩ ?_
 refine jc_seq ?_
 refine jc_block ?_
 refine jc_bind (fun x7=>⟨[V 0 (bs a0),V 3 (iv x7)],[],0⟩) (fun x7=>(.exit 0)) (jc_loop (fun x3=>⟨[V 0 (bs a0),V 3 (iv x3)],[],0⟩) (wkR [] (fix_nil _) allp_nil) ?_) ?_
 ·intro x3
  unfold ref01_Trim_l1
  refine jc_seq ?_
  refine jR ?_
  refine jG 0 5 ⟨[V 0 (bs a0),V 3 (iv x3),V 8 (bv (decide (x3 < (List.length a0:Int))))],[],0⟩ ?_
  refine jr_bind 5 5 (fun x9=>⟨[V 0 (bs a0),V 3 (iv x3),V 13 (bv x9)],[],0⟩) ?_ ?_
  ·refine jSp 8 ?_ ?_
   ·refine jG 0 2 ⟨[V 0 (bs a0),V 3 (iv x3),(8,.lit true),V 9 (bs a0),V 10 (iv x3)],[],0⟩ ?_
    refine jr_part (i:=2) (mo:=idx a0 x3) rfl rfl rfl rfl (fun _ hc=>aop_index (kk:=.i64) (by kernel_rfl) (by kernel_rfl) (by kernel_rfl) hc) (fun _=>rfl) ?_
    intro x10 h10
    refine jG 3 2 ⟨[V 0 (bs a0),V 3 (iv x3),V 13 (bv (x10 == 48))],[],0⟩ ?_
    refine jr_nil rfl ?_
    exact jx_mid rfl (wkR [] (fix_nil _) allp_nil)
   refine jG 0 5 ⟨[V 0 (bs a0),V 3 (iv x3),V 13 (bv false)],[],0⟩ ?_
   refine jr_nil rfl ?_
   exact jx_mid rfl (wkR [] (fix_nil _) allp_nil)
  intro x9
  refine jN ?_
  refine jIf ?_ ?_
  ·refine jc_skip ?_
   refine jx_seqN ?_
   refine jc_block ?_
   refine jT ⟨[V 0 (bs a0),V 3 (iv (w64 (x3 + 1)))],[],0⟩ ?_
   refine jx_blkN ?_
   exact jx_next (wkR [] (fix_nil _) allp_nil)
  refine jc_exit ?_
  refine jx_seqE ?_
  exact jx_done rfl nofun (wkR [] (fix_nil _) allp_nil)
 intro x7
 refine jx_blkE ?_
 refine jx_seqN ?_
 refine jc_seq ?_
 refine jS ⟨[V 0 (bs a0),V 3 (iv x7),V 19 (bv (x7 == (List.length a0:Int)))],[],0⟩ ?_
 refine jIf ?_ ?_
 ·refine jS ⟨[V 2 (bs [48])],[],0⟩ ?_
  refine jc_ret ?_
  refine jx_seqR ?_
  exact jx_retF (.inr rfl) (v:=bs [48]) (by kernel_rfl) rfl (fle_refl _)
 refine jc_skip ?_
 refine jx_seqN ?_
 refine jR ?_
 refine jG 0 2 ⟨[V 20 (bs a0),V 21 (iv x7)],[],0⟩ ?_
 refine jr_part (i:=2) (mo:=subl a0 x7 (List.length a0:Int)) rfl rfl rfl rfl (fun _ hc=>aop_subs (by kernel_rfl) (by kernel_rfl) (by kernel_rfl) (by kernel_rfl) hc) (fun _=>rfl) ?_
 intro x11 h11
 refine jG 3 1 ⟨[V 2 (bs x11)],[],0⟩ ?_
 refine jN ?_
 refine jc_ret ?_
 exact jx_retF (.inr rfl) (v:=bs x11) (by kernel_rfl) rfl (fle_refl _))
abbrev ref01_Cmp_r1:List LO:=[lo 4 (.assign (.const (.int .i64 0))) 3]
abbrev ref01_Cmp_r2:List LO:=[lm 7 0 9,lo 8 (.call ⟨.value (.func 98),#[.tmp 7],#[9]⟩) 9,lo 5 (.assign (.tmp 8)) 9]
abbrev ref01_Cmp_r3:List LO:=[lm 9 1 9,lo 10 (.call ⟨.value (.func 98),#[.tmp 9],#[9]⟩) 9,lo 6 (.assign (.tmp 10)) 9]
abbrev ref01_Cmp_r4:List LO:=[lm 12 5 9,lo 13 (.call ⟨.builtin .len,#[.tmp 12],#[9]⟩) 3,lm 14 6 9,lo 15 (.call ⟨.builtin .len,#[.tmp 14],#[9]⟩) 3,lo 16 (.binOp .lss 3 (.tmp 13) (.tmp 15) 3) 4,lo 11 (.assign (.tmp 16)) 4]
abbrev ref01_Cmp_r5:List LO:=[lo 4 (.assign (.const (.int .i64 (-1)))) 3]
abbrev ref01_Cmp_r6:List LO:=[lm 18 5 9,lo 19 (.call ⟨.builtin .len,#[.tmp 18],#[9]⟩) 3,lm 20 6 9,lo 21 (.call ⟨.builtin .len,#[.tmp 20],#[9]⟩) 3,lo 22 (.binOp .gtr 3 (.tmp 19) (.tmp 21) 3) 4,lo 17 (.assign (.tmp 22)) 4]
abbrev ref01_Cmp_r7:List LO:=[lo 4 (.assign (.const (.int .i64 1))) 3]
abbrev ref01_Cmp_r8:List LO:=[lm 23 5 9,lm 24 6 9,lo 25 (.call ⟨.value (.func 107),#[.tmp 23,.tmp 24],#[9,9]⟩) 3,lo 4 (.assign (.tmp 25)) 3]
abbrev ref01_Cmp_c:LC:=.seq (.reg false ref01_Cmp_r1) (.seq (.reg false ref01_Cmp_r2) (.seq (.reg false ref01_Cmp_r3) (.seq (.block 0 (.seq (.reg false ref01_Cmp_r4) (.cond (.tmp 11) (.seq (.reg false ref01_Cmp_r5) .ret) (.seq (.reg false ref01_Cmp_r6) (.cond (.tmp 17) (.seq (.reg false ref01_Cmp_r7) .ret) .skip))))) (.seq (.reg false ref01_Cmp_r8) .ret))))
theorem ref01_Cmp_k:FnOk E 73 26 [.tmp 4] ref01_Cmp_c:=⟨⟨Go.Proofs.Tryz.f73,by kernel_rfl,by kernel_rfl,by kernel_rfl,by kernel_rfl,by kernel_rfl⟩,rfl,rfl⟩
noncomputable def ref01_Cmp (a0:Str) (a1:Str):Option (Int):=Option.bind (ref01_Trim a0) (fun x1=>Option.bind (ref01_Trim a1) (fun x2=>(if (decide ((List.length x1:Int) < (List.length x2:Int)))=true then some (-1) else (if (decide ((List.length x1:Int) > (List.length x2:Int)))=true then some 1 else Option.bind (ref01_Texts x1 x2) (fun x3=>some x3)))))
theorem ref01_Cmp_ok (a0:Str) (a1:Str):Ct E 73 [bs a0,bs a1] (ref01_Cmp a0 a1) (fun r:Int=>iv r):=ct_intro (N:=26) (L:=ref01_Cmp_c) ref01_Cmp_k rfl (Nat.le_of_ble_eq_true rfl) (by kernel_rfl) (by
 unfold ref01_Cmp
 refine jS ⟨[V 0 (bs a0),V 1 (bs a1)],[],0⟩ ?_
 refine jR ?_
 refine jG 0 1 ⟨[V 1 (bs a1),V 7 (bs a0)],[],0⟩ ?_
 refine jK 1 (ref01_Trim_ok a0) ?_
 intro x1 h1
 refine jG 2 1 ⟨[V 1 (bs a1),V 5 (bs x1)],[],0⟩ ?_
 refine jN ?_
 refine jR ?_
 refine jG 0 1 ⟨[V 5 (bs x1),V 9 (bs a1)],[],0⟩ ?_
 refine jK 1 (ref01_Trim_ok a1) ?_
 intro x2 h2
 refine jG 2 1 ⟨[V 5 (bs x1),V 6 (bs x2)],[],0⟩ ?_
 refine jN ?_
 refine jc_seq ?_
 refine jc_block ?_
 refine jS ⟨[V 5 (bs x1),V 6 (bs x2),V 11 (bv (decide ((List.length x1:Int) < (List.length x2:Int))))],[],0⟩ ?_
 refine jIf ?_ ?_
 ·refine jS ⟨[V 4 (iv (-1))],[],0⟩ ?_
  refine jc_ret ?_
  refine jx_blkR ?_
  refine jx_seqR ?_
  exact jx_retF (.inr rfl) (v:=iv (-1)) (by kernel_rfl) rfl (fle_refl _)
 refine jS ⟨[V 5 (bs x1),V 6 (bs x2),V 17 (bv (decide ((List.length x1:Int) > (List.length x2:Int))))],[],0⟩ ?_
 refine jIf ?_ ?_
 ·refine jS ⟨[V 4 (iv 1)],[],0⟩ ?_
  refine jc_ret ?_
  refine jx_blkR ?_
  refine jx_seqR ?_
  exact jx_retF (.inr rfl) (v:=iv 1) (by kernel_rfl) rfl (fle_refl _)
 refine jc_skip ?_
 refine jx_blkN ?_
 refine jx_seqN ?_
 refine jR ?_
 refine jG 0 2 ⟨[V 23 (bs x1),V 24 (bs x2)],[],0⟩ ?_
 refine jK 2 (ref01_Texts_ok x1 x2) ?_
 intro x3 h3
 refine jG 3 1 ⟨[V 4 (iv x3)],[],0⟩ ?_
 refine jN ?_
 refine jc_ret ?_
 exact jx_retF (.inr rfl) (v:=iv x3) (by kernel_rfl) rfl (fle_refl _))
abbrev ref01_Is_r1:List LO:=[lo 4 (.assign (.const (.bool false))) 4]
abbrev ref01_Is_r2:List LO:=[lm 9 0 5,lo 10 (.binOp .geq 5 (.tmp 9) (.const (.int .u8 48)) 5) 4,lm 11 10 4,lmg 12 0 5 11 true,lg 13 (.binOp .leq 5 (.tmp 12) (.const (.int .u8 57)) 5) 4 11 true,lo 14 (.pick (.tmp 11) (.tmp 13) (.const (.bool false))) 4,lo 5 (.assign (.tmp 14)) 4]
abbrev ref01_Is_r3:List LO:=[lm 15 0 5,lo 16 (.binOp .geq 5 (.tmp 15) (.const (.int .u8 97)) 5) 4,lm 17 16 4,lmg 18 0 5 17 true,lg 19 (.binOp .leq 5 (.tmp 18) (.const (.int .u8 122)) 5) 4 17 true,lo 20 (.pick (.tmp 17) (.tmp 19) (.const (.bool false))) 4,lo 6 (.assign (.tmp 20)) 4]
abbrev ref01_Is_r4:List LO:=[lm 21 0 5,lo 22 (.binOp .geq 5 (.tmp 21) (.const (.int .u8 65)) 5) 4,lm 23 22 4,lmg 24 0 5 23 true,lg 25 (.binOp .leq 5 (.tmp 24) (.const (.int .u8 90)) 5) 4 23 true,lo 26 (.pick (.tmp 23) (.tmp 25) (.const (.bool false))) 4,lo 7 (.assign (.tmp 26)) 4]
abbrev ref01_Is_r5:List LO:=[lm 27 0 5,lo 28 (.binOp .eql 5 (.tmp 27) (.const (.int .u8 32)) 5) 4,lm 29 28 4,lmg 30 0 5 29 false,lg 31 (.binOp .eql 5 (.tmp 30) (.const (.int .u8 9)) 5) 4 29 false,lo 32 (.pick (.tmp 29) (.const (.bool true)) (.tmp 31)) 4,lo 8 (.assign (.tmp 32)) 4]
abbrev ref01_Is_r6:List LO:=[lm 33 1 3]
abbrev ref01_Is_r7:List LO:=[lo 35 (.binOp .eql 3 (.tmp 33) (.const (.int .i64 1)) 3) 4,lo 34 (.assign (.tmp 35)) 4]
abbrev ref01_Is_r8:List LO:=[lm 36 5 4,lo 4 (.assign (.tmp 36)) 4]
abbrev ref01_Is_r9:List LO:=[lo 38 (.binOp .eql 3 (.tmp 33) (.const (.int .i64 2)) 3) 4,lo 37 (.assign (.tmp 38)) 4]
abbrev ref01_Is_r10:List LO:=[lm 39 6 4,lo 4 (.assign (.tmp 39)) 4]
abbrev ref01_Is_r11:List LO:=[lo 41 (.binOp .eql 3 (.tmp 33) (.const (.int .i64 3)) 3) 4,lo 40 (.assign (.tmp 41)) 4]
abbrev ref01_Is_r12:List LO:=[lm 42 7 4,lo 4 (.assign (.tmp 42)) 4]
abbrev ref01_Is_r13:List LO:=[lo 44 (.binOp .eql 3 (.tmp 33) (.const (.int .i64 4)) 3) 4,lo 43 (.assign (.tmp 44)) 4]
abbrev ref01_Is_r14:List LO:=[lm 45 6 4,lm 46 45 4,lmg 47 7 4 46 false,lo 48 (.pick (.tmp 46) (.const (.bool true)) (.tmp 47)) 4,lo 4 (.assign (.tmp 48)) 4]
abbrev ref01_Is_r15:List LO:=[lo 50 (.binOp .eql 3 (.tmp 33) (.const (.int .i64 5)) 3) 4,lo 49 (.assign (.tmp 50)) 4]
abbrev ref01_Is_r16:List LO:=[lm 51 6 4,lm 52 51 4,lmg 53 7 4 52 false,lo 54 (.pick (.tmp 52) (.const (.bool true)) (.tmp 53)) 4,lm 55 54 4,lmg 56 5 4 55 false,lo 57 (.pick (.tmp 55) (.const (.bool true)) (.tmp 56)) 4,lo 4 (.assign (.tmp 57)) 4]
abbrev ref01_Is_r17:List LO:=[lo 59 (.binOp .eql 3 (.tmp 33) (.const (.int .i64 6)) 3) 4,lo 58 (.assign (.tmp 59)) 4]
abbrev ref01_Is_r18:List LO:=[lm 60 8 4,lo 4 (.assign (.tmp 60)) 4]
abbrev ref01_Is_r19:List LO:=[lo 62 (.binOp .eql 3 (.tmp 33) (.const (.int .i64 7)) 3) 4,lo 61 (.assign (.tmp 62)) 4]
abbrev ref01_Is_r20:List LO:=[lm 63 8 4,lm 64 63 4,lmg 65 0 5 64 false,lg 66 (.binOp .eql 5 (.tmp 65) (.const (.int .u8 10)) 5) 4 64 false,lo 67 (.pick (.tmp 64) (.const (.bool true)) (.tmp 66)) 4,lm 68 67 4,lmg 69 0 5 68 false,lg 70 (.binOp .eql 5 (.tmp 69) (.const (.int .u8 13)) 5) 4 68 false,lo 71 (.pick (.tmp 68) (.const (.bool true)) (.tmp 70)) 4,lo 4 (.assign (.tmp 71)) 4]
abbrev ref01_Is_r21:List LO:=[lo 4 (.assign (.const (.bool false))) 4]
abbrev ref01_Is_c:LC:=.seq (.reg false ref01_Is_r1) (.seq (.reg false ref01_Is_r2) (.seq (.reg false ref01_Is_r3) (.seq (.reg false ref01_Is_r4) (.seq (.reg false ref01_Is_r5) (.seq (.seq (.reg false ref01_Is_r6) (.block 0 (.seq (.reg false ref01_Is_r7) (.cond (.tmp 34) (.seq (.reg false ref01_Is_r8) .ret) (.seq (.reg false ref01_Is_r9) (.cond (.tmp 37) (.seq (.reg false ref01_Is_r10) .ret) (.seq (.reg false ref01_Is_r11) (.cond (.tmp 40) (.seq (.reg false ref01_Is_r12) .ret) (.seq (.reg false ref01_Is_r13) (.cond (.tmp 43) (.seq (.reg false ref01_Is_r14) .ret) (.seq (.reg false ref01_Is_r15) (.cond (.tmp 49) (.seq (.reg false ref01_Is_r16) .ret) (.seq (.reg false ref01_Is_r17) (.cond (.tmp 58) (.seq (.reg false ref01_Is_r18) .ret) (.seq (.reg false ref01_Is_r19) (.cond (.tmp 61) (.seq (.reg false ref01_Is_r20) .ret) .skip)))))))))))))))) (.seq (.reg false ref01_Is_r21) .ret))))))
theorem ref01_Is_k:FnOk E 97 72 [.tmp 4] ref01_Is_c:=⟨⟨Go.Proofs.Tryz.f97,by kernel_rfl,by kernel_rfl,by kernel_rfl,by kernel_rfl,by kernel_rfl⟩,rfl,rfl⟩
noncomputable def ref01_Is (a0:Int) (a1:Int):Option (Bool):=(if (a1 == 1)=true then some ((decide (a0≥48)) && (decide (a0≤57))) else (if (a1 == 2)=true then some ((decide (a0≥97)) && (decide (a0≤122))) else (if (a1 == 3)=true then some ((decide (a0≥65)) && (decide (a0≤90))) else (if (a1 == 4)=true then some (((decide (a0≥97)) && (decide (a0≤122))) || ((decide (a0≥65)) && (decide (a0≤90)))) else (if (a1 == 5)=true then some ((((decide (a0≥97)) && (decide (a0≤122))) || ((decide (a0≥65)) && (decide (a0≤90)))) || ((decide (a0≥48)) && (decide (a0≤57)))) else (if (a1 == 6)=true then some ((a0 == 32) || (a0 == 9)) else (if (a1 == 7)=true then some ((((a0 == 32) || (a0 == 9)) || (a0 == 10)) || (a0 == 13)) else some false)))))))
theorem ref01_Is_ok (a0:Int) (a1:Int):Ct E 97 [.s (.int .u8 a0),iv a1] (ref01_Is a0 a1) (fun r:Bool=>bv r):=ct_intro (N:=72) (L:=ref01_Is_c) ref01_Is_k rfl (Nat.le_of_ble_eq_true rfl) (by kernel_rfl) (by
 unfold ref01_Is
 refine jS ⟨[V 0 (.s (.int .u8 a0)),V 1 (iv a1)],[],0⟩ ?_
 refine jS ⟨[V 0 (.s (.int .u8 a0)),V 1 (iv a1),V 5 (bv ((decide (a0≥48)) && (decide (a0≤57))))],[],0⟩ ?_
 refine jS ⟨[V 0 (.s (.int .u8 a0)),V 1 (iv a1),V 5 (bv ((decide (a0≥48)) && (decide (a0≤57)))),V 6 (bv ((decide (a0≥97)) && (decide (a0≤122))))],[],0⟩ ?_
 refine jS ⟨[V 0 (.s (.int .u8 a0)),V 1 (iv a1),V 5 (bv ((decide (a0≥48)) && (decide (a0≤57)))),V 6 (bv ((decide (a0≥97)) && (decide (a0≤122)))),V 7 (bv ((decide (a0≥65)) && (decide (a0≤90))))],[],0⟩ ?_
 refine jS ⟨[V 0 (.s (.int .u8 a0)),V 1 (iv a1),V 5 (bv ((decide (a0≥48)) && (decide (a0≤57)))),V 6 (bv ((decide (a0≥97)) && (decide (a0≤122)))),V 7 (bv ((decide (a0≥65)) && (decide (a0≤90)))),V 8 (bv ((a0 == 32) || (a0 == 9)))],[],0⟩ ?_
 refine jc_seq ?_
 refine jS ⟨[V 0 (.s (.int .u8 a0)),V 5 (bv ((decide (a0≥48)) && (decide (a0≤57)))),V 6 (bv ((decide (a0≥97)) && (decide (a0≤122)))),V 7 (bv ((decide (a0≥65)) && (decide (a0≤90)))),V 8 (bv ((a0 == 32) || (a0 == 9))),V 33 (iv a1)],[],0⟩ ?_
 refine jc_block ?_
 refine jS ⟨[V 0 (.s (.int .u8 a0)),V 5 (bv ((decide (a0≥48)) && (decide (a0≤57)))),V 6 (bv ((decide (a0≥97)) && (decide (a0≤122)))),V 7 (bv ((decide (a0≥65)) && (decide (a0≤90)))),V 8 (bv ((a0 == 32) || (a0 == 9))),V 33 (iv a1),V 34 (bv (a1 == 1))],[],0⟩ ?_
 refine jIf ?_ ?_
 ·refine jS ⟨[V 4 (bv ((decide (a0≥48)) && (decide (a0≤57))))],[],0⟩ ?_
  refine jc_ret ?_
  refine jx_blkR ?_
  refine jx_seqR ?_
  exact jx_retF (.inr rfl) (v:=bv ((decide (a0≥48)) && (decide (a0≤57)))) (by kernel_rfl) rfl (fle_refl _)
 refine jS ⟨[V 0 (.s (.int .u8 a0)),V 5 (bv ((decide (a0≥48)) && (decide (a0≤57)))),V 6 (bv ((decide (a0≥97)) && (decide (a0≤122)))),V 7 (bv ((decide (a0≥65)) && (decide (a0≤90)))),V 8 (bv ((a0 == 32) || (a0 == 9))),V 33 (iv a1),V 37 (bv (a1 == 2))],[],0⟩ ?_
 refine jIf ?_ ?_
 ·refine jS ⟨[V 4 (bv ((decide (a0≥97)) && (decide (a0≤122))))],[],0⟩ ?_
  refine jc_ret ?_
  refine jx_blkR ?_
  refine jx_seqR ?_
  exact jx_retF (.inr rfl) (v:=bv ((decide (a0≥97)) && (decide (a0≤122)))) (by kernel_rfl) rfl (fle_refl _)
 refine jS ⟨[V 0 (.s (.int .u8 a0)),V 5 (bv ((decide (a0≥48)) && (decide (a0≤57)))),V 6 (bv ((decide (a0≥97)) && (decide (a0≤122)))),V 7 (bv ((decide (a0≥65)) && (decide (a0≤90)))),V 8 (bv ((a0 == 32) || (a0 == 9))),V 33 (iv a1),V 40 (bv (a1 == 3))],[],0⟩ ?_
 refine jIf ?_ ?_
 ·refine jS ⟨[V 4 (bv ((decide (a0≥65)) && (decide (a0≤90))))],[],0⟩ ?_
  refine jc_ret ?_
  refine jx_blkR ?_
  refine jx_seqR ?_
  exact jx_retF (.inr rfl) (v:=bv ((decide (a0≥65)) && (decide (a0≤90)))) (by kernel_rfl) rfl (fle_refl _)
 refine jS ⟨[V 0 (.s (.int .u8 a0)),V 5 (bv ((decide (a0≥48)) && (decide (a0≤57)))),V 6 (bv ((decide (a0≥97)) && (decide (a0≤122)))),V 7 (bv ((decide (a0≥65)) && (decide (a0≤90)))),V 8 (bv ((a0 == 32) || (a0 == 9))),V 33 (iv a1),V 43 (bv (a1 == 4))],[],0⟩ ?_
 refine jIf ?_ ?_
 ·refine jS ⟨[V 4 (bv (((decide (a0≥97)) && (decide (a0≤122))) || ((decide (a0≥65)) && (decide (a0≤90)))))],[],0⟩ ?_
  refine jc_ret ?_
  refine jx_blkR ?_
  refine jx_seqR ?_
  exact jx_retF (.inr rfl) (v:=bv (((decide (a0≥97)) && (decide (a0≤122))) || ((decide (a0≥65)) && (decide (a0≤90))))) (by kernel_rfl) rfl (fle_refl _)
 refine jS ⟨[V 0 (.s (.int .u8 a0)),V 5 (bv ((decide (a0≥48)) && (decide (a0≤57)))),V 6 (bv ((decide (a0≥97)) && (decide (a0≤122)))),V 7 (bv ((decide (a0≥65)) && (decide (a0≤90)))),V 8 (bv ((a0 == 32) || (a0 == 9))),V 33 (iv a1),V 49 (bv (a1 == 5))],[],0⟩ ?_
 refine jIf ?_ ?_
 ·refine jS ⟨[V 4 (bv ((((decide (a0≥97)) && (decide (a0≤122))) || ((decide (a0≥65)) && (decide (a0≤90)))) || ((decide (a0≥48)) && (decide (a0≤57)))))],[],0⟩ ?_
  refine jc_ret ?_
  refine jx_blkR ?_
  refine jx_seqR ?_
  exact jx_retF (.inr rfl) (v:=bv ((((decide (a0≥97)) && (decide (a0≤122))) || ((decide (a0≥65)) && (decide (a0≤90)))) || ((decide (a0≥48)) && (decide (a0≤57))))) (by kernel_rfl) rfl (fle_refl _)
 refine jS ⟨[V 0 (.s (.int .u8 a0)),V 8 (bv ((a0 == 32) || (a0 == 9))),V 33 (iv a1),V 58 (bv (a1 == 6))],[],0⟩ ?_
 refine jIf ?_ ?_
 ·refine jS ⟨[V 4 (bv ((a0 == 32) || (a0 == 9)))],[],0⟩ ?_
  refine jc_ret ?_
  refine jx_blkR ?_
  refine jx_seqR ?_
  exact jx_retF (.inr rfl) (v:=bv ((a0 == 32) || (a0 == 9))) (by kernel_rfl) rfl (fle_refl _)
 refine jS ⟨[V 0 (.s (.int .u8 a0)),V 8 (bv ((a0 == 32) || (a0 == 9))),V 61 (bv (a1 == 7))],[],0⟩ ?_
 refine jIf ?_ ?_
 ·refine jS ⟨[V 4 (bv ((((a0 == 32) || (a0 == 9)) || (a0 == 10)) || (a0 == 13)))],[],0⟩ ?_
  refine jc_ret ?_
  refine jx_blkR ?_
  refine jx_seqR ?_
  exact jx_retF (.inr rfl) (v:=bv ((((a0 == 32) || (a0 == 9)) || (a0 == 10)) || (a0 == 13))) (by kernel_rfl) rfl (fle_refl _)
 refine jc_skip ?_
 refine jx_blkN ?_
 refine jx_seqN ?_
 refine jS ⟨[V 4 (bv false)],[],0⟩ ?_
 refine jc_ret ?_
 exact jx_retF (.inr rfl) (v:=bv false) (by kernel_rfl) rfl (fle_refl _))
abbrev ref01_Run_r1:List LO:=[lo 6 (.assign (.const (.int .i64 0))) 3]
abbrev ref01_Run_r2:List LO:=[lm 7 1 3,lo 8 (.binOp .lss 3 (.tmp 7) (.const (.int .i64 0)) 3) 4,lm 9 8 4,lmg 10 1 3 9 false,lmg 11 0 9 9 false,lg 12 (.call ⟨.builtin .len,#[.tmp 11],#[9]⟩) 3 9 false,lg 13 (.binOp .gtr 3 (.tmp 10) (.tmp 12) 3) 4 9 false,lo 14 (.pick (.tmp 9) (.const (.bool true)) (.tmp 13)) 4]
abbrev ref01_Run_r3:List LO:=[lm 15 1 3,lo 6 (.assign (.tmp 15)) 3]
abbrev ref01_Run_r4:List LO:=[lm 16 1 3,lm 17 0 9,lo 18 (.call ⟨.builtin .len,#[.tmp 17],#[9]⟩) 3,lo 19 (.binOp .lss 3 (.tmp 16) (.tmp 18) 3) 4,lm 20 19 4,lmg 21 0 9 20 true,lmg 22 1 3 20 true,lg 23 (.index 9 (.tmp 21) (.tmp 22)) 5 20 true,lmg 24 2 3 20 true,lg 25 (.call ⟨.value (.func 97),#[.tmp 23,.tmp 24],#[5,3]⟩) 4 20 true,lo 26 (.pick (.tmp 20) (.tmp 25) (.const (.bool false))) 4]
abbrev ref01_Run_r5:List LO:=[lm 27 1 3,lo 28 (.binOp .add 3 (.tmp 27) (.const (.int .i64 1)) 3) 3,lo 1 (.assign (.tmp 28)) 3]
abbrev ref01_Run_r6:List LO:=[lm 29 1 3,lo 6 (.assign (.tmp 29)) 3]
abbrev ref01_Run_c:LC:=.seq (.reg false ref01_Run_r1) (.seq (.seq (.reg false ref01_Run_r2) (.cond (.tmp 14) (.seq (.reg false ref01_Run_r3) .ret) .skip)) (.seq (.block 0 (.loop (.seq (.seq (.reg false ref01_Run_r4) (.cond (.tmp 26) .skip (.exit 0))) (.block 1 (.reg false ref01_Run_r5))))) (.seq (.reg false ref01_Run_r6) .ret)))
theorem ref01_Run_k:FnOk E 44 30 [.tmp 6] ref01_Run_c:=⟨⟨Go.Proofs.Tryz.f44,by kernel_rfl,by kernel_rfl,by kernel_rfl,by kernel_rfl,by kernel_rfl⟩,rfl,rfl⟩
noncomputable def ref01_Run_l1 (a0:Str) (a2:Int):Int→Option (Step (Int) (Int)):=fun x4=>Option.bind (if (decide (x4 < (List.length a0:Int)))=true then Option.bind (idx a0 x4) (fun x13=>Option.bind (ref01_Is x13 a2) (fun x14=>some x14)) else some false:Option (Bool)) (fun x12=>(if x12=true then some (Step.next (w64 (x4 + 1))) else some (Step.done x4)))
noncomputable def ref01_Run (a0:Str) (a1:Int) (a2:Int):Option (Int):=(if ((decide (a1 < 0)) || (decide (a1 > (List.length a0:Int))))=true then some a1 else Option.bind (loopC (ref01_Run_l1 a0 a2) a1) (fun x9=>some x9))
theorem ref01_Run_ok (a0:Str) (a1:Int) (a2:Int):Ct E 44 [bs a0,iv a1,iv a2] (ref01_Run a0 a1 a2) (fun r:Int=>iv r):=ct_intro (N:=30) (L:=ref01_Run_c) ref01_Run_k rfl (Nat.le_of_ble_eq_true rfl) (by kernel_rfl) (by
 unfold ref01_Run
 refine jS ⟨[V 0 (bs a0),V 1 (iv a1),V 2 (iv a2)],[],0⟩ ?_
 refine jc_seq ?_
 refine jS ⟨[V 0 (bs a0),V 1 (iv a1),V 2 (iv a2),V 14 (bv ((decide (a1 < 0)) || (decide (a1 > (List.length a0:Int)))))],[],0⟩ ?_
 refine jIf ?_ ?_
 ·refine jS ⟨[V 6 (iv a1)],[],0⟩ ?_
  refine jc_ret ?_
  refine jx_seqR ?_
  exact jx_retF (.inr rfl) (v:=iv a1) (by kernel_rfl) rfl (fle_refl _)
 refine jc_skip ?_
 refine jx_seqN ?_
 refine jc_seq ?_
 refine jc_block ?_
 refine jc_bind (fun x9=>⟨[V 1 (iv x9)],[],0⟩) (fun x9=>(.exit 0)) (jc_loop (fun x4=>⟨[V 0 (bs a0),V 1 (iv x4),V 2 (iv a2)],[],0⟩) (wkR [] (fix_nil _) allp_nil) ?_) ?_
 ·intro x4
  unfold ref01_Run_l1
  refine jc_seq ?_
  refine jR ?_
  refine jG 0 5 ⟨[V 0 (bs a0),V 1 (iv x4),V 2 (iv a2),V 20 (bv (decide (x4 < (List.length a0:Int))))],[],0⟩ ?_
  refine jr_bind 5 6 (fun x12=>⟨[V 0 (bs a0),V 1 (iv x4),V 2 (iv a2),V 26 (bv x12)],[],0⟩) ?_ ?_
  ·refine jSp 20 ?_ ?_
   ·refine jG 0 2 ⟨[V 0 (bs a0),V 1 (iv x4),V 2 (iv a2),(20,.lit true),V 21 (bs a0),V 22 (iv x4)],[],0⟩ ?_
    refine jr_part (i:=2) (mo:=idx a0 x4) rfl rfl rfl rfl (fun _ hc=>aop_index (kk:=.i64) (by kernel_rfl) (by kernel_rfl) (by kernel_rfl) hc) (fun _=>rfl) ?_
    intro x13 h13
    refine jG 3 1 ⟨[V 0 (bs a0),V 1 (iv x4),V 2 (iv a2),(20,.lit true),V 23 (.s (.int .u8 x13)),V 24 (iv a2)],[],0⟩ ?_
    refine jK 4 (ref01_Is_ok x13 a2) ?_
    intro x14 h14
    refine jG 5 1 ⟨[V 0 (bs a0),V 1 (iv x4),V 2 (iv a2),V 26 (bv x14)],[],0⟩ ?_
    refine jr_nil rfl ?_
    exact jx_mid rfl (wkR [] (fix_nil _) allp_nil)
   refine jG 0 6 ⟨[V 0 (bs a0),V 1 (iv x4),V 2 (iv a2),V 26 (bv false)],[],0⟩ ?_
   refine jr_nil rfl ?_
   exact jx_mid rfl (wkR [] (fix_nil _) allp_nil)
  intro x12
  refine jN ?_
  refine jIf ?_ ?_
  ·refine jc_skip ?_
   refine jx_seqN ?_
   refine jc_block ?_
   refine jT ⟨[V 0 (bs a0),V 1 (iv (w64 (x4 + 1))),V 2 (iv a2)],[],0⟩ ?_
   refine jx_blkN ?_
   exact jx_next (wkR [] (fix_nil _) allp_nil)
  refine jc_exit ?_
  refine jx_seqE ?_
  exact jx_done rfl nofun (wkR [] (fix_nil _) allp_nil)
 intro x9
 refine jx_blkE ?_
 refine jx_seqN ?_
 refine jS ⟨[V 6 (iv x9)],[],0⟩ ?_
 refine jc_ret ?_
 exact jx_retF (.inr rfl) (v:=iv x9) (by kernel_rfl) rfl (fle_refl _))
abbrev strings_Compare_r1:List LO:=[lo 4 (.assign (.const (.int .i64 0))) 3]
abbrev strings_Compare_r2:List LO:=[lm 5 0 9,lm 6 1 9,lo 7 (.call ⟨.value (.func 140),#[.tmp 5,.tmp 6],#[9,9]⟩) 3,lo 4 (.assign (.tmp 7)) 3]
abbrev strings_Compare_c:LC:=.seq (.reg false strings_Compare_r1) (.seq (.reg false strings_Compare_r2) .ret)
theorem strings_Compare_k:FnOk E 103 8 [.tmp 4] strings_Compare_c:=⟨⟨Go.Proofs.Tryz.f103,by kernel_rfl,by kernel_rfl,by kernel_rfl,by kernel_rfl,by kernel_rfl⟩,rfl,rfl⟩
noncomputable def strings_Compare (a0:Str) (a1:Str):Option (Int):=Option.bind (bytealg_CompareString a0 a1) (fun x1=>some x1)
theorem strings_Compare_ok (a0:Str) (a1:Str):Ct E 103 [bs a0,bs a1] (strings_Compare a0 a1) (fun r:Int=>iv r):=ct_intro (N:=8) (L:=strings_Compare_c) strings_Compare_k rfl (Nat.le_of_ble_eq_true rfl) (by kernel_rfl) (by
 unfold strings_Compare
 refine jS ⟨[V 0 (bs a0),V 1 (bs a1)],[],0⟩ ?_
 refine jR ?_
 refine jG 0 2 ⟨[V 5 (bs a0),V 6 (bs a1)],[],0⟩ ?_
 refine jr_callPF (i:=2) rfl rfl (vs:=[bs a0,bs a1]) (by kernel_rfl) rfl (bytealg_CompareString_ok a0 a1) (fun _=>rfl) ?_
 intro x1 h1
 refine jG 3 1 ⟨[V 4 (iv x1)],[],0⟩ ?_
 refine jN ?_
 refine jc_ret ?_
 exact jx_retF (.inr rfl) (v:=iv x1) (by kernel_rfl) rfl (fle_refl _))
abbrev strings_trimLeftByte_r1:List LO:=[lo 4 (.assign (.const (.string ⟨#[]⟩))) 9]
abbrev strings_trimLeftByte_r2:List LO:=[lm 5 0 9,lo 6 (.call ⟨.builtin .len,#[.tmp 5],#[9]⟩) 3,lo 7 (.binOp .gtr 3 (.tmp 6) (.const (.int .i64 0)) 3) 4,lm 8 7 4,lmg 9 0 9 8 true,lg 10 (.index 9 (.tmp 9) (.const (.int .i64 0))) 5 8 true,lmg 11 1 5 8 true,lg 12 (.binOp .eql 5 (.tmp 10) (.tmp 11) 5) 4 8 true,lo 13 (.pick (.tmp 8) (.tmp 12) (.const (.bool false))) 4]
abbrev strings_trimLeftByte_r3:List LO:=[lm 14 0 9,lo 15 (.slice 9 (.tmp 14) (some (.const (.int .i64 1))) none none) 9,lo 0 (.assign (.tmp 15)) 9]
abbrev strings_trimLeftByte_r4:List LO:=[lm 16 0 9,lo 4 (.assign (.tmp 16)) 9]
abbrev strings_trimLeftByte_c:LC:=.seq (.reg false strings_trimLeftByte_r1) (.seq (.block 0 (.loop (.seq (.seq (.reg false strings_trimLeftByte_r2) (.cond (.tmp 13) .skip (.exit 0))) (.block 1 (.reg false strings_trimLeftByte_r3))))) (.seq (.reg false strings_trimLeftByte_r4) .ret))
theorem strings_trimLeftByte_k:FnOk E 149 17 [.tmp 4] strings_trimLeftByte_c:=⟨⟨Go.Proofs.Tryz.f149,by kernel_rfl,by kernel_rfl,by kernel_rfl,by kernel_rfl,by kernel_rfl⟩,rfl,rfl⟩
noncomputable def strings_trimLeftByte_l1 (a1:Int):Str→Option (Step (Str) (Str)):=fun x4=>Option.bind (if (decide ((List.length x4:Int) > 0))=true then Option.bind (idx x4 0) (fun x12=>some (x12 == a1)) else some false:Option (Bool)) (fun x11=>(if x11=true then Option.bind (subl x4 1 (List.length x4:Int)) (fun x13=>some (Step.next x13)) else some (Step.done x4)))
noncomputable def strings_trimLeftByte (a0:Str) (a1:Int):Option (Str):=Option.bind (loopC (strings_trimLeftByte_l1 a1) a0) (fun x9=>some x9)
theorem strings_trimLeftByte_ok (a0:Str) (a1:Int):Ct E 149 [bs a0,.s (.int .u8 a1)] (strings_trimLeftByte a0 a1) (fun r:Str=>bs r):=ct_intro (N:=17) (L:=strings_trimLeftByte_c) strings_trimLeftByte_k rfl (Nat.le_of_ble_eq_true rfl) (by kernel_rfl) (by
 unfold strings_trimLeftByte
 refine jS ⟨[V 0 (bs a0),V 1 (.s (.int .u8 a1))],[],0⟩ ?_
 refine jc_seq ?_
 refine jc_block ?_
 refine jc_bind (fun x9=>⟨[V 0 (bs x9)],[],0⟩) (fun x9=>(.exit 0)) (jc_loop (fun x4=>⟨[V 0 (bs x4),V 1 (.s (.int .u8 a1))],[],0⟩) (wkR [] (fix_nil _) allp_nil) ?_) ?_
 ·intro x4
  unfold strings_trimLeftByte_l1
  refine jc_seq ?_
  refine jR ?_
  refine jG 0 4 ⟨[V 0 (bs x4),V 1 (.s (.int .u8 a1)),V 8 (bv (decide ((List.length x4:Int) > 0)))],[],0⟩ ?_
  refine jr_bind 4 5 (fun x11=>⟨[V 0 (bs x4),V 1 (.s (.int .u8 a1)),V 13 (bv x11)],[],0⟩) ?_ ?_
  ·refine jSp 8 ?_ ?_
   ·refine jG 0 1 ⟨[V 0 (bs x4),V 1 (.s (.int .u8 a1)),(8,.lit true),V 9 (bs x4)],[],0⟩ ?_
    refine jr_part (i:=1) (mo:=idx x4 0) rfl rfl rfl rfl (fun _ hc=>aop_index (kk:=.i64) (by kernel_rfl) (by kernel_rfl) (by kernel_rfl) hc) (fun _=>rfl) ?_
    intro x12 h12
    refine jG 2 3 ⟨[V 0 (bs x4),V 1 (.s (.int .u8 a1)),V 13 (bv (x12 == a1))],[],0⟩ ?_
    refine jr_nil rfl ?_
    exact jx_mid rfl (wkR [] (fix_nil _) allp_nil)
   refine jG 0 5 ⟨[V 0 (bs x4),V 1 (.s (.int .u8 a1)),V 13 (bv false)],[],0⟩ ?_
   refine jr_nil rfl ?_
   exact jx_mid rfl (wkR [] (fix_nil _) allp_nil)
  intro x11
  refine jN ?_
  refine jIf ?_ ?_
  ·refine jc_skip ?_
   refine jx_seqN ?_
   refine jc_block ?_
   refine jc_reg ?_
   refine jG 0 1 ⟨[V 1 (.s (.int .u8 a1)),V 14 (bs x4)],[],0⟩ ?_
   refine jr_part (i:=1) (mo:=subl x4 1 (List.length x4:Int)) rfl rfl rfl rfl (fun _ hc=>aop_subs (by kernel_rfl) (by kernel_rfl) (by kernel_rfl) (by kernel_rfl) hc) (fun _=>rfl) ?_
   intro x13 h13
   refine jG 2 1 ⟨[V 0 (bs x13),V 1 (.s (.int .u8 a1))],[],0⟩ ?_
   refine jr_nil rfl ?_
   refine jx_blkN ?_
   exact jx_next (wkR [] (fix_nil _) allp_nil)
  refine jc_exit ?_
  refine jx_seqE ?_
  exact jx_done rfl nofun (wkR [] (fix_nil _) allp_nil)
 intro x9
 refine jx_blkE ?_
 refine jx_seqN ?_
 refine jS ⟨[V 4 (bs x9)],[],0⟩ ?_
 refine jc_ret ?_
 exact jx_retF (.inr rfl) (v:=bs x9) (by kernel_rfl) rfl (fle_refl _))
abbrev strings_TrimLeft_s05d1_r1:List LO:=[lo 4 (.assign (.const (.string ⟨#[]⟩))) 9]
abbrev strings_TrimLeft_s05d1_r2:List LO:=[lm 7 0 9,lo 8 (.binOp .eql 9 (.tmp 7) (.const (.string ⟨#[]⟩)) 9) 4,lm 9 8 4,lmg 10 1 9 9 false,lg 11 (.binOp .eql 9 (.tmp 10) (.const (.string ⟨#[]⟩)) 9) 4 9 false,lo 12 (.pick (.tmp 9) (.const (.bool true)) (.tmp 11)) 4]
abbrev strings_TrimLeft_s05d1_r3:List LO:=[lm 13 0 9,lo 4 (.assign (.tmp 13)) 9]
abbrev strings_TrimLeft_s05d1_r4:List LO:=[lm 14 1 9,lo 15 (.call ⟨.builtin .len,#[.tmp 14],#[9]⟩) 3,lo 16 (.binOp .eql 3 (.tmp 15) (.const (.int .i64 1)) 3) 4,lm 17 16 4,lmg 18 1 9 17 true,lg 19 (.index 9 (.tmp 18) (.const (.int .i64 0))) 5 17 true,lg 20 (.binOp .lss 5 (.tmp 19) (.const (.int .u8 128)) 5) 4 17 true,lo 21 (.pick (.tmp 17) (.tmp 20) (.const (.bool false))) 4]
abbrev strings_TrimLeft_s05d1_r5:List LO:=[lm 22 0 9,lm 23 1 9,lo 24 (.index 9 (.tmp 23) (.const (.int .i64 0))) 5,lo 25 (.call ⟨.value (.func 149),#[.tmp 22,.tmp 24],#[9,5]⟩) 9,lo 4 (.assign (.tmp 25)) 9]
abbrev strings_TrimLeft_s05d1_r6:List LO:=[lm 27 1 9,lo 28 (.call ⟨.value (.func 131),#[.tmp 27],#[9]⟩) 111,lm 26 28 111,lo 29 (.extract (.tmp 26) 0) 110,lo 30 (.extract (.tmp 26) 1) 4,lo 5 (.alloc 110) 0,ln (.store 110 (.tmp 5) (.tmp 29)) 0,lo 6 (.assign (.tmp 30)) 4]
abbrev strings_TrimLeft_s05d1_r7:List LO:=[lm 31 6 4]
abbrev strings_TrimLeft_s05d1_r8:List LO:=[lm 32 0 9,lo 33 (.call ⟨.value (.func 150),#[.tmp 32,.tmp 5],#[9,127]⟩) 9,lo 4 (.assign (.tmp 33)) 9]
abbrev strings_TrimLeft_s05d1_r9:List LO:=[lm 34 0 9,lm 35 1 9,lo 36 (.call ⟨.value (.func 151),#[.tmp 34,.tmp 35],#[9,9]⟩) 9,lo 4 (.assign (.tmp 36)) 9]
abbrev strings_TrimLeft_s05d1_c:LC:=.seq (.reg false strings_TrimLeft_s05d1_r1) (.seq (.seq (.reg false strings_TrimLeft_s05d1_r2) (.cond (.tmp 12) (.seq (.reg false strings_TrimLeft_s05d1_r3) .ret) .skip)) (.seq (.seq (.reg false strings_TrimLeft_s05d1_r4) (.cond (.tmp 21) (.seq (.reg false strings_TrimLeft_s05d1_r5) .ret) .skip)) (.seq (.seq (.reg false strings_TrimLeft_s05d1_r6) (.seq (.reg false strings_TrimLeft_s05d1_r7) (.cond (.tmp 31) (.seq (.reg false strings_TrimLeft_s05d1_r8) .ret) .skip))) (.seq (.reg false strings_TrimLeft_s05d1_r9) .ret))))
theorem strings_TrimLeft_s05d1_k:FnOk E 134 37 [.tmp 4] strings_TrimLeft_s05d1_c:=⟨⟨Go.Proofs.Tryz.f134,by kernel_rfl,by kernel_rfl,by kernel_rfl,by kernel_rfl,by kernel_rfl⟩,rfl,rfl⟩
noncomputable def strings_TrimLeft_s05d1 (a0:Str):Option (Str):=(if ((a0 == []) && true)=true then some a0 else Option.bind (strings_trimLeftByte a0 48) (fun x1=>some x1))
theorem strings_TrimLeft_s05d1_ok (a0:Str):Ct E 134 [bs a0,bs [48]] (strings_TrimLeft_s05d1 a0) (fun r:Str=>bs r):=ct_intro (N:=37) (L:=strings_TrimLeft_s05d1_c) strings_TrimLeft_s05d1_k rfl (Nat.le_of_ble_eq_true rfl) (by kernel_rfl) (by
 unfold strings_TrimLeft_s05d1
 refine jS ⟨[V 0 (bs a0),V 1 (bs [48])],[],0⟩ ?_
 refine jc_seq ?_
 refine jS ⟨[V 0 (bs a0),V 1 (bs [48]),V 12 (bv ((a0 == []) && true))],[],0⟩ ?_
 refine jIf ?_ ?_
 ·refine jS ⟨[V 4 (bs a0)],[],0⟩ ?_
  refine jc_ret ?_
  refine jx_seqR ?_
  exact jx_retF (.inr rfl) (v:=bs a0) (by kernel_rfl) rfl (fle_refl _)
 refine jc_skip ?_
 refine jx_seqN ?_
 refine jc_seq ?_
 refine jR ?_
 refine jG 0 4 ⟨[V 0 (bs a0),V 1 (bs [48]),V 17 (bv true)],[],0⟩ ?_
 refine jr_lit (g:=17) (b:=true) (by kernel_rfl) ?_
 refine jG 4 1 ⟨[V 0 (bs a0),V 1 (bs [48]),(17,.lit true),V 18 (bs [48])],[],0⟩ ?_
 refine jr_one (i:=5) (v:=.s (.int .u8 48)) (us:=[]) rfl rfl rfl rfl (aop_index (s:=[48]) (j:=0) (c:=48) (kk:=.i64) (by kernel_rfl) (by kernel_rfl) (by kernel_rfl) rfl) rfl ?_
 refine jG 6 2 ⟨[V 0 (bs a0),V 1 (bs [48]),V 21 (bv true)],[],0⟩ ?_
 refine jN ?_
 refine jc_condK (c:=true) (by kernel_rfl) ?_
 refine jR ?_
 refine jG 0 2 ⟨[V 22 (bs a0),V 23 (bs [48])],[],0⟩ ?_
 refine jr_one (i:=2) (v:=.s (.int .u8 48)) (us:=[]) rfl rfl rfl rfl (aop_index (s:=[48]) (j:=0) (c:=48) (kk:=.i64) (by kernel_rfl) (by kernel_rfl) (by kernel_rfl) rfl) rfl ?_
 refine jK 3 (strings_trimLeftByte_ok a0 48) ?_
 intro x1 h1
 refine jG 4 1 ⟨[V 4 (bs x1)],[],0⟩ ?_
 refine jN ?_
 refine jc_ret ?_
 refine jx_seqR ?_
 exact jx_retF (.inr rfl) (v:=bs x1) (by kernel_rfl) rfl (fle_refl _))
abbrev scan_Trim_r1:List LO:=[lo 2 (.assign (.const (.string ⟨#[]⟩))) 9]
abbrev scan_Trim_r2:List LO:=[lm 3 0 9,lo 4 (.call ⟨.value (.func 134),#[.tmp 3,.const (.string ⟨#[48]⟩)],#[9,9]⟩) 9,lo 0 (.assign (.tmp 4)) 9]
abbrev scan_Trim_r3:List LO:=[lm 5 0 9,lo 6 (.binOp .eql 9 (.tmp 5) (.const (.string ⟨#[]⟩)) 9) 4]
abbrev scan_Trim_r4:List LO:=[lo 2 (.assign (.const (.string ⟨#[48]⟩))) 9]
abbrev scan_Trim_r5:List LO:=[lm 7 0 9,lo 2 (.assign (.tmp 7)) 9]
abbrev scan_Trim_c:LC:=.seq (.reg false scan_Trim_r1) (.seq (.reg false scan_Trim_r2) (.seq (.seq (.reg false scan_Trim_r3) (.cond (.tmp 6) (.seq (.reg false scan_Trim_r4) .ret) .skip)) (.seq (.reg false scan_Trim_r5) .ret)))
theorem scan_Trim_k:FnOk E 96 8 [.tmp 2] scan_Trim_c:=⟨⟨Go.Proofs.Tryz.f96,by kernel_rfl,by kernel_rfl,by kernel_rfl,by kernel_rfl,by kernel_rfl⟩,rfl,rfl⟩
noncomputable def scan_Trim (a0:Str):Option (Str):=Option.bind (strings_TrimLeft_s05d1 a0) (fun x1=>(if (x1 == [])=true then some [48] else some x1))
theorem scan_Trim_ok (a0:Str):Ct E 96 [bs a0] (scan_Trim a0) (fun r:Str=>bs r):=ct_intro (N:=8) (L:=scan_Trim_c) scan_Trim_k rfl (Nat.le_of_ble_eq_true rfl) (by kernel_rfl) (by
 unfold scan_Trim
 refine jS ⟨[V 0 (bs a0)],[],0⟩ ?_
 refine jR ?_
 refine jG 0 1 ⟨[V 3 (bs a0)],[],0⟩ ?_
 refine jK 1 (strings_TrimLeft_s05d1_ok a0) ?_
 intro x1 h1
 refine jG 2 1 ⟨[V 0 (bs x1)],[],0⟩ ?_
 refine jN ?_
 refine jc_seq ?_
 refine jS ⟨[V 0 (bs x1),V 6 (bv (x1 == []))],[],0⟩ ?_
 refine jIf ?_ ?_
 ·refine jS ⟨[V 2 (bs [48])],[],0⟩ ?_
  refine jc_ret ?_
  refine jx_seqR ?_
  exact jx_retF (.inr rfl) (v:=bs [48]) (by kernel_rfl) rfl (fle_refl _)
 refine jc_skip ?_
 refine jx_seqN ?_
 refine jS ⟨[V 2 (bs x1)],[],0⟩ ?_
 refine jc_ret ?_
 exact jx_retF (.inr rfl) (v:=bs x1) (by kernel_rfl) rfl (fle_refl _))
abbrev scan_Cmp_r1:List LO:=[lo 4 (.assign (.const (.int .i64 0))) 3]
abbrev scan_Cmp_r2:List LO:=[lm 5 0 9,lo 6 (.call ⟨.value (.func 96),#[.tmp 5],#[9]⟩) 9,lm 7 1 9,lo 8 (.call ⟨.value (.func 96),#[.tmp 7],#[9]⟩) 9,lo 0 (.assign (.tmp 6)) 9,lo 1 (.assign (.tmp 8)) 9]
abbrev scan_Cmp_r3:List LO:=[lm 9 0 9,lo 10 (.call ⟨.builtin .len,#[.tmp 9],#[9]⟩) 3,lm 11 1 9,lo 12 (.call ⟨.builtin .len,#[.tmp 11],#[9]⟩) 3,lo 13 (.call ⟨.value (.func 70),#[.tmp 10,.tmp 12],#[3,3]⟩) 3,lm 14 0 9,lm 15 1 9,lo 16 (.call ⟨.value (.func 103),#[.tmp 14,.tmp 15],#[9,9]⟩) 3,lo 17 (.buildSlice 76 2 #[(0,.tmp 13),(1,.tmp 16)]) 76,lo 18 (.call ⟨.value (.func 67),#[.tmp 17],#[76]⟩) 3,lo 4 (.assign (.tmp 18)) 3]
abbrev scan_Cmp_c:LC:=.seq (.reg false scan_Cmp_r1) (.seq (.reg false scan_Cmp_r2) (.seq (.reg false scan_Cmp_r3) .ret))
theorem scan_Cmp_k:FnOk E 68 19 [.tmp 4] scan_Cmp_c:=⟨⟨Go.Proofs.Tryz.f68,by kernel_rfl,by kernel_rfl,by kernel_rfl,by kernel_rfl,by kernel_rfl⟩,rfl,rfl⟩
noncomputable def scan_Cmp (a0:Str) (a1:Str):Option (Int):=Option.bind (scan_Trim a0) (fun x1=>Option.bind (scan_Trim a1) (fun x2=>Option.bind (cmp_Compare_int (List.length x1:Int) (List.length x2:Int)) (fun x3=>Option.bind (strings_Compare x1 x2) (fun x4=>Option.bind (cmp_Or_int [x3,x4]) (fun x5=>some x5)))))
theorem scan_Cmp_ok (a0:Str) (a1:Str):Ct E 68 [bs a0,bs a1] (scan_Cmp a0 a1) (fun r:Int=>iv r):=ct_intro (N:=19) (L:=scan_Cmp_c) scan_Cmp_k rfl (Nat.le_of_ble_eq_true rfl) (by kernel_rfl) (by
 unfold scan_Cmp
 refine jS ⟨[V 0 (bs a0),V 1 (bs a1)],[],0⟩ ?_
 refine jR ?_
 refine jG 0 1 ⟨[V 1 (bs a1),V 5 (bs a0)],[],0⟩ ?_
 refine jK 1 (scan_Trim_ok a0) ?_
 intro x1 h1
 refine jG 2 1 ⟨[V 6 (bs x1),V 7 (bs a1)],[],0⟩ ?_
 refine jK 3 (scan_Trim_ok a1) ?_
 intro x2 h2
 refine jG 4 2 ⟨[V 0 (bs x1),V 1 (bs x2)],[],0⟩ ?_
 refine jN ?_
 refine jR ?_
 refine jG 0 4 ⟨[V 0 (bs x1),V 1 (bs x2),V 10 (iv (List.length x1:Int)),V 12 (iv (List.length x2:Int))],[],0⟩ ?_
 refine jK 4 (cmp_Compare_int_ok (List.length x1:Int) (List.length x2:Int)) ?_
 intro x3 h3
 refine jG 5 2 ⟨[V 13 (iv x3),V 14 (bs x1),V 15 (bs x2)],[],0⟩ ?_
 refine jK 7 (strings_Compare_ok x1 x2) ?_
 intro x4 h4
 refine jG 8 1 ⟨[V 17 (.osl 0 0 (List.length [x3,x4]) 1)],[(0,.rows 1 (List.map cI [x3,x4]))],1⟩ ?_
 refine jr_callF (i:=9) rfl rfl rfl rfl (vs:=[.osl 0 0 (List.length [x3,x4]) 1]) (by kernel_rfl) (snapL_cons (snapc_own fz_I (by kernel_rfl)) (snapL_nil _)) (all2_cons (fle_refl _) all2_nil) (cmp_Or_int_ok [x3,x4]) (fun _=>rfl) (fun _=>rfl) ?_
 intro x5 h5
 refine jG 10 1 ⟨[V 4 (iv x5)],[],1⟩ ?_
 refine jN ?_
 refine jc_ret ?_
 exact jx_retF (.inr rfl) (v:=iv x5) (by kernel_rfl) rfl (fle_refl _))
abbrev scan_Is_r1:List LO:=[lo 4 (.assign (.const (.bool false))) 4]
abbrev scan_Is_r2:List LO:=[lm 9 0 5,lo 10 (.binOp .geq 5 (.tmp 9) (.const (.int .u8 48)) 5) 4,lm 11 10 4,lmg 12 0 5 11 true,lg 13 (.binOp .leq 5 (.tmp 12) (.const (.int .u8 57)) 5) 4 11 true,lo 14 (.pick (.tmp 11) (.tmp 13) (.const (.bool false))) 4,lm 15 0 5,lo 16 (.binOp .geq 5 (.tmp 15) (.const (.int .u8 97)) 5) 4,lm 17 16 4,lmg 18 0 5 17 true,lg 19 (.binOp .leq 5 (.tmp 18) (.const (.int .u8 122)) 5) 4 17 true,lo 20 (.pick (.tmp 17) (.tmp 19) (.const (.bool false))) 4,lm 21 0 5,lo 22 (.binOp .geq 5 (.tmp 21) (.const (.int .u8 65)) 5) 4,lm 23 22 4,lmg 24 0 5 23 true,lg 25 (.binOp .leq 5 (.tmp 24) (.const (.int .u8 90)) 5) 4 23 true,lo 26 (.pick (.tmp 23) (.tmp 25) (.const (.bool false))) 4,lo 5 (.assign (.tmp 14)) 4,lo 6 (.assign (.tmp 20)) 4,lo 7 (.assign (.tmp 26)) 4]
abbrev scan_Is_r3:List LO:=[lm 27 0 5,lo 28 (.binOp .eql 5 (.tmp 27) (.const (.int .u8 32)) 5) 4,lm 29 28 4,lmg 30 0 5 29 false,lg 31 (.binOp .eql 5 (.tmp 30) (.const (.int .u8 9)) 5) 4 29 false,lo 32 (.pick (.tmp 29) (.const (.bool true)) (.tmp 31)) 4,lo 8 (.assign (.tmp 32)) 4]
abbrev scan_Is_r4:List LO:=[lm 33 1 3]
abbrev scan_Is_r5:List LO:=[lo 35 (.binOp .eql 3 (.tmp 33) (.const (.int .i64 1)) 3) 4,lo 34 (.assign (.tmp 35)) 4]
abbrev scan_Is_r6:List LO:=[lm 36 5 4,lo 4 (.assign (.tmp 36)) 4]
abbrev scan_Is_r7:List LO:=[lo 38 (.binOp .eql 3 (.tmp 33) (.const (.int .i64 2)) 3) 4,lo 37 (.assign (.tmp 38)) 4]
abbrev scan_Is_r8:List LO:=[lm 39 6 4,lo 4 (.assign (.tmp 39)) 4]
abbrev scan_Is_r9:List LO:=[lo 41 (.binOp .eql 3 (.tmp 33) (.const (.int .i64 3)) 3) 4,lo 40 (.assign (.tmp 41)) 4]
abbrev scan_Is_r10:List LO:=[lm 42 7 4,lo 4 (.assign (.tmp 42)) 4]
abbrev scan_Is_r11:List LO:=[lo 44 (.binOp .eql 3 (.tmp 33) (.const (.int .i64 4)) 3) 4,lo 43 (.assign (.tmp 44)) 4]
abbrev scan_Is_r12:List LO:=[lm 45 6 4,lm 46 45 4,lmg 47 7 4 46 false,lo 48 (.pick (.tmp 46) (.const (.bool true)) (.tmp 47)) 4,lo 4 (.assign (.tmp 48)) 4]
abbrev scan_Is_r13:List LO:=[lo 50 (.binOp .eql 3 (.tmp 33) (.const (.int .i64 5)) 3) 4,lo 49 (.assign (.tmp 50)) 4]
abbrev scan_Is_r14:List LO:=[lm 51 5 4,lm 52 51 4,lmg 53 6 4 52 false,lo 54 (.pick (.tmp 52) (.const (.bool true)) (.tmp 53)) 4,lm 55 54 4,lmg 56 7 4 55 false,lo 57 (.pick (.tmp 55) (.const (.bool true)) (.tmp 56)) 4,lo 4 (.assign (.tmp 57)) 4]
abbrev scan_Is_r15:List LO:=[lo 59 (.binOp .eql 3 (.tmp 33) (.const (.int .i64 6)) 3) 4,lo 58 (.assign (.tmp 59)) 4]
abbrev scan_Is_r16:List LO:=[lm 60 8 4,lo 4 (.assign (.tmp 60)) 4]
abbrev scan_Is_r17:List LO:=[lo 62 (.binOp .eql 3 (.tmp 33) (.const (.int .i64 7)) 3) 4,lo 61 (.assign (.tmp 62)) 4]
abbrev scan_Is_r18:List LO:=[lm 63 8 4,lm 64 63 4,lmg 65 0 5 64 false,lg 66 (.binOp .eql 5 (.tmp 65) (.const (.int .u8 10)) 5) 4 64 false,lo 67 (.pick (.tmp 64) (.const (.bool true)) (.tmp 66)) 4,lm 68 67 4,lmg 69 0 5 68 false,lg 70 (.binOp .eql 5 (.tmp 69) (.const (.int .u8 13)) 5) 4 68 false,lo 71 (.pick (.tmp 68) (.const (.bool true)) (.tmp 70)) 4,lo 4 (.assign (.tmp 71)) 4]
abbrev scan_Is_r19:List LO:=[lo 4 (.assign (.const (.bool false))) 4]
abbrev scan_Is_c:LC:=.seq (.reg false scan_Is_r1) (.seq (.reg false scan_Is_r2) (.seq (.reg false scan_Is_r3) (.seq (.seq (.reg false scan_Is_r4) (.block 0 (.seq (.reg false scan_Is_r5) (.cond (.tmp 34) (.seq (.reg false scan_Is_r6) .ret) (.seq (.reg false scan_Is_r7) (.cond (.tmp 37) (.seq (.reg false scan_Is_r8) .ret) (.seq (.reg false scan_Is_r9) (.cond (.tmp 40) (.seq (.reg false scan_Is_r10) .ret) (.seq (.reg false scan_Is_r11) (.cond (.tmp 43) (.seq (.reg false scan_Is_r12) .ret) (.seq (.reg false scan_Is_r13) (.cond (.tmp 49) (.seq (.reg false scan_Is_r14) .ret) (.seq (.reg false scan_Is_r15) (.cond (.tmp 58) (.seq (.reg false scan_Is_r16) .ret) (.seq (.reg false scan_Is_r17) (.cond (.tmp 61) (.seq (.reg false scan_Is_r18) .ret) .skip)))))))))))))))) (.seq (.reg false scan_Is_r19) .ret))))
theorem scan_Is_k:FnOk E 86 72 [.tmp 4] scan_Is_c:=⟨⟨Go.Proofs.Tryz.f86,by kernel_rfl,by kernel_rfl,by kernel_rfl,by kernel_rfl,by kernel_rfl⟩,rfl,rfl⟩
noncomputable def scan_Is (a0:Int) (a1:Int):Option (Bool):=(if (a1 == 1)=true then some ((decide (a0≥48)) && (decide (a0≤57))) else (if (a1 == 2)=true then some ((decide (a0≥97)) && (decide (a0≤122))) else (if (a1 == 3)=true then some ((decide (a0≥65)) && (decide (a0≤90))) else (if (a1 == 4)=true then some (((decide (a0≥97)) && (decide (a0≤122))) || ((decide (a0≥65)) && (decide (a0≤90)))) else (if (a1 == 5)=true then some ((((decide (a0≥48)) && (decide (a0≤57))) || ((decide (a0≥97)) && (decide (a0≤122)))) || ((decide (a0≥65)) && (decide (a0≤90)))) else (if (a1 == 6)=true then some ((a0 == 32) || (a0 == 9)) else (if (a1 == 7)=true then some ((((a0 == 32) || (a0 == 9)) || (a0 == 10)) || (a0 == 13)) else some false)))))))
theorem scan_Is_ok (a0:Int) (a1:Int):Ct E 86 [.s (.int .u8 a0),iv a1] (scan_Is a0 a1) (fun r:Bool=>bv r):=ct_intro (N:=72) (L:=scan_Is_c) scan_Is_k rfl (Nat.le_of_ble_eq_true rfl) (by kernel_rfl) (by
 unfold scan_Is
 refine jS ⟨[V 0 (.s (.int .u8 a0)),V 1 (iv a1)],[],0⟩ ?_
 refine jS ⟨[V 0 (.s (.int .u8 a0)),V 1 (iv a1),V 5 (bv ((decide (a0≥48)) && (decide (a0≤57)))),V 6 (bv ((decide (a0≥97)) && (decide (a0≤122)))),V 7 (bv ((decide (a0≥65)) && (decide (a0≤90))))],[],0⟩ ?_
 refine jS ⟨[V 0 (.s (.int .u8 a0)),V 1 (iv a1),V 5 (bv ((decide (a0≥48)) && (decide (a0≤57)))),V 6 (bv ((decide (a0≥97)) && (decide (a0≤122)))),V 7 (bv ((decide (a0≥65)) && (decide (a0≤90)))),V 8 (bv ((a0 == 32) || (a0 == 9)))],[],0⟩ ?_
 refine jc_seq ?_
 refine jS ⟨[V 0 (.s (.int .u8 a0)),V 5 (bv ((decide (a0≥48)) && (decide (a0≤57)))),V 6 (bv ((decide (a0≥97)) && (decide (a0≤122)))),V 7 (bv ((decide (a0≥65)) && (decide (a0≤90)))),V 8 (bv ((a0 == 32) || (a0 == 9))),V 33 (iv a1)],[],0⟩ ?_
 refine jc_block ?_
 refine jS ⟨[V 0 (.s (.int .u8 a0)),V 5 (bv ((decide (a0≥48)) && (decide (a0≤57)))),V 6 (bv ((decide (a0≥97)) && (decide (a0≤122)))),V 7 (bv ((decide (a0≥65)) && (decide (a0≤90)))),V 8 (bv ((a0 == 32) || (a0 == 9))),V 33 (iv a1),V 34 (bv (a1 == 1))],[],0⟩ ?_
 refine jIf ?_ ?_
 ·refine jS ⟨[V 4 (bv ((decide (a0≥48)) && (decide (a0≤57))))],[],0⟩ ?_
  refine jc_ret ?_
  refine jx_blkR ?_
  refine jx_seqR ?_
  exact jx_retF (.inr rfl) (v:=bv ((decide (a0≥48)) && (decide (a0≤57)))) (by kernel_rfl) rfl (fle_refl _)
 refine jS ⟨[V 0 (.s (.int .u8 a0)),V 5 (bv ((decide (a0≥48)) && (decide (a0≤57)))),V 6 (bv ((decide (a0≥97)) && (decide (a0≤122)))),V 7 (bv ((decide (a0≥65)) && (decide (a0≤90)))),V 8 (bv ((a0 == 32) || (a0 == 9))),V 33 (iv a1),V 37 (bv (a1 == 2))],[],0⟩ ?_
 refine jIf ?_ ?_
 ·refine jS ⟨[V 4 (bv ((decide (a0≥97)) && (decide (a0≤122))))],[],0⟩ ?_
  refine jc_ret ?_
  refine jx_blkR ?_
  refine jx_seqR ?_
  exact jx_retF (.inr rfl) (v:=bv ((decide (a0≥97)) && (decide (a0≤122)))) (by kernel_rfl) rfl (fle_refl _)
 refine jS ⟨[V 0 (.s (.int .u8 a0)),V 5 (bv ((decide (a0≥48)) && (decide (a0≤57)))),V 6 (bv ((decide (a0≥97)) && (decide (a0≤122)))),V 7 (bv ((decide (a0≥65)) && (decide (a0≤90)))),V 8 (bv ((a0 == 32) || (a0 == 9))),V 33 (iv a1),V 40 (bv (a1 == 3))],[],0⟩ ?_
 refine jIf ?_ ?_
 ·refine jS ⟨[V 4 (bv ((decide (a0≥65)) && (decide (a0≤90))))],[],0⟩ ?_
  refine jc_ret ?_
  refine jx_blkR ?_
  refine jx_seqR ?_
  exact jx_retF (.inr rfl) (v:=bv ((decide (a0≥65)) && (decide (a0≤90)))) (by kernel_rfl) rfl (fle_refl _)
 refine jS ⟨[V 0 (.s (.int .u8 a0)),V 5 (bv ((decide (a0≥48)) && (decide (a0≤57)))),V 6 (bv ((decide (a0≥97)) && (decide (a0≤122)))),V 7 (bv ((decide (a0≥65)) && (decide (a0≤90)))),V 8 (bv ((a0 == 32) || (a0 == 9))),V 33 (iv a1),V 43 (bv (a1 == 4))],[],0⟩ ?_
 refine jIf ?_ ?_
 ·refine jS ⟨[V 4 (bv (((decide (a0≥97)) && (decide (a0≤122))) || ((decide (a0≥65)) && (decide (a0≤90)))))],[],0⟩ ?_
  refine jc_ret ?_
  refine jx_blkR ?_
  refine jx_seqR ?_
  exact jx_retF (.inr rfl) (v:=bv (((decide (a0≥97)) && (decide (a0≤122))) || ((decide (a0≥65)) && (decide (a0≤90))))) (by kernel_rfl) rfl (fle_refl _)
 refine jS ⟨[V 0 (.s (.int .u8 a0)),V 5 (bv ((decide (a0≥48)) && (decide (a0≤57)))),V 6 (bv ((decide (a0≥97)) && (decide (a0≤122)))),V 7 (bv ((decide (a0≥65)) && (decide (a0≤90)))),V 8 (bv ((a0 == 32) || (a0 == 9))),V 33 (iv a1),V 49 (bv (a1 == 5))],[],0⟩ ?_
 refine jIf ?_ ?_
 ·refine jS ⟨[V 4 (bv ((((decide (a0≥48)) && (decide (a0≤57))) || ((decide (a0≥97)) && (decide (a0≤122)))) || ((decide (a0≥65)) && (decide (a0≤90)))))],[],0⟩ ?_
  refine jc_ret ?_
  refine jx_blkR ?_
  refine jx_seqR ?_
  exact jx_retF (.inr rfl) (v:=bv ((((decide (a0≥48)) && (decide (a0≤57))) || ((decide (a0≥97)) && (decide (a0≤122)))) || ((decide (a0≥65)) && (decide (a0≤90))))) (by kernel_rfl) rfl (fle_refl _)
 refine jS ⟨[V 0 (.s (.int .u8 a0)),V 8 (bv ((a0 == 32) || (a0 == 9))),V 33 (iv a1),V 58 (bv (a1 == 6))],[],0⟩ ?_
 refine jIf ?_ ?_
 ·refine jS ⟨[V 4 (bv ((a0 == 32) || (a0 == 9)))],[],0⟩ ?_
  refine jc_ret ?_
  refine jx_blkR ?_
  refine jx_seqR ?_
  exact jx_retF (.inr rfl) (v:=bv ((a0 == 32) || (a0 == 9))) (by kernel_rfl) rfl (fle_refl _)
 refine jS ⟨[V 0 (.s (.int .u8 a0)),V 8 (bv ((a0 == 32) || (a0 == 9))),V 61 (bv (a1 == 7))],[],0⟩ ?_
 refine jIf ?_ ?_
 ·refine jS ⟨[V 4 (bv ((((a0 == 32) || (a0 == 9)) || (a0 == 10)) || (a0 == 13)))],[],0⟩ ?_
  refine jc_ret ?_
  refine jx_blkR ?_
  refine jx_seqR ?_
  exact jx_retF (.inr rfl) (v:=bv ((((a0 == 32) || (a0 == 9)) || (a0 == 10)) || (a0 == 13))) (by kernel_rfl) rfl (fle_refl _)
 refine jc_skip ?_
 refine jx_blkN ?_
 refine jx_seqN ?_
 refine jS ⟨[V 4 (bv false)],[],0⟩ ?_
 refine jc_ret ?_
 exact jx_retF (.inr rfl) (v:=bv false) (by kernel_rfl) rfl (fle_refl _))
abbrev scan_Run_r1:List LO:=[lo 6 (.assign (.const (.int .i64 0))) 3]
abbrev scan_Run_r2:List LO:=[lm 8 1 3,lo 9 (.binOp .lss 3 (.tmp 8) (.const (.int .i64 0)) 3) 4,lm 10 9 4,lmg 11 1 3 10 false,lmg 12 0 9 10 false,lg 13 (.call ⟨.builtin .len,#[.tmp 12],#[9]⟩) 3 10 false,lg 14 (.binOp .gtr 3 (.tmp 11) (.tmp 13) 3) 4 10 false,lo 15 (.pick (.tmp 10) (.const (.bool true)) (.tmp 14)) 4]
abbrev scan_Run_r3:List LO:=[lm 16 1 3,lo 6 (.assign (.tmp 16)) 3]
abbrev scan_Run_r4:List LO:=[lm 17 0 9,lo 18 (.call ⟨.builtin .len,#[.tmp 17],#[9]⟩) 3,lm 19 1 3,lo 20 (.binOp .sub 3 (.tmp 18) (.tmp 19) 3) 3,lo 21 (.move (.const (.int .i64 0))) 3]
abbrev scan_Run_r5:List LO:=[lo 22 (.binOp .lss 3 (.tmp 21) (.tmp 20) 3) 4]
abbrev scan_Run_r6:List LO:=[lm 23 21 3,lo 7 (.assign (.tmp 23)) 3]
abbrev scan_Run_r7:List LO:=[lm 24 0 9,lm 25 1 3,lm 26 7 3,lo 27 (.binOp .add 3 (.tmp 25) (.tmp 26) 3) 3,lo 28 (.index 9 (.tmp 24) (.tmp 27)) 5,lm 29 2 3,lo 30 (.call ⟨.value (.func 86),#[.tmp 28,.tmp 29],#[5,3]⟩) 4,lo 31 (.unOp .not 4 (.tmp 30)) 4]
abbrev scan_Run_r8:List LO:=[lm 32 1 3,lm 33 7 3,lo 34 (.binOp .add 3 (.tmp 32) (.tmp 33) 3) 3,lo 6 (.assign (.tmp 34)) 3]
abbrev scan_Run_r9:List LO:=[lo 35 (.binOp .add 3 (.tmp 21) (.const (.int .i64 1)) 3) 3,lm 21 35 3]
abbrev scan_Run_r10:List LO:=[lm 36 0 9,lo 37 (.call ⟨.builtin .len,#[.tmp 36],#[9]⟩) 3,lo 6 (.assign (.tmp 37)) 3]
abbrev scan_Run_c:LC:=.seq (.reg false scan_Run_r1) (.seq (.seq (.reg false scan_Run_r2) (.cond (.tmp 15) (.seq (.reg false scan_Run_r3) .ret) .skip)) (.seq (.seq (.reg false scan_Run_r4) (.block 0 (.loop (.seq (.reg false scan_Run_r5) (.seq (.cond (.tmp 22) .skip (.exit 0)) (.seq (.block 1 (.seq (.reg false scan_Run_r6) (.seq (.reg false scan_Run_r7) (.cond (.tmp 31) (.seq (.reg false scan_Run_r8) .ret) .skip)))) (.reg false scan_Run_r9))))))) (.seq (.reg false scan_Run_r10) .ret)))
theorem scan_Run_k:FnOk E 87 38 [.tmp 6] scan_Run_c:=⟨⟨Go.Proofs.Tryz.f87,by kernel_rfl,by kernel_rfl,by kernel_rfl,by kernel_rfl,by kernel_rfl⟩,rfl,rfl⟩
noncomputable def scan_Run_l1 (a0:Str) (a1:Int) (a2:Int):Int→Option (Step (Int) ((Int) ⊕ (Unit))):=fun x3=>(if (decide (x3 < (w64 ((List.length a0:Int) - a1))))=true then Option.bind (idx a0 (w64 (a1 + x3))) (fun x8=>Option.bind (scan_Is x8 a2) (fun x9=>(if (!x9)=true then some (Step.done (Sum.inl (w64 (a1 + x3)))) else some (Step.next (w64 (x3 + 1)))))) else some (Step.done (Sum.inr ())))
noncomputable def scan_Run (a0:Str) (a1:Int) (a2:Int):Option (Int):=(if ((decide (a1 < 0)) || (decide (a1 > (List.length a0:Int))))=true then some a1 else Option.bind (loopC (scan_Run_l1 a0 a1 a2) 0) (fun y=>match y with | Sum.inl x7=>some x7 | Sum.inr _=>some (List.length a0:Int)))
theorem scan_Run_ok (a0:Str) (a1:Int) (a2:Int):Ct E 87 [bs a0,iv a1,iv a2] (scan_Run a0 a1 a2) (fun r:Int=>iv r):=ct_intro (N:=38) (L:=scan_Run_c) scan_Run_k rfl (Nat.le_of_ble_eq_true rfl) (by kernel_rfl) (by
 unfold scan_Run
 refine jS ⟨[V 0 (bs a0),V 1 (iv a1),V 2 (iv a2)],[],0⟩ ?_
 refine jc_seq ?_
 refine jS ⟨[V 0 (bs a0),V 1 (iv a1),V 2 (iv a2),V 15 (bv ((decide (a1 < 0)) || (decide (a1 > (List.length a0:Int)))))],[],0⟩ ?_
 refine jIf ?_ ?_
 ·refine jS ⟨[V 6 (iv a1)],[],0⟩ ?_
  refine jc_ret ?_
  refine jx_seqR ?_
  exact jx_retF (.inr rfl) (v:=iv a1) (by kernel_rfl) rfl (fle_refl _)
 refine jc_skip ?_
 refine jx_seqN ?_
 refine jc_seq ?_
 refine jS ⟨[V 0 (bs a0),V 1 (iv a1),V 2 (iv a2),V 20 (iv (w64 ((List.length a0:Int) - a1))),V 21 (iv 0)],[],0⟩ ?_
 refine jc_block ?_
 refine jc_bind (fun y=>match y with | Sum.inl x7=>⟨[V 6 (iv x7)],[],0⟩ | Sum.inr _=>⟨[V 0 (bs a0)],[],0⟩) (fun y=>match y with | Sum.inl x7=>.ret | Sum.inr _=>(.exit 0)) (jc_loop (fun x3=>⟨[V 0 (bs a0),V 1 (iv a1),V 2 (iv a2),V 20 (iv (w64 ((List.length a0:Int) - a1))),V 21 (iv x3)],[],0⟩) (wkR [] (fix_nil _) allp_nil) ?_) ?_
 ·intro x3
  unfold scan_Run_l1
  refine jS ⟨[V 0 (bs a0),V 1 (iv a1),V 2 (iv a2),V 20 (iv (w64 ((List.length a0:Int) - a1))),V 21 (iv x3),V 22 (bv (decide (x3 < (w64 ((List.length a0:Int) - a1)))))],[],0⟩ ?_
  refine jc_seq ?_
  refine jIf ?_ ?_
  ·refine jc_skip ?_
   refine jx_seqN ?_
   refine jc_seq ?_
   refine jc_block ?_
   refine jS ⟨[V 0 (bs a0),V 1 (iv a1),V 2 (iv a2),V 7 (iv x3),V 20 (iv (w64 ((List.length a0:Int) - a1))),V 21 (iv x3)],[],0⟩ ?_
   refine jR ?_
   refine jG 0 4 ⟨[V 0 (bs a0),V 1 (iv a1),V 2 (iv a2),V 7 (iv x3),V 20 (iv (w64 ((List.length a0:Int) - a1))),V 21 (iv x3),V 24 (bs a0),V 27 (iv (w64 (a1 + x3)))],[],0⟩ ?_
   refine jr_part (i:=4) (mo:=idx a0 (w64 (a1 + x3))) rfl rfl rfl rfl (fun _ hc=>aop_index (kk:=.i64) (by kernel_rfl) (by kernel_rfl) (by kernel_rfl) hc) (fun _=>rfl) ?_
   intro x8 h8
   refine jG 5 1 ⟨[V 0 (bs a0),V 1 (iv a1),V 2 (iv a2),V 7 (iv x3),V 20 (iv (w64 ((List.length a0:Int) - a1))),V 21 (iv x3),V 28 (.s (.int .u8 x8)),V 29 (iv a2)],[],0⟩ ?_
   refine jK 6 (scan_Is_ok x8 a2) ?_
   intro x9 h9
   refine jG 7 1 ⟨[V 0 (bs a0),V 1 (iv a1),V 2 (iv a2),V 7 (iv x3),V 20 (iv (w64 ((List.length a0:Int) - a1))),V 21 (iv x3),V 31 (bv (!x9))],[],0⟩ ?_
   refine jN ?_
   refine jIf ?_ ?_
   ·refine jS ⟨[V 6 (iv (w64 (a1 + x3)))],[],0⟩ ?_
    refine jc_ret ?_
    refine jx_blkR ?_
    refine jx_seqR ?_
    exact jx_done rfl nofun (wkR [] (fix_nil _) allp_nil)
   refine jc_skip ?_
   refine jx_blkN ?_
   refine jx_seqN ?_
   refine jT ⟨[V 0 (bs a0),V 1 (iv a1),V 2 (iv a2),V 20 (iv (w64 ((List.length a0:Int) - a1))),V 21 (iv (w64 (x3 + 1)))],[],0⟩ ?_
   exact jx_next (wkR [] (fix_nil _) allp_nil)
  refine jc_exit ?_
  refine jx_seqE ?_
  exact jx_done rfl nofun (wkR [] (fix_nil _) allp_nil)
 rintro (x7 | _)
 ·refine jx_blkR ?_
  refine jx_seqR ?_
  exact jx_retF (.inr rfl) (v:=iv x7) (by kernel_rfl) rfl (fle_refl _)
 refine jx_blkE ?_
 refine jx_seqN ?_
 refine jS ⟨[V 6 (iv (List.length a0:Int))],[],0⟩ ?_
 refine jc_ret ?_
 exact jx_retF (.inr rfl) (v:=iv (List.length a0:Int)) (by kernel_rfl) rfl (fle_refl _))
abbrev pep_reader_run_r1:List LO:=[lo 4 (.assign (.const (.string ⟨#[]⟩))) 9]
abbrev pep_reader_run_r2:List LO:=[lm 6 0 50,lo 7 (.nilCheck (.tmp 6)) 0,lo 8 (.fieldAddr 52 (.tmp 7) 1) 0,lo 9 (.load 3 (.tmp 8)) 3,lo 5 (.assign (.tmp 9)) 3]
abbrev pep_reader_run_r3:List LO:=[lm 10 0 50,lm 11 0 50,lo 12 (.nilCheck (.tmp 11)) 0,lo 13 (.fieldAddr 52 (.tmp 12) 0) 0,lo 14 (.load 9 (.tmp 13)) 9,lm 15 0 50,lo 16 (.nilCheck (.tmp 15)) 0,lo 17 (.fieldAddr 52 (.tmp 16) 1) 0,lo 18 (.load 3 (.tmp 17)) 3,lm 19 1 3,lo 20 (.call ⟨.value (.func 87),#[.tmp 14,.tmp 18,.tmp 19],#[9,3,3]⟩) 3,lo 21 (.nilCheck (.tmp 10)) 0,lo 22 (.fieldAddr 52 (.tmp 21) 1) 0,ln (.store 3 (.tmp 22) (.tmp 20)) 0]
abbrev pep_reader_run_r4:List LO:=[lm 23 0 50,lo 24 (.nilCheck (.tmp 23)) 0,lo 25 (.fieldAddr 52 (.tmp 24) 0) 0,lo 26 (.load 9 (.tmp 25)) 9,lm 27 5 3,lm 28 0 50,lo 29 (.nilCheck (.tmp 28)) 0,lo 30 (.fieldAddr 52 (.tmp 29) 1) 0,lo 31 (.load 3 (.tmp 30)) 3,lo 32 (.slice 9 (.tmp 26) (some (.tmp 27)) (some (.tmp 31)) none) 9,lo 4 (.assign (.tmp 32)) 9]
abbrev pep_reader_run_c:LC:=.seq (.reg false pep_reader_run_r1) (.seq (.reg false pep_reader_run_r2) (.seq (.reg true pep_reader_run_r3) (.seq (.reg true pep_reader_run_r4) .ret)))
theorem pep_reader_run_k:FnOk E 95 33 [.tmp 4] pep_reader_run_c:=⟨⟨Go.Proofs.Tryz.f95,by kernel_rfl,by kernel_rfl,by kernel_rfl,by kernel_rfl,by kernel_rfl⟩,rfl,rfl⟩
abbrev pep_reader_run_T (a0:Str) (a1:Int) (a2:Int) (a3:Int) (a4:Int) (r:Str × Int):CS:=⟨[V 4 (bs r.1)],[W 0 4 [bs a0,iv r.2,iv a2,iv a3]],1⟩
noncomputable def pep_reader_run (a0:Str) (a1:Int) (a2:Int) (a3:Int) (a4:Int):Option (Str × Int):=Option.bind (scan_Run a0 a1 a4) (fun x5=>Option.bind (subl a0 a1 x5) (fun x6=>some (x6,x5)))
theorem pep_reader_run_ok (a0:Str) (a1:Int) (a2:Int) (a3:Int) (a4:Int):CtM E 95 [pt 0 4,iv a4] [W 0 4 [bs a0,iv a1,iv a2,iv a3]] 1 (pep_reader_run a0 a1 a2 a3 a4) (fun r:Str × Int=>bs r.1) (fun r:Str × Int=>[W 0 4 [bs a0,iv r.2,iv a2,iv a3]]) 1:=ctm_intro (N:=33) (L:=pep_reader_run_c) pep_reader_run_k rfl (Nat.le_of_ble_eq_true rfl) (fun F hF=>by
 unfold pep_reader_run
 refine jS ⟨[V 0 (pt 0 4),V 1 (iv a4)],[W 0 4 [bs a0,iv a1,iv a2,iv a3]],1⟩ ?_
 refine jS ⟨[V 0 (pt 0 4),V 1 (iv a4),V 5 (iv a1)],[W 0 4 [bs a0,iv a1,iv a2,iv a3]],1⟩ ?_
 refine jR ?_
 refine jG 0 10 ⟨[V 0 (pt 0 4),V 5 (iv a1),V 10 (pt 0 4),V 14 (bs a0),V 18 (iv a1),V 19 (iv a4)],[W 0 4 [bs a0,iv a1,iv a2,iv a3]],1⟩ ?_
 refine jK 10 (scan_Run_ok a0 a1 a4) ?_
 intro x5 h5
 refine jG 11 3 ⟨[V 0 (pt 0 4),V 5 (iv a1)],[W 0 4 [bs a0,iv x5,iv a2,iv a3]],1⟩ ?_
 refine jN ?_
 refine jR ?_
 refine jG 0 9 ⟨[V 26 (bs a0),V 27 (iv a1),V 31 (iv x5)],[W 0 4 [bs a0,iv x5,iv a2,iv a3]],1⟩ ?_
 refine jr_part (i:=9) (mo:=subl a0 a1 x5) rfl rfl rfl rfl (fun _ hc=>aop_subs (by kernel_rfl) (by kernel_rfl) (by kernel_rfl) (by kernel_rfl) hc) (fun _=>rfl) ?_
 intro x6 h6
 refine jG 10 1 ⟨[V 4 (bs x6)],[W 0 4 [bs a0,iv x5,iv a2,iv a3]],1⟩ ?_
 refine jN ?_
 refine jc_ret ?_
 exact jx_retM (pep_reader_run_T a0 a1 a2 a3 a4 (x6,x5)) (.inr rfl) (wkR [(0,some 0)] (fix_of hF (k:=1) rfl) (pc (hC 0) allp_nil)))
abbrev pep_reader_digits_r1:List LO:=[lo 2 (.assign (.const (.string ⟨#[]⟩))) 9]
abbrev pep_reader_digits_r2:List LO:=[lm 3 0 50,lo 4 (.call ⟨.value (.func 95),#[.tmp 3,.const (.int .i64 1)],#[50,3]⟩) 9,lo 5 (.call ⟨.value (.func 96),#[.tmp 4],#[9]⟩) 9,lo 2 (.assign (.tmp 5)) 9]
abbrev pep_reader_digits_c:LC:=.seq (.reg false pep_reader_digits_r1) (.seq (.reg false pep_reader_digits_r2) .ret)
theorem pep_reader_digits_k:FnOk E 88 6 [.tmp 2] pep_reader_digits_c:=⟨⟨Go.Proofs.Tryz.f88,by kernel_rfl,by kernel_rfl,by kernel_rfl,by kernel_rfl,by kernel_rfl⟩,rfl,rfl⟩
abbrev pep_reader_digits_T (a0:Str) (a1:Int) (a2:Int) (a3:Int) (r:Str × Int):CS:=⟨[V 2 (bs r.1)],[W 0 4 [bs a0,iv r.2,iv a2,iv a3]],1⟩
noncomputable def pep_reader_digits (a0:Str) (a1:Int) (a2:Int) (a3:Int):Option (Str × Int):=Option.bind (pep_reader_run a0 a1 a2 a3 1) (fun (x6,x7)=>Option.bind (scan_Trim x6) (fun x8=>some (x8,x7)))
theorem pep_reader_digits_ok (a0:Str) (a1:Int) (a2:Int) (a3:Int):CtM E 88 [pt 0 4] [W 0 4 [bs a0,iv a1,iv a2,iv a3]] 1 (pep_reader_digits a0 a1 a2 a3) (fun r:Str × Int=>bs r.1) (fun r:Str × Int=>[W 0 4 [bs a0,iv r.2,iv a2,iv a3]]) 1:=ctm_intro (N:=6) (L:=pep_reader_digits_c) pep_reader_digits_k rfl (Nat.le_of_ble_eq_true rfl) (fun F hF=>by
 unfold pep_reader_digits
 refine jS ⟨[V 0 (pt 0 4)],[W 0 4 [bs a0,iv a1,iv a2,iv a3]],1⟩ ?_
 refine jR ?_
 refine jG 0 1 ⟨[V 3 (pt 0 4)],[W 0 4 [bs a0,iv a1,iv a2,iv a3]],1⟩ ?_
 refine jr_callM 1 [(0,some 0)] [(0,some 0)] (fun r:Str × Int=>[W 0 4 [bs a0,iv r.2,iv a2,iv a3]]) (fun r:Str × Int=>bs r.1) 1 (pep_reader_run_ok a0 a1 a2 a3 1) (pc (hC 0) allp_nil) (fun r=>(pc (.inr (hC 0)) allp_nil)) ?_
 rintro⟨x6,x7⟩ hm2
 refine jK 2 (scan_Trim_ok x6) ?_
 intro x8 h8
 refine jG 3 1 ⟨[V 2 (bs x8)],[W 0 4 [bs a0,iv x7,iv a2,iv a3]],1⟩ ?_
 refine jN ?_
 refine jc_ret ?_
 exact jx_retM (pep_reader_digits_T a0 a1 a2 a3 (x8,x7)) (.inr rfl) (wkR [(0,some 0)] (fix_of hF (k:=1) rfl) (pc (hC 0) allp_nil)))
abbrev pep_reader_epoch_r1:List LO:=[lo 2 (.assign (.const (.string ⟨#[]⟩))) 9]
abbrev pep_reader_epoch_r2:List LO:=[lm 5 0 50,lo 6 (.nilCheck (.tmp 5)) 0,lo 7 (.fieldAddr 52 (.tmp 6) 0) 0,lo 8 (.load 9 (.tmp 7)) 9,lm 9 0 50,lo 10 (.nilCheck (.tmp 9)) 0,lo 11 (.fieldAddr 52 (.tmp 10) 1) 0,lo 12 (.load 3 (.tmp 11)) 3,lo 13 (.call ⟨.value (.func 87),#[.tmp 8,.tmp 12,.const (.int .i64 1)],#[9,3,3]⟩) 3,lo 3 (.assign (.tmp 13)) 3]
abbrev pep_reader_epoch_r3:List LO:=[lm 14 3 3,lm 15 0 50,lo 16 (.nilCheck (.tmp 15)) 0,lo 17 (.fieldAddr 52 (.tmp 16) 1) 0,lo 18 (.load 3 (.tmp 17)) 3,lo 19 (.binOp .eql 3 (.tmp 14) (.tmp 18) 3) 4,lm 20 19 4,lmg 21 3 3 20 false,lmg 22 0 50 20 false,lg 23 (.nilCheck (.tmp 22)) 0 20 false,lg 24 (.fieldAddr 52 (.tmp 23) 0) 0 20 false,lg 25 (.load 9 (.tmp 24)) 9 20 false,lg 26 (.call ⟨.builtin .len,#[.tmp 25],#[9]⟩) 3 20 false,lg 27 (.binOp .eql 3 (.tmp 21) (.tmp 26) 3) 4 20 false,lo 28 (.pick (.tmp 20) (.const (.bool true)) (.tmp 27)) 4,lm 29 28 4,lmg 30 0 50 29 false,lg 31 (.nilCheck (.tmp 30)) 0 29 false,lg 32 (.fieldAddr 52 (.tmp 31) 0) 0 29 false,lg 33 (.load 9 (.tmp 32)) 9 29 false,lmg 34 3 3 29 false,lg 35 (.index 9 (.tmp 33) (.tmp 34)) 5 29 false,lg 36 (.binOp .neq 5 (.tmp 35) (.const (.int .u8 33)) 5) 4 29 false,lo 37 (.pick (.tmp 29) (.const (.bool true)) (.tmp 36)) 4]
abbrev pep_reader_epoch_r4:List LO:=[lo 2 (.assign (.const (.string ⟨#[48]⟩))) 9]
abbrev pep_reader_epoch_r5:List LO:=[lm 38 0 50,lo 39 (.call ⟨.value (.func 88),#[.tmp 38],#[50]⟩) 9,lo 4 (.assign (.tmp 39)) 9]
abbrev pep_reader_epoch_r6:List LO:=[lm 40 0 50,lo 41 (.nilCheck (.tmp 40)) 0,lo 42 (.fieldAddr 52 (.tmp 41) 1) 0,lo 43 (.load 3 (.tmp 42)) 3,lo 44 (.binOp .add 3 (.tmp 43) (.const (.int .i64 1)) 3) 3,lo 45 (.nilCheck (.tmp 40)) 0,lo 46 (.fieldAddr 52 (.tmp 45) 1) 0,ln (.store 3 (.tmp 46) (.tmp 44)) 0]
abbrev pep_reader_epoch_r7:List LO:=[lm 47 4 9,lo 2 (.assign (.tmp 47)) 9]
abbrev pep_reader_epoch_c:LC:=.seq (.reg false pep_reader_epoch_r1) (.seq (.reg true pep_reader_epoch_r2) (.seq (.seq (.reg false pep_reader_epoch_r3) (.cond (.tmp 37) (.seq (.reg false pep_reader_epoch_r4) .ret) .skip)) (.seq (.reg false pep_reader_epoch_r5) (.seq (.reg false pep_reader_epoch_r6) (.seq (.reg false pep_reader_epoch_r7) .ret)))))
theorem pep_reader_epoch_k:FnOk E 36 48 [.tmp 2] pep_reader_epoch_c:=⟨⟨Go.Proofs.Tryz.f36,by kernel_rfl,by kernel_rfl,by kernel_rfl,by kernel_rfl,by kernel_rfl⟩,rfl,rfl⟩
abbrev pep_reader_epoch_T (a0:Str) (a1:Int) (a2:Int) (a3:Int) (r:Str × Int):CS:=⟨[V 2 (bs r.1)],[W 0 4 [bs a0,iv r.2,iv a2,iv a3]],1⟩
noncomputable def pep_reader_epoch (a0:Str) (a1:Int) (a2:Int) (a3:Int):Option (Str × Int):=Option.bind (scan_Run a0 a1 1) (fun x8=>Option.bind (if ((x8 == a1) || (x8 == (List.length a0:Int)))=true then some true else Option.bind (idx a0 x8) (fun x11=>some (x11 != 33)):Option (Bool)) (fun x10=>(if x10=true then some ([48],a1) else Option.bind (pep_reader_digits a0 a1 a2 a3) (fun (x12,x13)=>some (x12,(w64 (x13 + 1)))))))
theorem pep_reader_epoch_ok (a0:Str) (a1:Int) (a2:Int) (a3:Int):CtM E 36 [pt 0 4] [W 0 4 [bs a0,iv a1,iv a2,iv a3]] 1 (pep_reader_epoch a0 a1 a2 a3) (fun r:Str × Int=>bs r.1) (fun r:Str × Int=>[W 0 4 [bs a0,iv r.2,iv a2,iv a3]]) 1:=ctm_intro (N:=48) (L:=pep_reader_epoch_c) pep_reader_epoch_k rfl (Nat.le_of_ble_eq_true rfl) (fun F hF=>by
 unfold pep_reader_epoch
 refine jS ⟨[V 0 (pt 0 4)],[W 0 4 [bs a0,iv a1,iv a2,iv a3]],1⟩ ?_
 refine jR ?_
 refine jG 0 8 ⟨[V 0 (pt 0 4),V 8 (bs a0),V 12 (iv a1)],[W 0 4 [bs a0,iv a1,iv a2,iv a3]],1⟩ ?_
 refine jK 8 (scan_Run_ok a0 a1 1) ?_
 intro x8 h8
 refine jG 9 1 ⟨[V 0 (pt 0 4),V 3 (iv x8)],[W 0 4 [bs a0,iv a1,iv a2,iv a3]],1⟩ ?_
 refine jN ?_
 refine jc_seq ?_
 refine jR ?_
 refine jG 0 16 ⟨[V 0 (pt 0 4),V 3 (iv x8),V 29 (bv ((x8 == a1) || (x8 == (List.length a0:Int))))],[W 0 4 [bs a0,iv a1,iv a2,iv a3]],1⟩ ?_
 refine jr_bind 16 8 (fun x10=>⟨[V 0 (pt 0 4),V 37 (bv x10)],[W 0 4 [bs a0,iv a1,iv a2,iv a3]],1⟩) ?_ ?_
 ·refine jSp 29 ?_ ?_
  ·refine jG 0 8 ⟨[V 0 (pt 0 4),V 37 (bv true)],[W 0 4 [bs a0,iv a1,iv a2,iv a3]],1⟩ ?_
   refine jr_nil rfl ?_
   exact jx_mid rfl (wkR [(0,some 0)] (fix_of hF (k:=1) rfl) (pc (hC 0) allp_nil))
  refine jG 0 5 ⟨[V 0 (pt 0 4),(29,.lit false),V 33 (bs a0),V 34 (iv x8)],[W 0 4 [bs a0,iv a1,iv a2,iv a3]],1⟩ ?_
  refine jr_part (i:=5) (mo:=idx a0 x8) rfl rfl rfl rfl (fun _ hc=>aop_index (kk:=.i64) (by kernel_rfl) (by kernel_rfl) (by kernel_rfl) hc) (fun _=>rfl) ?_
  intro x11 h11
  refine jG 6 2 ⟨[V 0 (pt 0 4),V 37 (bv (x11 != 33))],[W 0 4 [bs a0,iv a1,iv a2,iv a3]],1⟩ ?_
  refine jr_nil rfl ?_
  exact jx_mid rfl (wkR [(0,some 0)] (fix_of hF (k:=1) rfl) (pc (hC 0) allp_nil))
 intro x10
 refine jN ?_
 refine jIf ?_ ?_
 ·refine jS ⟨[V 2 (bs [48])],[W 0 4 [bs a0,iv a1,iv a2,iv a3]],1⟩ ?_
  refine jc_ret ?_
  refine jx_seqR ?_
  exact jx_retM (pep_reader_epoch_T a0 a1 a2 a3 ([48],a1)) (.inr rfl) (wkR [(0,some 0)] (fix_of hF (k:=1) rfl) (pc (hC 0) allp_nil))
 refine jc_skip ?_
 refine jx_seqN ?_
 refine jR ?_
 refine jG 0 1 ⟨[V 0 (pt 0 4),V 38 (pt 0 4)],[W 0 4 [bs a0,iv a1,iv a2,iv a3]],1⟩ ?_
 refine jr_callM 1 [(0,some 0)] [(0,some 0)] (fun r:Str × Int=>[W 0 4 [bs a0,iv r.2,iv a2,iv a3]]) (fun r:Str × Int=>bs r.1) 1 (pep_reader_digits_ok a0 a1 a2 a3) (pc (hC 0) allp_nil) (fun r=>(pc (.inr (hC 0)) allp_nil)) ?_
 rintro⟨x12,x13⟩ hm2
 refine jG 2 1 ⟨[V 0 (pt 0 4),V 4 (bs x12)],[W 0 4 [bs a0,iv x13,iv a2,iv a3]],1⟩ ?_
 refine jN ?_
 refine jS ⟨[V 4 (bs x12)],[W 0 4 [bs a0,iv (w64 (x13 + 1)),iv a2,iv a3]],1⟩ ?_
 refine jS ⟨[V 2 (bs x12)],[W 0 4 [bs a0,iv (w64 (x13 + 1)),iv a2,iv a3]],1⟩ ?_
 refine jc_ret ?_
 exact jx_retM (pep_reader_epoch_T a0 a1 a2 a3 (x12,(w64 (x13 + 1)))) (.inr rfl) (wkR [(0,some 0)] (fix_of hF (k:=1) rfl) (pc (hC 0) allp_nil)))
abbrev pep_reader_is_sb17f_r1:List LO:=[lo 4 (.assign (.const (.bool false))) 4]
abbrev pep_reader_is_sb17f_r2:List LO:=[lm 5 0 50,lo 6 (.nilCheck (.tmp 5)) 0,lo 7 (.fieldAddr 52 (.tmp 6) 1) 0,lo 8 (.load 3 (.tmp 7)) 3,lm 9 0 50,lo 10 (.nilCheck (.tmp 9)) 0,lo 11 (.fieldAddr 52 (.tmp 10) 0) 0,lo 12 (.load 9 (.tmp 11)) 9,lo 13 (.call ⟨.builtin .len,#[.tmp 12],#[9]⟩) 3,lo 14 (.binOp .lss 3 (.tmp 8) (.tmp 13) 3) 4,lm 15 14 4,lmg 16 0 50 15 true,lg 17 (.nilCheck (.tmp 16)) 0 15 true,lg 18 (.fieldAddr 52 (.tmp 17) 0) 0 15 true,lg 19 (.load 9 (.tmp 18)) 9 15 true,lmg 20 0 50 15 true,lg 21 (.nilCheck (.tmp 20)) 0 15 true,lg 22 (.fieldAddr 52 (.tmp 21) 1) 0 15 true,lg 23 (.load 3 (.tmp 22)) 3 15 true,lg 24 (.index 9 (.tmp 19) (.tmp 23)) 5 15 true,lmg 25 1 3 15 true,lg 26 (.call ⟨.value (.func 86),#[.tmp 24,.tmp 25],#[5,3]⟩) 4 15 true,lo 27 (.pick (.tmp 15) (.tmp 26) (.const (.bool false))) 4,lo 4 (.assign (.tmp 27)) 4]
abbrev pep_reader_is_sb17f_c:LC:=.seq (.reg false pep_reader_is_sb17f_r1) (.seq (.reg true pep_reader_is_sb17f_r2) .ret)
theorem pep_reader_is_sb17f_k:FnOk E 94 28 [.tmp 4] pep_reader_is_sb17f_c:=⟨⟨Go.Proofs.Tryz.f94,by kernel_rfl,by kernel_rfl,by kernel_rfl,by kernel_rfl,by kernel_rfl⟩,rfl,rfl⟩
noncomputable def pep_reader_is_sb17f (a0:Str) (a1:Int) (a2:Int) (a3:Int) (a4:Int):Option (Bool):=Option.bind (if (decide (a1 < (List.length a0:Int)))=true then Option.bind (idx a0 a1) (fun x4=>Option.bind (scan_Is x4 a4) (fun x5=>some x5)) else some false:Option (Bool)) (fun x3=>some x3)
theorem pep_reader_is_sb17f_ok (a0:Str) (a1:Int) (a2:Int) (a3:Int) (a4:Int):Ct E 94 [.fptr [bs a0,iv a1,iv a2,iv a3] 0,iv a4] (pep_reader_is_sb17f a0 a1 a2 a3 a4) (fun r:Bool=>bv r):=ct_intro (N:=28) (L:=pep_reader_is_sb17f_c) pep_reader_is_sb17f_k rfl (Nat.le_of_ble_eq_true rfl) (by kernel_rfl) (by
 unfold pep_reader_is_sb17f
 refine jS ⟨[V 0 (.fptr [bs a0,iv a1,iv a2,iv a3] 0),V 1 (iv a4)],[],0⟩ ?_
 refine jR ?_
 refine jG 0 11 ⟨[V 0 (.fptr [bs a0,iv a1,iv a2,iv a3] 0),V 1 (iv a4),V 15 (bv (decide (a1 < (List.length a0:Int))))],[],0⟩ ?_
 refine jr_bind 11 12 (fun x3=>⟨[V 27 (bv x3)],[],0⟩) ?_ ?_
 ·refine jSp 15 ?_ ?_
  ·refine jG 0 8 ⟨[V 1 (iv a4),(15,.lit true),V 19 (bs a0),V 23 (iv a1)],[],0⟩ ?_
   refine jr_part (i:=8) (mo:=idx a0 a1) rfl rfl rfl rfl (fun _ hc=>aop_index (kk:=.i64) (by kernel_rfl) (by kernel_rfl) (by kernel_rfl) hc) (fun _=>rfl) ?_
   intro x4 h4
   refine jG 9 1 ⟨[(15,.lit true),V 24 (.s (.int .u8 x4)),V 25 (iv a4)],[],0⟩ ?_
   refine jK 10 (scan_Is_ok x4 a4) ?_
   intro x5 h5
   refine jG 11 1 ⟨[V 27 (bv x5)],[],0⟩ ?_
   refine jr_nil rfl ?_
   exact jx_mid rfl (wkR [] (fix_nil _) allp_nil)
  refine jG 0 12 ⟨[V 27 (bv false)],[],0⟩ ?_
  refine jr_nil rfl ?_
  exact jx_mid rfl (wkR [] (fix_nil _) allp_nil)
 intro x3
 refine jG 23 1 ⟨[V 4 (bv x3)],[],0⟩ ?_
 refine jN ?_
 refine jc_ret ?_
 exact jx_retF (.inr rfl) (v:=bv x3) (by kernel_rfl) rfl (fle_refl _))
abbrev pep_reader_must_r1:List LO:=[lo 4 (.assign (.const (.bool false))) 4]
abbrev pep_reader_must_r2:List LO:=[lm 14 0 50,lo 15 (.nilCheck (.tmp 14)) 0,lo 16 (.fieldAddr 52 (.tmp 15) 2) 0,lo 17 (.fieldAddr 27 (.tmp 16) 0) 0,lo 18 (.load 25 (.tmp 17)) 25,lo 19 (.binOp .neq 25 (.tmp 18) (.const (.int .i64 0)) 25) 4,lo 13 (.assign (.tmp 19)) 4]
abbrev pep_reader_must_r3:List LO:=[lo 4 (.assign (.const (.bool false))) 4]
abbrev pep_reader_must_r4:List LO:=[lm 21 0 50,lm 22 1 3,lo 23 (.call ⟨.value (.func 94),#[.tmp 21,.tmp 22],#[50,3]⟩) 4,lo 20 (.assign (.tmp 23)) 4]
abbrev pep_reader_must_r5:List LO:=[lo 4 (.assign (.const (.bool true))) 4]
abbrev pep_reader_must_r6:List LO:=[lm 25 0 50,lo 26 (.nilCheck (.tmp 25)) 0,lo 27 (.fieldAddr 52 (.tmp 26) 1) 0,lo 28 (.load 3 (.tmp 27)) 3,lm 29 0 50,lo 30 (.nilCheck (.tmp 29)) 0,lo 31 (.fieldAddr 52 (.tmp 30) 0) 0,lo 32 (.load 9 (.tmp 31)) 9,lo 33 (.call ⟨.builtin .len,#[.tmp 32],#[9]⟩) 3,lo 34 (.binOp .eql 3 (.tmp 28) (.tmp 33) 3) 4,lo 24 (.assign (.tmp 34)) 4]
abbrev pep_reader_must_r7:List LO:=[lm 35 0 50,lm 36 0 50,lo 37 (.nilCheck (.tmp 36)) 0,lo 38 (.fieldAddr 52 (.tmp 37) 1) 0,lo 39 (.load 3 (.tmp 38)) 3,lo 40 (.build 27 #[(0,.const (.int .i64 11)),(1,.tmp 39)]) 27,lo 41 (.nilCheck (.tmp 35)) 0,lo 42 (.fieldAddr 52 (.tmp 41) 2) 0,ln (.store 27 (.tmp 42) (.tmp 40)) 0]
abbrev pep_reader_must_r8:List LO:=[lm 5 0 50,lm 6 0 50,lo 7 (.nilCheck (.tmp 6)) 0,lo 8 (.fieldAddr 52 (.tmp 7) 1) 0,lo 9 (.load 3 (.tmp 8)) 3,lo 10 (.build 27 #[(0,.const (.int .i64 10)),(1,.tmp 9)]) 27,lo 11 (.nilCheck (.tmp 5)) 0,lo 12 (.fieldAddr 52 (.tmp 11) 2) 0,ln (.store 27 (.tmp 12) (.tmp 10)) 0]
abbrev pep_reader_must_r9:List LO:=[lo 4 (.assign (.const (.bool false))) 4]
abbrev pep_reader_must_c:LC:=.seq (.reg false pep_reader_must_r1) (.seq (.block 0 (.seq (.reg false pep_reader_must_r2) (.cond (.tmp 13) (.seq (.reg false pep_reader_must_r3) .ret) (.seq (.reg false pep_reader_must_r4) (.cond (.tmp 20) (.seq (.reg false pep_reader_must_r5) .ret) (.seq (.reg true pep_reader_must_r6) (.cond (.tmp 24) (.reg false pep_reader_must_r7) (.reg false pep_reader_must_r8)))))))) (.seq (.reg false pep_reader_must_r9) .ret))
theorem pep_reader_must_k:FnOk E 89 43 [.tmp 4] pep_reader_must_c:=⟨⟨Go.Proofs.Tryz.f89,by kernel_rfl,by kernel_rfl,by kernel_rfl,by kernel_rfl,by kernel_rfl⟩,rfl,rfl⟩
abbrev pep_reader_must_T (a0:Str) (a1:Int) (a2:Int) (a3:Int) (a4:Int) (r:Bool × Int × Int):CS:=⟨[V 4 (bv r.1)],[W 0 4 [bs a0,iv a1,iv r.2.1,iv r.2.2]],1⟩
noncomputable def pep_reader_must (a0:Str) (a1:Int) (a2:Int) (a3:Int) (a4:Int):Option (Bool × Int × Int):=Option.bind ((if (a2 != 0)=true then some (Sum.inl false) else Option.bind (pep_reader_is_sb17f a0 a1 a2 a3 a4) (fun x10=>(if x10=true then some (Sum.inl true) else (if (a1 == (List.length a0:Int))=true then some (Sum.inr 11) else some (Sum.inr 10))))):Option ((Bool) ⊕ (Int))) (fun y=>match y with | Sum.inl x8=>some (x8,a2,a3) | Sum.inr x9=>some (false,x9,a1))
theorem pep_reader_must_ok (a0:Str) (a1:Int) (a2:Int) (a3:Int) (a4:Int):CtM E 89 [pt 0 4,iv a4] [W 0 4 [bs a0,iv a1,iv a2,iv a3]] 1 (pep_reader_must a0 a1 a2 a3 a4) (fun r:Bool × Int × Int=>bv r.1) (fun r:Bool × Int × Int=>[W 0 4 [bs a0,iv a1,iv r.2.1,iv r.2.2]]) 1:=ctm_intro (N:=43) (L:=pep_reader_must_c) pep_reader_must_k rfl (Nat.le_of_ble_eq_true rfl) (fun F hF=>by
 unfold pep_reader_must
 refine jS ⟨[V 0 (pt 0 4),V 1 (iv a4)],[W 0 4 [bs a0,iv a1,iv a2,iv a3]],1⟩ ?_
 refine jc_seq ?_
 refine jc_bind (fun y=>match y with | Sum.inl x8=>⟨[V 4 (bv x8)],[W 0 4 [bs a0,iv a1,iv a2,iv a3]],1⟩ | Sum.inr x9=>⟨[],[W 0 4 [bs a0,iv a1,iv x9,iv a1]],1⟩) (fun y=>match y with | Sum.inl x8=>.ret | Sum.inr x9=>.normal) ?_ ?_
 ·refine jc_block ?_
  refine jS ⟨[V 0 (pt 0 4),V 1 (iv a4),V 13 (bv (a2 != 0))],[W 0 4 [bs a0,iv a1,iv a2,iv a3]],1⟩ ?_
  refine jIf ?_ ?_
  ·refine jS ⟨[V 4 (bv false)],[W 0 4 [bs a0,iv a1,iv a2,iv a3]],1⟩ ?_
   refine jc_ret ?_
   refine jx_blkR ?_
   exact jx_mid rfl (wkR [(0,some 0)] (fix_of hF (k:=1) rfl) (pc (hC 0) allp_nil))
  refine jR ?_
  refine jG 0 2 ⟨[V 0 (pt 0 4),V 21 (pt 0 4),V 22 (iv a4)],[W 0 4 [bs a0,iv a1,iv a2,iv a3]],1⟩ ?_
  refine jr_callF (i:=2) rfl rfl rfl rfl (vs:=[pt 0 4,iv a4]) (vs0:=[.fptr [bs a0,iv a1,iv a2,iv a3] 0,iv a4]) (b:=true) (by kernel_rfl) (by kernel_rfl) (all2_cons (fle_refl _) (all2_cons (fle_refl _) all2_nil)) (pep_reader_is_sb17f_ok a0 a1 a2 a3 a4) (fun _=>rfl) (fun _=>rfl) ?_
  intro x10 h10
  refine jG 3 1 ⟨[V 0 (pt 0 4),V 20 (bv x10)],[W 0 4 [bs a0,iv a1,iv a2,iv a3]],1⟩ ?_
  refine jN ?_
  refine jIf ?_ ?_
  ·refine jS ⟨[V 4 (bv true)],[W 0 4 [bs a0,iv a1,iv a2,iv a3]],1⟩ ?_
   refine jc_ret ?_
   refine jx_blkR ?_
   exact jx_mid rfl (wkR [(0,some 0)] (fix_of hF (k:=1) rfl) (pc (hC 0) allp_nil))
  refine jS ⟨[V 0 (pt 0 4),V 24 (bv (a1 == (List.length a0:Int)))],[W 0 4 [bs a0,iv a1,iv a2,iv a3]],1⟩ ?_
  refine jIf ?_ ?_
  ·refine jT ⟨[],[W 0 4 [bs a0,iv a1,iv 11,iv a1]],1⟩ ?_
   refine jx_blkN ?_
   exact jx_mid rfl (wkR [(0,some 0)] (fix_of hF (k:=1) rfl) (pc (hC 0) allp_nil))
  refine jT ⟨[],[W 0 4 [bs a0,iv a1,iv 10,iv a1]],1⟩ ?_
  refine jx_blkN ?_
  exact jx_mid rfl (wkR [(0,some 0)] (fix_of hF (k:=1) rfl) (pc (hC 0) allp_nil))
 rintro (x8 | x9)
 ·refine jx_seqR ?_
  exact jx_retM (pep_reader_must_T a0 a1 a2 a3 a4 (x8,a2,a3)) (.inr rfl) (wkR [(0,some 0)] (fix_of hF (k:=1) rfl) (pc (hC 0) allp_nil))
 refine jx_seqN ?_
 refine jS ⟨[V 4 (bv false)],[W 0 4 [bs a0,iv a1,iv x9,iv a1]],1⟩ ?_
 refine jc_ret ?_
 exact jx_retM (pep_reader_must_T a0 a1 a2 a3 a4 (false,x9,a1)) (.inr rfl) (wkR [(0,some 0)] (fix_of hF (k:=1) rfl) (pc (hC 0) allp_nil)))
abbrev pep_reader_release_r1:List LO:=[lo 2 (.assign (.const (.slice none 0 0))) 22]
abbrev pep_reader_release_r2:List LO:=[lo 3 (.assign (.const (.slice none 0 0))) 22]
abbrev pep_reader_release_r3:List LO:=[lm 4 0 50,lo 5 (.call ⟨.value (.func 89),#[.tmp 4,.const (.int .i64 1)],#[50,3]⟩) 4]
abbrev pep_reader_release_r4:List LO:=[lm 6 3 22,lm 7 0 50,lo 8 (.call ⟨.value (.func 88),#[.tmp 7],#[50]⟩) 9,lo 9 (.buildSlice 22 1 #[(0,.tmp 8)]) 22,lo 10 (.call ⟨.builtin .append,#[.tmp 6,.tmp 9],#[22,22]⟩) 22,lo 3 (.assign (.tmp 10)) 22]
abbrev pep_reader_release_r5:List LO:=[lm 11 0 50,lo 12 (.nilCheck (.tmp 11)) 0,lo 13 (.fieldAddr 52 (.tmp 12) 1) 0,lo 14 (.load 3 (.tmp 13)) 3,lo 15 (.binOp .add 3 (.tmp 14) (.const (.int .i64 1)) 3) 3,lm 16 0 50,lo 17 (.nilCheck (.tmp 16)) 0,lo 18 (.fieldAddr 52 (.tmp 17) 0) 0,lo 19 (.load 9 (.tmp 18)) 9,lo 20 (.call ⟨.builtin .len,#[.tmp 19],#[9]⟩) 3,lo 21 (.binOp .geq 3 (.tmp 15) (.tmp 20) 3) 4,lm 22 21 4,lmg 23 0 50 22 false,lg 24 (.nilCheck (.tmp 23)) 0 22 false,lg 25 (.fieldAddr 52 (.tmp 24) 0) 0 22 false,lg 26 (.load 9 (.tmp 25)) 9 22 false,lmg 27 0 50 22 false,lg 28 (.nilCheck (.tmp 27)) 0 22 false,lg 29 (.fieldAddr 52 (.tmp 28) 1) 0 22 false,lg 30 (.load 3 (.tmp 29)) 3 22 false,lg 31 (.index 9 (.tmp 26) (.tmp 30)) 5 22 false,lg 32 (.binOp .neq 5 (.tmp 31) (.const (.int .u8 46)) 5) 4 22 false,lo 33 (.pick (.tmp 22) (.const (.bool true)) (.tmp 32)) 4,lm 34 33 4,lmg 35 0 50 34 false,lg 36 (.nilCheck (.tmp 35)) 0 34 false,lg 37 (.fieldAddr 52 (.tmp 36) 0) 0 34 false,lg 38 (.load 9 (.tmp 37)) 9 34 false,lmg 39 0 50 34 false,lg 40 (.nilCheck (.tmp 39)) 0 34 false,lg 41 (.fieldAddr 52 (.tmp 40) 1) 0 34 false,lg 42 (.load 3 (.tmp 41)) 3 34 false,lg 43 (.binOp .add 3 (.tmp 42) (.const (.int .i64 1)) 3) 3 34 false,lg 44 (.index 9 (.tmp 38) (.tmp 43)) 5 34 false,lg 45 (.call ⟨.value (.func 86),#[.tmp 44,.const (.int .i64 1)],#[5,3]⟩) 4 34 false,lg 46 (.unOp .not 4 (.tmp 45)) 4 34 false,lo 47 (.pick (.tmp 34) (.const (.bool true)) (.tmp 46)) 4]
abbrev pep_reader_release_r6:List LO:=[lm 48 3 22,lo 2 (.assign (.tmp 48)) 22]
abbrev pep_reader_release_r7:List LO:=[lm 49 0 50,lo 50 (.nilCheck (.tmp 49)) 0,lo 51 (.fieldAddr 52 (.tmp 50) 1) 0,lo 52 (.load 3 (.tmp 51)) 3,lo 53 (.binOp .add 3 (.tmp 52) (.const (.int .i64 1)) 3) 3,lo 54 (.nilCheck (.tmp 49)) 0,lo 55 (.fieldAddr 52 (.tmp 54) 1) 0,ln (.store 3 (.tmp 55) (.tmp 53)) 0]
abbrev pep_reader_release_r8:List LO:=[lm 56 3 22,lo 2 (.assign (.tmp 56)) 22]
abbrev pep_reader_release_c:LC:=.seq (.reg false pep_reader_release_r1) (.seq (.reg false pep_reader_release_r2) (.seq (.block 0 (.loop (.seq (.seq (.reg false pep_reader_release_r3) (.cond (.tmp 5) .skip (.exit 0))) (.block 1 (.seq (.reg false pep_reader_release_r4) (.seq (.seq (.reg true pep_reader_release_r5) (.cond (.tmp 47) (.seq (.reg false pep_reader_release_r6) .ret) .skip)) (.reg false pep_reader_release_r7))))))) (.seq (.reg false pep_reader_release_r8) .ret)))
theorem pep_reader_release_k:FnOk E 37 57 [.tmp 2] pep_reader_release_c:=⟨⟨Go.Proofs.Tryz.f37,by kernel_rfl,by kernel_rfl,by kernel_rfl,by kernel_rfl,by kernel_rfl⟩,rfl,rfl⟩
noncomputable def pep_reader_release_l1 (a0:Str):(Int × Int × Int × List Str)→Option (Step (Int × Int × Int × List Str) ((List Str × Int × Int × Int) ⊕ (List Str × Int × Int × Int))):=fun (x54,x55,x56,x57)=>Option.bind (pep_reader_must a0 x54 x55 x56 1) (fun (x81,x82,x83)=>(if x81=true then Option.bind (pep_reader_digits a0 x54 x82 x83) (fun (x84,x85)=>Option.bind (app 16 x57 [x84]) (fun x86=>Option.bind (if (decide ((w64 (x85 + 1))≥(List.length a0:Int)))=true then some true else Option.bind (idx a0 x85) (fun x89=>some (x89 != 46)):Option (Bool)) (fun x88=>Option.bind (if x88=true then some true else Option.bind (idx a0 (w64 (x85 + 1))) (fun x93=>Option.bind (scan_Is x93 1) (fun x94=>some (!x94))):Option (Bool)) (fun x92=>(if x92=true then some (Step.done (Sum.inl (x86,x85,x82,x83))) else some (Step.next ((w64 (x85 + 1)),x82,x83,x86))))))) else some (Step.done (Sum.inr (x57,x54,x82,x83)))))
abbrev pep_reader_release_T (a0:Str) (a1:Int) (a2:Int) (a3:Int) (r:List Str × Int × Int × Int):CS:=⟨[V 2 (.osl 1 0 (List.length r.1) 1)],[W 0 4 [bs a0,iv r.2.1,iv r.2.2.1,iv r.2.2.2],(1,.rows 1 (List.map cS r.1))],2⟩
noncomputable def pep_reader_release (a0:Str) (a1:Int) (a2:Int) (a3:Int):Option (List Str × Int × Int × Int):=Option.bind (loopC (pep_reader_release_l1 a0) (a1,a2,a3,[])) (fun y=>match y with | Sum.inl (x73,x74,x75,x76)=>some (x73,x74,x75,x76) | Sum.inr (x77,x78,x79,x80)=>some (x77,x78,x79,x80))
theorem pep_reader_release_ok (a0:Str) (a1:Int) (a2:Int) (a3:Int):CtM E 37 [pt 0 4] [W 0 4 [bs a0,iv a1,iv a2,iv a3]] 1 (pep_reader_release a0 a1 a2 a3) (fun r:List Str × Int × Int × Int=>.osl 1 0 (List.length r.1) 1) (fun r:List Str × Int × Int × Int=>[W 0 4 [bs a0,iv r.2.1,iv r.2.2.1,iv r.2.2.2],(1,.rows 1 (List.map cS r.1))]) 2:=ctm_intro (N:=57) (L:=pep_reader_release_c) pep_reader_release_k rfl (Nat.le_of_ble_eq_true rfl) (fun F hF=>by
 unfold pep_reader_release
 refine jS ⟨[V 0 (pt 0 4)],[W 0 4 [bs a0,iv a1,iv a2,iv a3]],1⟩ ?_
 refine jS ⟨[V 0 (pt 0 4),V 3 (nilS)],[W 0 4 [bs a0,iv a1,iv a2,iv a3]],1⟩ ?_
 refine jc_seq ?_
 refine jc_block ?_
 refine jc_bind (fun y=>match y with | Sum.inl (x73,x74,x75,x76)=>⟨[V 2 (.osl 1 0 (List.length x73) 1)],[W 0 4 [bs a0,iv x74,iv x75,iv x76],(1,.rows 1 (List.map cS x73))],2⟩ | Sum.inr (x77,x78,x79,x80)=>⟨[V 3 (.osl 1 0 (List.length x77) 1)],[W 0 4 [bs a0,iv x78,iv x79,iv x80],(1,.rows 1 (List.map cS x77))],2⟩) (fun y=>match y with | Sum.inl (x73,x74,x75,x76)=>.ret | Sum.inr (x77,x78,x79,x80)=>(.exit 0)) (jc_loop (fun (x54,x55,x56,x57)=>⟨[V 0 (pt 0 4),V 3 (.osl 1 0 (List.length x57) 1)],[W 0 4 [bs a0,iv x54,iv x55,iv x56],(1,.rows 1 (List.map cS x57))],2⟩) (wkR [(0,some 0),(1,none)] (fix_of hF (k:=1) rfl) (pc (hC 0) (pc hZ allp_nil))) ?_) ?_
 ·rintro⟨x54,x55,x56,x57⟩
  unfold pep_reader_release_l1
  refine jc_seq ?_
  refine jR ?_
  refine jG 0 1 ⟨[V 0 (pt 0 4),V 3 (.osl 1 0 (List.length x57) 1),V 4 (pt 0 4)],[W 0 4 [bs a0,iv x54,iv x55,iv x56],(1,.rows 1 (List.map cS x57))],2⟩ ?_
  refine jr_callM 1 [(0,some 0)] [(0,some 0)] (fun r:Bool × Int × Int=>[W 0 4 [bs a0,iv x54,iv r.2.1,iv r.2.2],(1,.rows 1 (List.map cS x57))]) (fun r:Bool × Int × Int=>bv r.1) 2 (pep_reader_must_ok a0 x54 x55 x56 1) (pc (hC 0) allp_nil) (fun r=>(pc (.inr (hC 0)) (pc (.inl ⟨rfl,rfl⟩) allp_nil))) ?_
  rintro⟨x81,x82,x83⟩ hm10
  refine jN ?_
  refine jIf ?_ ?_
  ·refine jc_skip ?_
   refine jx_seqN ?_
   refine jc_block ?_
   refine jR ?_
   refine jG 0 2 ⟨[V 0 (pt 0 4),V 6 (.osl 1 0 (List.length x57) 1),V 7 (pt 0 4)],[W 0 4 [bs a0,iv x54,iv x82,iv x83],(1,.rows 1 (List.map cS x57))],2⟩ ?_
   refine jr_callM 2 [(0,some 0)] [(0,some 0)] (fun r:Str × Int=>[W 0 4 [bs a0,iv r.2,iv x82,iv x83],(1,.rows 1 (List.map cS x57))]) (fun r:Str × Int=>bs r.1) 2 (pep_reader_digits_ok a0 x54 x82 x83) (pc (hC 0) allp_nil) (fun r=>(pc (.inr (hC 0)) (pc (.inl ⟨rfl,rfl⟩) allp_nil))) ?_
   rintro⟨x84,x85⟩ hm9
   refine jG 3 1 ⟨[V 0 (pt 0 4),V 6 (.osl 1 0 (List.length x57) 1),V 9 (.osl 2 0 (List.length [x84]) 1)],[W 0 4 [bs a0,iv x85,iv x82,iv x83],(1,.rows 1 (List.map cS x57)),(2,.rows 1 (List.map cS [x84]))],3⟩ ?_
   refine jr_part (i:=4) (mo:=app 16 x57 [x84]) rfl rfl rfl rfl (fun _ hc=>aop_app (u:=.osl 1 0 (List.length x57) 1) (w:=.osl 2 0 (List.length [x84]) 1) (e:=9) (td:=.slice 9) (by kernel_rfl) (by kernel_rfl) (by kernel_rfl) (by kernel_rfl) (.inl ⟨_,rfl⟩) (appendOf_own (c:=cS) (sz:=1) (b:=16) (id:=1) (by kernel_rfl) (by kernel_rfl) (rows_own (by kernel_rfl)) (List.cons_ne_nil _ _) hc)) (fun _=>rfl) ?_
   intro x86 h86
   refine jG 5 1 ⟨[V 0 (pt 0 4),V 3 (.osl 3 0 (List.length x86) 1)],[W 0 4 [bs a0,iv x85,iv x82,iv x83],(3,.rows 1 (List.map cS x86))],4⟩ ?_
   refine jN ?_
   refine jc_seq ?_
   refine jR ?_
   refine jG 0 12 ⟨[V 0 (pt 0 4),V 3 (.osl 3 0 (List.length x86) 1),V 22 (bv (decide ((w64 (x85 + 1))≥(List.length a0:Int))))],[W 0 4 [bs a0,iv x85,iv x82,iv x83],(3,.rows 1 (List.map cS x86))],4⟩ ?_
   refine jr_bind 12 11 (fun x88=>⟨[V 0 (pt 0 4),V 3 (.osl 1 0 (List.length x86) 1),V 33 (bv x88)],[W 0 4 [bs a0,iv x85,iv x82,iv x83],(1,.rows 1 (List.map cS x86))],2⟩) ?_ ?_
   ·refine jSp 22 ?_ ?_
    ·refine jG 0 11 ⟨[V 0 (pt 0 4),V 3 (.osl 3 0 (List.length x86) 1),V 33 (bv true)],[W 0 4 [bs a0,iv x85,iv x82,iv x83],(3,.rows 1 (List.map cS x86))],4⟩ ?_
     refine jr_nil rfl ?_
     exact jx_mid rfl (wkR [(0,some 0),(1,some 3)] (fix_of hF (k:=1) rfl) (pc (hC 0) (pc (hL 3 (noid_map ni_S _)) allp_nil)))
    refine jG 0 8 ⟨[V 0 (pt 0 4),V 3 (.osl 3 0 (List.length x86) 1),(22,.lit false),V 26 (bs a0),V 30 (iv x85)],[W 0 4 [bs a0,iv x85,iv x82,iv x83],(3,.rows 1 (List.map cS x86))],4⟩ ?_
    refine jr_part (i:=8) (mo:=idx a0 x85) rfl rfl rfl rfl (fun _ hc=>aop_index (kk:=.i64) (by kernel_rfl) (by kernel_rfl) (by kernel_rfl) hc) (fun _=>rfl) ?_
    intro x89 h89
    refine jG 9 2 ⟨[V 0 (pt 0 4),V 3 (.osl 3 0 (List.length x86) 1),V 33 (bv (x89 != 46))],[W 0 4 [bs a0,iv x85,iv x82,iv x83],(3,.rows 1 (List.map cS x86))],4⟩ ?_
    refine jr_nil rfl ?_
    exact jx_mid rfl (wkR [(0,some 0),(1,some 3)] (fix_of hF (k:=1) rfl) (pc (hC 0) (pc (hL 3 (noid_map ni_S _)) allp_nil)))
   intro x88
   refine jG 23 1 ⟨[V 0 (pt 0 4),V 3 (.osl 1 0 (List.length x86) 1),V 34 (bv x88)],[W 0 4 [bs a0,iv x85,iv x82,iv x83],(1,.rows 1 (List.map cS x86))],2⟩ ?_
   refine jr_bind 24 13 (fun x92=>⟨[V 0 (pt 0 4),V 3 (.osl 1 0 (List.length x86) 1),V 47 (bv x92)],[W 0 4 [bs a0,iv x85,iv x82,iv x83],(1,.rows 1 (List.map cS x86))],2⟩) ?_ ?_
   ·refine jSp 34 ?_ ?_
    ·refine jG 0 13 ⟨[V 0 (pt 0 4),V 3 (.osl 1 0 (List.length x86) 1),V 47 (bv true)],[W 0 4 [bs a0,iv x85,iv x82,iv x83],(1,.rows 1 (List.map cS x86))],2⟩ ?_
     refine jr_nil rfl ?_
     exact jx_mid rfl (wkR [(0,some 0),(1,some 1)] (fix_of hF (k:=1) rfl) (pc (hC 0) (pc (hL 1 (noid_map ni_S _)) allp_nil)))
    refine jG 0 9 ⟨[V 0 (pt 0 4),V 3 (.osl 1 0 (List.length x86) 1),(34,.lit false),V 38 (bs a0),V 43 (iv (w64 (x85 + 1)))],[W 0 4 [bs a0,iv x85,iv x82,iv x83],(1,.rows 1 (List.map cS x86))],2⟩ ?_
    refine jr_part (i:=9) (mo:=idx a0 (w64 (x85 + 1))) rfl rfl rfl rfl (fun _ hc=>aop_index (kk:=.i64) (by kernel_rfl) (by kernel_rfl) (by kernel_rfl) hc) (fun _=>rfl) ?_
    intro x93 h93
    refine jK 10 (scan_Is_ok x93 1) ?_
    intro x94 h94
    refine jG 11 2 ⟨[V 0 (pt 0 4),V 3 (.osl 1 0 (List.length x86) 1),V 47 (bv (!x94))],[W 0 4 [bs a0,iv x85,iv x82,iv x83],(1,.rows 1 (List.map cS x86))],2⟩ ?_
    refine jr_nil rfl ?_
    exact jx_mid rfl (wkR [(0,some 0),(1,some 1)] (fix_of hF (k:=1) rfl) (pc (hC 0) (pc (hL 1 (noid_map ni_S _)) allp_nil)))
   intro x92
   refine jN ?_
   refine jIf ?_ ?_
   ·refine jS ⟨[V 2 (.osl 1 0 (List.length x86) 1)],[W 0 4 [bs a0,iv x85,iv x82,iv x83],(1,.rows 1 (List.map cS x86))],2⟩ ?_
    refine jc_ret ?_
    refine jx_seqR ?_
    refine jx_blkR ?_
    exact jx_done rfl nofun (wkR [(0,some 0),(1,some 1)] (fix_of hF (k:=1) rfl) (pc (hC 0) (pc (hL 1 (noid_map ni_S _)) allp_nil)))
   refine jc_skip ?_
   refine jx_seqN ?_
   refine jT ⟨[V 0 (pt 0 4),V 3 (.osl 1 0 (List.length x86) 1)],[W 0 4 [bs a0,iv (w64 (x85 + 1)),iv x82,iv x83],(1,.rows 1 (List.map cS x86))],2⟩ ?_
   refine jx_blkN ?_
   exact jx_next (wkR [(0,some 0),(1,some 1)] (fix_of hF (k:=1) rfl) (pc (hC 0) (pc (hL 1 (noid_map ni_S _)) allp_nil)))
  refine jc_exit ?_
  refine jx_seqE ?_
  exact jx_done rfl nofun (wkR [(0,some 0),(1,some 1)] (fix_of hF (k:=1) rfl) (pc (hC 0) (pc (hL 1 (noid_map ni_S _)) allp_nil)))
 rintro (⟨x73,x74,x75,x76⟩ | ⟨x77,x78,x79,x80⟩)
 ·refine jx_blkR ?_
  refine jx_seqR ?_
  exact jx_retM (pep_reader_release_T a0 a1 a2 a3 (x73,x74,x75,x76)) (.inr rfl) (wkR [(0,some 0),(1,some 1)] (fix_of hF (k:=1) rfl) (pc (hC 0) (pc (hL 1 (noid_map ni_S _)) allp_nil)))
 refine jx_blkE ?_
 refine jx_seqN ?_
 refine jS ⟨[V 2 (.osl 1 0 (List.length x77) 1)],[W 0 4 [bs a0,iv x78,iv x79,iv x80],(1,.rows 1 (List.map cS x77))],2⟩ ?_
 refine jc_ret ?_
 exact jx_retM (pep_reader_release_T a0 a1 a2 a3 (x77,x78,x79,x80)) (.inr rfl) (wkR [(0,some 0),(1,some 1)] (fix_of hF (k:=1) rfl) (pc (hC 0) (pc (hL 1 (noid_map ni_S _)) allp_nil))))
abbrev ref01_Lower_r1:List LO:=[lo 2 (.assign (.const (.string ⟨#[]⟩))) 9]
abbrev ref01_Lower_r2:List LO:=[lm 5 0 9,lo 6 (.convert 9 92 (.tmp 5)) 92,lo 3 (.assign (.tmp 6)) 92]
abbrev ref01_Lower_r3:List LO:=[lo 4 (.assign (.const (.int .i64 0))) 3]
abbrev ref01_Lower_r4:List LO:=[lm 7 4 3,lm 8 3 92,lo 9 (.call ⟨.builtin .len,#[.tmp 8],#[92]⟩) 3,lo 10 (.binOp .lss 3 (.tmp 7) (.tmp 9) 3) 4]
abbrev ref01_Lower_r5:List LO:=[lm 13 3 92,lm 14 4 3,lo 15 (.indexAddr 92 (.tmp 13) (.tmp 14)) 0,lo 16 (.load 5 (.tmp 15)) 5,lo 17 (.call ⟨.value (.func 97),#[.tmp 16,.const (.int .i64 3)],#[5,3]⟩) 4]
abbrev ref01_Lower_r6:List LO:=[lm 18 3 92,lm 19 4 3,lm 20 3 92,lm 21 4 3,lo 22 (.indexAddr 92 (.tmp 20) (.tmp 21)) 0,lo 23 (.load 5 (.tmp 22)) 5,lo 24 (.binOp .add 5 (.tmp 23) (.const (.int .u8 32)) 5) 5,lo 25 (.indexAddr 92 (.tmp 18) (.tmp 19)) 0,ln (.store 5 (.tmp 25) (.tmp 24)) 0]
abbrev ref01_Lower_r7:List LO:=[lm 11 4 3,lo 12 (.binOp .add 3 (.tmp 11) (.const (.int .i64 1)) 3) 3,lo 4 (.assign (.tmp 12)) 3]
abbrev ref01_Lower_r8:List LO:=[lm 26 3 92,lo 27 (.convert 92 9 (.tmp 26)) 9,lo 2 (.assign (.tmp 27)) 9]
abbrev ref01_Lower_c:LC:=.seq (.reg false ref01_Lower_r1) (.seq (.reg false ref01_Lower_r2) (.seq (.seq (.reg false ref01_Lower_r3) (.block 0 (.loop (.seq (.seq (.reg false ref01_Lower_r4) (.cond (.tmp 10) .skip (.exit 0))) (.seq (.block 1 (.seq (.reg false ref01_Lower_r5) (.cond (.tmp 17) (.reg false ref01_Lower_r6) .skip))) (.reg false ref01_Lower_r7)))))) (.seq (.reg false ref01_Lower_r8) .ret)))
theorem ref01_Lower_k:FnOk E 43 28 [.tmp 2] ref01_Lower_c:=⟨⟨Go.Proofs.Tryz.f43,by kernel_rfl,by kernel_rfl,by kernel_rfl,by kernel_rfl,by kernel_rfl⟩,rfl,rfl⟩
noncomputable def ref01_Lower_l1:(List Int × Int)→Option (Step (List Int × Int) (List Int)):=fun (x7,x8)=>(if (decide (x8 < (List.length x7:Int)))=true then Option.bind (Option.bind (ixl x7 x8) (fun x22=>Option.bind (ref01_Is x22 3) (fun x23=>(if x23=true then Option.bind (ixl x7 x8) (fun x24=>Option.bind (ixl x7 x8) (fun x25=>some (List.set x7 (Int.toNat x8) (IntKind.wrap .u8 (x24 + 32))))) else some x7))):Option (List Int)) (fun x21=>some (Step.next (x21,(w64 (x8 + 1))))) else some (Step.done x7))
noncomputable def ref01_Lower (a0:Str):Option (Str):=Option.bind (tob a0) (fun x1=>Option.bind (loopC (ref01_Lower_l1) (x1,0)) (fun x16=>some (ofb x16)))
theorem ref01_Lower_ok (a0:Str):Ct E 43 [bs a0] (ref01_Lower a0) (fun r:Str=>bs r):=ct_intro (N:=28) (L:=ref01_Lower_c) ref01_Lower_k rfl (Nat.le_of_ble_eq_true rfl) (by kernel_rfl) (by
 unfold ref01_Lower
 refine jS ⟨[V 0 (bs a0)],[],0⟩ ?_
 refine jR ?_
 refine jG 0 1 ⟨[V 5 (bs a0)],[],0⟩ ?_
 refine jr_part (i:=1) (mo:=tob a0) rfl rfl rfl rfl (fun _ hc=>aop_tob (e:=5) (st:=.string) (by kernel_rfl) (by kernel_rfl) (by kernel_rfl) (by kernel_rfl) hc) (fun _=>rfl) ?_
 intro x1 h1
 refine jG 2 1 ⟨[V 3 (.osl 0 0 (List.length x1) 1)],[(0,.rows 1 (List.map cB x1))],1⟩ ?_
 refine jN ?_
 refine jc_seq ?_
 refine jS ⟨[V 3 (.osl 0 0 (List.length x1) 1),V 4 (iv 0)],[(0,.rows 1 (List.map cB x1))],1⟩ ?_
 refine jc_block ?_
 refine jc_bind (fun x16=>⟨[V 3 (.osl 0 0 (List.length x16) 1)],[(0,.rows 1 (List.map cB x16))],1⟩) (fun x16=>(.exit 0)) (jc_loop (fun (x7,x8)=>⟨[V 3 (.osl 0 0 (List.length x7) 1),V 4 (iv x8)],[(0,.rows 1 (List.map cB x7))],1⟩) (wkR [(0,some 0)] (fix_nil _) (pc (hL 0 (noid_map ni_B _)) allp_nil)) ?_) ?_
 ·rintro⟨x7,x8⟩
  unfold ref01_Lower_l1
  refine jc_seq ?_
  refine jS ⟨[V 3 (.osl 0 0 (List.length x7) 1),V 4 (iv x8),V 10 (bv (decide (x8 < (List.length x7:Int))))],[(0,.rows 1 (List.map cB x7))],1⟩ ?_
  refine jIf ?_ ?_
  ·refine jc_skip ?_
   refine jx_seqN ?_
   refine jc_seq ?_
   refine jc_bind (fun x21=>⟨[V 3 (.osl 0 0 (List.length x21) 1),V 4 (iv x8)],[(0,.rows 1 (List.map cB x21))],1⟩) (fun x21=>.normal) ?_ ?_
   ·refine jc_block ?_
    refine jR ?_
    refine jG 0 2 ⟨[V 3 (.osl 0 0 (List.length x7) 1),V 4 (iv x8),V 13 (.osl 0 0 (List.length x7) 1),V 14 (iv x8)],[(0,.rows 1 (List.map cB x7))],1⟩ ?_
    refine jr_part (i:=2) (mo:=ixl x7 x8) rfl rfl rfl rfl (fun _ hc=>aop_ixo0 (sz:=1) (e:=5) (kk:=.i64) (id:=0) (by kernel_rfl) (by kernel_rfl) (by kernel_rfl) (by kernel_rfl) hc) (fun _=>rfl) ?_
    intro x22 h22
    refine jr_one (i:=3) (v:=.s (.int .u8 x22)) rfl rfl rfl rfl (aop_ldo (l:=x7) (c:=cB) (id:=0) (k:=(Int.toNat x8)) (sz:=1) (off:=0) (a:=x22) (by kernel_rfl) (by kernel_rfl) (ixl_lt h22).2.2 (by kernel_rfl)) rfl ?_
    refine jK 4 (ref01_Is_ok x22 3) ?_
    intro x23 h23
    refine jN ?_
    refine jIf ?_ ?_
    ·refine jc_reg ?_
     refine jG 0 4 ⟨[V 3 (.osl 0 0 (List.length x7) 1),V 4 (iv x8),V 18 (.osl 0 0 (List.length x7) 1),V 19 (iv x8),V 20 (.osl 0 0 (List.length x7) 1),V 21 (iv x8)],[(0,.rows 1 (List.map cB x7))],1⟩ ?_
     refine jr_part (i:=4) (mo:=ixl x7 x8) rfl rfl rfl rfl (fun _ hc=>aop_ixo0 (sz:=1) (e:=5) (kk:=.i64) (id:=0) (by kernel_rfl) (by kernel_rfl) (by kernel_rfl) (by kernel_rfl) hc) (fun _=>rfl) ?_
     intro x24 h24
     refine jr_one (i:=5) (v:=.s (.int .u8 x24)) rfl rfl rfl rfl (aop_ldo (l:=x7) (c:=cB) (id:=0) (k:=(Int.toNat x8)) (sz:=1) (off:=0) (a:=x24) (by kernel_rfl) (by kernel_rfl) (ixl_lt h24).2.2 (by kernel_rfl)) rfl ?_
     refine jG 6 1 ⟨[V 3 (.osl 0 0 (List.length x7) 1),V 4 (iv x8),V 18 (.osl 0 0 (List.length x7) 1),V 19 (iv x8),V 24 (.s (.int .u8 (IntKind.wrap .u8 (x24 + 32))))],[(0,.rows 1 (List.map cB x7))],1⟩ ?_
     refine jr_part (i:=7) (mo:=ixl x7 x8) rfl rfl rfl rfl (fun _ hc=>aop_ixo0 (sz:=1) (e:=5) (kk:=.i64) (id:=0) (by kernel_rfl) (by kernel_rfl) (by kernel_rfl) (by kernel_rfl) hc) (fun _=>rfl) ?_
     intro x25 h25
     refine jr_sto (i:=8) [3,4] [0] (st1:=⟨[V 3 (.osl 0 0 (List.length (List.set x7 (Int.toNat x8) (IntKind.wrap .u8 (x24 + 32)))) 1),V 4 (iv x8)],[(0,.rows 1 (List.map cB (List.set x7 (Int.toNat x8) (IntKind.wrap .u8 (x24 + 32)))))],1⟩) rfl rfl rfl rfl (aop_sto (l:=x7) (c:=cB) (id:=0) (k:=(Int.toNat x8)) (sz:=1) (off:=0) (a:=x25) (a':=(IntKind.wrap .u8 (x24 + 32))) (w:=.s (.int .u8 (IntKind.wrap .u8 (x24 + 32)))) (cs:=[.s (.int .u8 (IntKind.wrap .u8 (x24 + 32)))]) (by kernel_rfl) (by kernel_rfl) (by kernel_rfl) (by kernel_rfl) (by kernel_rfl) (ixl_lt h25).2.2 (Nat.le_of_ble_eq_true rfl) (by kernel_rfl)) (by simp only[List.length_set]; kernel_rfl) ?_
     refine jr_nil rfl ?_
     refine jx_blkN ?_
     exact jx_mid rfl (wkR [(0,some 0)] (fix_nil _) (pc (hL 0 (noid_map ni_B _)) allp_nil))
    refine jc_skip ?_
    refine jx_blkN ?_
    exact jx_mid rfl (wkR [(0,some 0)] (fix_nil _) (pc (hL 0 (noid_map ni_B _)) allp_nil))
   intro x21
   refine jx_seqN ?_
   refine jT ⟨[V 3 (.osl 0 0 (List.length x21) 1),V 4 (iv (w64 (x8 + 1)))],[(0,.rows 1 (List.map cB x21))],1⟩ ?_
   exact jx_next (wkR [(0,some 0)] (fix_nil _) (pc (hL 0 (noid_map ni_B _)) allp_nil))
  refine jc_exit ?_
  refine jx_seqE ?_
  exact jx_done rfl nofun (wkR [(0,some 0)] (fix_nil _) (pc (hL 0 (noid_map ni_B _)) allp_nil))
 intro x16
 refine jx_blkE ?_
 refine jx_seqN ?_
 refine jR ?_
 refine jG 0 1 ⟨[V 26 (.osl 0 0 (List.length x16) 1)],[(0,.rows 1 (List.map cB x16))],1⟩ ?_
 refine jr_one (i:=1) rfl rfl rfl rfl (aop_ofb_o (e:=5) (id:=0) (l:=x16) (by kernel_rfl) (by kernel_rfl) (by kernel_rfl) (by kernel_rfl) (by kernel_rfl)) rfl ?_
 refine jG 2 1 ⟨[V 2 (bs (ofb x16))],[],2⟩ ?_
 refine jN ?_
 refine jc_ret ?_
 exact jx_retF (.inr rfl) (v:=bs (ofb x16)) (by kernel_rfl) rfl (fle_refl _))
abbrev ref01_Starts_r1:List LO:=[lo 6 (.assign (.const (.bool false))) 4]
abbrev ref01_Starts_r2:List LO:=[lm 7 1 3,lo 8 (.binOp .geq 3 (.tmp 7) (.const (.int .i64 0)) 3) 4,lm 9 8 4,lmg 10 1 3 9 true,lmg 11 0 9 9 true,lg 12 (.call ⟨.builtin .len,#[.tmp 11],#[9]⟩) 3 9 true,lg 13 (.binOp .leq 3 (.tmp 10) (.tmp 12) 3) 4 9 true,lo 14 (.pick (.tmp 9) (.tmp 13) (.const (.bool false))) 4,lm 15 14 4,lmg 16 0 9 15 true,lg 17 (.call ⟨.builtin .len,#[.tmp 16],#[9]⟩) 3 15 true,lmg 18 1 3 15 true,lg 19 (.binOp .sub 3 (.tmp 17) (.tmp 18) 3) 3 15 true,lmg 20 2 9 15 true,lg 21 (.call ⟨.builtin .len,#[.tmp 20],#[9]⟩) 3 15 true,lg 22 (.binOp .geq 3 (.tmp 19) (.tmp 21) 3) 4 15 true,lo 23 (.pick (.tmp 15) (.tmp 22) (.const (.bool false))) 4,lm 24 23 4,lmg 25 0 9 24 true,lmg 26 1 3 24 true,lmg 27 1 3 24 true,lmg 28 2 9 24 true,lg 29 (.call ⟨.builtin .len,#[.tmp 28],#[9]⟩) 3 24 true,lg 30 (.binOp .add 3 (.tmp 27) (.tmp 29) 3) 3 24 true,lg 31 (.slice 9 (.tmp 25) (some (.tmp 26)) (some (.tmp 30)) none) 9 24 true,lmg 32 2 9 24 true,lg 33 (.binOp .eql 9 (.tmp 31) (.tmp 32) 9) 4 24 true,lo 34 (.pick (.tmp 24) (.tmp 33) (.const (.bool false))) 4,lo 6 (.assign (.tmp 34)) 4]
abbrev ref01_Starts_c:LC:=.seq (.reg false ref01_Starts_r1) (.seq (.reg false ref01_Starts_r2) .ret)
theorem ref01_Starts_k:FnOk E 136 35 [.tmp 6] ref01_Starts_c:=⟨⟨Go.Proofs.Tryz.f136,by kernel_rfl,by kernel_rfl,by kernel_rfl,by kernel_rfl,by kernel_rfl⟩,rfl,rfl⟩
noncomputable def ref01_Starts (a0:Str) (a1:Int) (a2:Str):Option (Bool):=Option.bind (if (((decide (a1≥0)) && (decide (a1≤(List.length a0:Int)))) && (decide ((w64 ((List.length a0:Int) - a1))≥(List.length a2:Int))))=true then Option.bind (subl a0 a1 (w64 (a1 + (List.length a2:Int)))) (fun x3=>some (x3 == a2)) else some false:Option (Bool)) (fun x2=>some x2)
theorem ref01_Starts_ok (a0:Str) (a1:Int) (a2:Str):Ct E 136 [bs a0,iv a1,bs a2] (ref01_Starts a0 a1 a2) (fun r:Bool=>bv r):=ct_intro (N:=35) (L:=ref01_Starts_c) ref01_Starts_k rfl (Nat.le_of_ble_eq_true rfl) (by kernel_rfl) (by
 unfold ref01_Starts
 refine jS ⟨[V 0 (bs a0),V 1 (iv a1),V 2 (bs a2)],[],0⟩ ?_
 refine jR ?_
 refine jG 0 18 ⟨[V 0 (bs a0),V 1 (iv a1),V 2 (bs a2),V 24 (bv (((decide (a1≥0)) && (decide (a1≤(List.length a0:Int)))) && (decide ((w64 ((List.length a0:Int) - a1))≥(List.length a2:Int)))))],[],0⟩ ?_
 refine jr_bind 18 10 (fun x2=>⟨[V 34 (bv x2)],[],0⟩) ?_ ?_
 ·refine jSp 24 ?_ ?_
  ·refine jG 0 6 ⟨[V 2 (bs a2),(24,.lit true),V 25 (bs a0),V 26 (iv a1),V 30 (iv (w64 (a1 + (List.length a2:Int))))],[],0⟩ ?_
   refine jr_part (i:=6) (mo:=subl a0 a1 (w64 (a1 + (List.length a2:Int)))) rfl rfl rfl rfl (fun _ hc=>aop_subs (by kernel_rfl) (by kernel_rfl) (by kernel_rfl) (by kernel_rfl) hc) (fun _=>rfl) ?_
   intro x3 h3
   refine jG 7 3 ⟨[V 34 (bv (x3 == a2))],[],0⟩ ?_
   refine jr_nil rfl ?_
   exact jx_mid rfl (wkR [] (fix_nil _) allp_nil)
  refine jG 0 10 ⟨[V 34 (bv false)],[],0⟩ ?_
  refine jr_nil rfl ?_
  exact jx_mid rfl (wkR [] (fix_nil _) allp_nil)
 intro x2
 refine jG 28 1 ⟨[V 6 (bv x2)],[],0⟩ ?_
 refine jN ?_
 refine jc_ret ?_
 exact jx_retF (.inr rfl) (v:=bv x2) (by kernel_rfl) rfl (fle_refl _))
abbrev ref01_Word_r1:List LO:=[lo 6 (.assign (.const (.string ⟨#[]⟩))) 9,lo 7 (.assign (.const (.bool false))) 4]
abbrev ref01_Word_r2:List LO:=[lo 8 (.assign (.const (.string ⟨#[]⟩))) 9]
abbrev ref01_Word_r3:List LO:=[lo 9 (.assign (.const (.bool false))) 4]
abbrev ref01_Word_r4:List LO:=[lo 10 (.assign (.const (.int .i64 0))) 3]
abbrev ref01_Word_r5:List LO:=[lm 11 10 3,lm 12 2 22,lo 13 (.call ⟨.builtin .len,#[.tmp 12],#[22]⟩) 3,lo 14 (.binOp .lss 3 (.tmp 11) (.tmp 13) 3) 4]
abbrev ref01_Word_r6:List LO:=[lm 17 0 9,lm 18 1 3,lm 19 2 22,lm 20 10 3,lo 21 (.indexAddr 22 (.tmp 19) (.tmp 20)) 0,lo 22 (.load 9 (.tmp 21)) 9,lo 23 (.call ⟨.value (.func 136),#[.tmp 17,.tmp 18,.tmp 22],#[9,3,9]⟩) 4,lm 24 23 4,lmg 25 9 4 24 true,lg 26 (.unOp .not 4 (.tmp 25)) 4 24 true,lmg 27 26 4 24 true,lmg 28 2 22 27 false,lmg 29 10 3 27 false,lg 30 (.indexAddr 22 (.tmp 28) (.tmp 29)) 0 27 false,lg 31 (.load 9 (.tmp 30)) 9 27 false,lg 32 (.call ⟨.builtin .len,#[.tmp 31],#[9]⟩) 3 27 false,lmg 33 8 9 27 false,lg 34 (.call ⟨.builtin .len,#[.tmp 33],#[9]⟩) 3 27 false,lg 35 (.binOp .gtr 3 (.tmp 32) (.tmp 34) 3) 4 27 false,lg 36 (.pick (.tmp 27) (.const (.bool true)) (.tmp 35)) 4 24 true,lo 37 (.pick (.tmp 24) (.tmp 36) (.const (.bool false))) 4]
abbrev ref01_Word_r7:List LO:=[lm 38 2 22,lm 39 10 3,lo 40 (.indexAddr 22 (.tmp 38) (.tmp 39)) 0,lo 41 (.load 9 (.tmp 40)) 9,lo 8 (.assign (.tmp 41)) 9]
abbrev ref01_Word_r8:List LO:=[lo 9 (.assign (.const (.bool true))) 4]
abbrev ref01_Word_r9:List LO:=[lm 15 10 3,lo 16 (.binOp .add 3 (.tmp 15) (.const (.int .i64 1)) 3) 3,lo 10 (.assign (.tmp 16)) 3]
abbrev ref01_Word_r10:List LO:=[lm 42 8 9,lm 43 9 4,lo 6 (.assign (.tmp 42)) 9,lo 7 (.assign (.tmp 43)) 4]
abbrev ref01_Word_c:LC:=.seq (.reg false ref01_Word_r1) (.seq (.reg false ref01_Word_r2) (.seq (.reg false ref01_Word_r3) (.seq (.seq (.reg false ref01_Word_r4) (.block 0 (.loop (.seq (.seq (.reg false ref01_Word_r5) (.cond (.tmp 14) .skip (.exit 0))) (.seq (.block 1 (.seq (.reg false ref01_Word_r6) (.cond (.tmp 37) (.seq (.reg false ref01_Word_r7) (.reg false ref01_Word_r8)) .skip))) (.reg false ref01_Word_r9)))))) (.seq (.reg false ref01_Word_r10) .ret))))
theorem ref01_Word_k:FnOk E 100 44 [.tmp 6,.tmp 7] ref01_Word_c:=⟨⟨Go.Proofs.Tryz.f100,by kernel_rfl,by kernel_rfl,by kernel_rfl,by kernel_rfl,by kernel_rfl⟩,rfl,rfl⟩
noncomputable def ref01_Word_l1 (a0:Str) (a1:Int) (a2:(List Str)):(Str × Bool × Int)→Option (Step (Str × Bool × Int) (Str × Bool)):=fun (x7,x8,x9)=>(if (decide (x9 < (List.length a2:Int)))=true then Option.bind (Option.bind (ixl a2 x9) (fun x31=>Option.bind (ref01_Starts a0 a1 x31) (fun x32=>Option.bind (if x32=true then Option.bind (if (!x8)=true then some true else Option.bind (ixl a2 x9) (fun x38=>some (decide ((List.length x38:Int) > (List.length x7:Int)))):Option (Bool)) (fun x37=>some (true && x37)) else some false:Option (Bool)) (fun x35=>(if x35=true then Option.bind (ixl a2 x9) (fun x39=>some (x39,true)) else some (x7,x8))))):Option (Str × Bool)) (fun (x29,x30)=>some (Step.next (x29,x30,(w64 (x9 + 1))))) else some (Step.done (x7,x8)))
noncomputable def ref01_Word (a0:Str) (a1:Int) (a2:(List Str)):Option (Str × Bool):=Option.bind (loopC (ref01_Word_l1 a0 a1 a2) ([],false,0)) (fun (x21,x22)=>some (x21,x22))
theorem ref01_Word_ok (a0:Str) (a1:Int) (a2:(List Str)):Ct E 100 [bs a0,iv a1,.fsl 1 (List.map cS a2)] (ref01_Word a0 a1 a2) (fun r:Str × Bool=>.tup [bs r.1,bv r.2]):=ct_intro (N:=44) (L:=ref01_Word_c) ref01_Word_k rfl (Nat.le_of_ble_eq_true rfl) (by kernel_rfl) (by
 unfold ref01_Word
 refine jS ⟨[V 0 (bs a0),V 1 (iv a1),V 2 (.fsl 1 (List.map cS a2))],[],0⟩ ?_
 refine jS ⟨[V 0 (bs a0),V 1 (iv a1),V 2 (.fsl 1 (List.map cS a2)),V 8 (bs [])],[],0⟩ ?_
 refine jS ⟨[V 0 (bs a0),V 1 (iv a1),V 2 (.fsl 1 (List.map cS a2)),V 8 (bs []),V 9 (bv false)],[],0⟩ ?_
 refine jc_seq ?_
 refine jS ⟨[V 0 (bs a0),V 1 (iv a1),V 2 (.fsl 1 (List.map cS a2)),V 8 (bs []),V 9 (bv false),V 10 (iv 0)],[],0⟩ ?_
 refine jc_block ?_
 refine jc_bind (fun (x21,x22)=>⟨[V 8 (bs x21),V 9 (bv x22)],[],0⟩) (fun (x21,x22)=>(.exit 0)) (jc_loop (fun (x7,x8,x9)=>⟨[V 0 (bs a0),V 1 (iv a1),V 2 (.fsl 1 (List.map cS a2)),V 8 (bs x7),V 9 (bv x8),V 10 (iv x9)],[],0⟩) (wkR [] (fix_nil _) allp_nil) ?_) ?_
 ·rintro⟨x7,x8,x9⟩
  unfold ref01_Word_l1
  refine jc_seq ?_
  refine jR ?_
  refine jG 0 4 ⟨[V 0 (bs a0),V 1 (iv a1),V 2 (.fsl 1 (List.map cS a2)),V 8 (bs x7),V 9 (bv x8),V 10 (iv x9),V 14 (bv (decide (x9 < (List.length (List.map cS a2):Int))))],[],0⟩ ?_
  simp only[List.length_map]
  refine jN ?_
  refine jIf ?_ ?_
  ·refine jc_skip ?_
   refine jx_seqN ?_
   refine jc_seq ?_
   refine jc_bind (fun (x29,x30)=>⟨[V 0 (bs a0),V 1 (iv a1),V 2 (.fsl 1 (List.map cS a2)),V 8 (bs x29),V 9 (bv x30),V 10 (iv x9)],[],0⟩) (fun (x29,x30)=>.normal) ?_ ?_
   ·refine jc_block ?_
    refine jR ?_
    refine jG 0 4 ⟨[V 0 (bs a0),V 1 (iv a1),V 2 (.fsl 1 (List.map cS a2)),V 8 (bs x7),V 9 (bv x8),V 10 (iv x9),V 17 (bs a0),V 18 (iv a1),V 19 (.fsl 1 (List.map cS a2)),V 20 (iv x9)],[],0⟩ ?_
    refine jr_part (i:=4) (mo:=ixl a2 x9) rfl rfl rfl rfl (fun _ hc=>aop_ixf (c:=cS) (sz:=1) (e:=9) (kk:=.i64) (by kernel_rfl) (by kernel_rfl) (by kernel_rfl) (by kernel_rfl) hc) (fun _=>rfl) ?_
    intro x31 h31
    refine jG 5 1 ⟨[V 0 (bs a0),V 1 (iv a1),V 2 (.fsl 1 (List.map cS a2)),V 8 (bs x7),V 9 (bv x8),V 10 (iv x9),V 17 (bs a0),V 18 (iv a1),V 22 (bs x31)],[],0⟩ ?_
    refine jK 6 (ref01_Starts_ok a0 a1 x31) ?_
    intro x32 h32
    refine jG 7 1 ⟨[V 0 (bs a0),V 1 (iv a1),V 2 (.fsl 1 (List.map cS a2)),V 8 (bs x7),V 9 (bv x8),V 10 (iv x9),V 24 (bv x32)],[],0⟩ ?_
    refine jr_bind 8 13 (fun x35=>⟨[V 0 (bs a0),V 1 (iv a1),V 2 (.fsl 1 (List.map cS a2)),V 8 (bs x7),V 9 (bv x8),V 10 (iv x9),V 37 (bv x35)],[],0⟩) ?_ ?_
    ·refine jSp 24 ?_ ?_
     ·refine jG 0 3 ⟨[V 0 (bs a0),V 1 (iv a1),V 2 (.fsl 1 (List.map cS a2)),V 8 (bs x7),V 9 (bv x8),V 10 (iv x9),(24,.lit true),V 27 (bv (!x8))],[],0⟩ ?_
      refine jr_bind 3 9 (fun x37=>⟨[V 0 (bs a0),V 1 (iv a1),V 2 (.fsl 1 (List.map cS a2)),V 8 (bs x7),V 9 (bv x8),V 10 (iv x9),V 24 (bv true),V 36 (bv x37)],[],0⟩) ?_ ?_
      ·refine jSp 27 ?_ ?_
       ·refine jG 0 9 ⟨[V 0 (bs a0),V 1 (iv a1),V 2 (.fsl 1 (List.map cS a2)),V 8 (bs x7),V 9 (bv x8),V 10 (iv x9),(24,.lit true),V 36 (bv true)],[],0⟩ ?_
        refine jr_nil rfl ?_
        exact jx_mid rfl (wkR [] (fix_nil _) allp_nil)
       refine jG 0 2 ⟨[V 0 (bs a0),V 1 (iv a1),V 2 (.fsl 1 (List.map cS a2)),V 8 (bs x7),V 9 (bv x8),V 10 (iv x9),(24,.lit true),(27,.lit false),V 28 (.fsl 1 (List.map cS a2)),V 29 (iv x9)],[],0⟩ ?_
       refine jr_part (i:=2) (mo:=ixl a2 x9) rfl rfl rfl rfl (fun _ hc=>aop_ixf (c:=cS) (sz:=1) (e:=9) (kk:=.i64) (by kernel_rfl) (by kernel_rfl) (by kernel_rfl) (by kernel_rfl) hc) (fun _=>rfl) ?_
       intro x38 h38
       refine jG 3 6 ⟨[V 0 (bs a0),V 1 (iv a1),V 2 (.fsl 1 (List.map cS a2)),V 8 (bs x7),V 9 (bv x8),V 10 (iv x9),(24,.lit true),V 36 (bv (decide ((List.length x38:Int) > (List.length x7:Int))))],[],0⟩ ?_
       refine jr_nil rfl ?_
       exact jx_mid rfl (wkR [] (fix_nil _) allp_nil)
      intro x37
      refine jG 12 1 ⟨[V 0 (bs a0),V 1 (iv a1),V 2 (.fsl 1 (List.map cS a2)),V 8 (bs x7),V 9 (bv x8),V 10 (iv x9),V 37 (bv (true && x37))],[],0⟩ ?_
      refine jr_nil rfl ?_
      exact jx_mid rfl (wkR [] (fix_nil _) allp_nil)
     refine jG 0 13 ⟨[V 0 (bs a0),V 1 (iv a1),V 2 (.fsl 1 (List.map cS a2)),V 8 (bs x7),V 9 (bv x8),V 10 (iv x9),V 37 (bv false)],[],0⟩ ?_
     refine jr_nil rfl ?_
     exact jx_mid rfl (wkR [] (fix_nil _) allp_nil)
    intro x35
    refine jN ?_
    refine jIf ?_ ?_
    ·refine jR ?_
     refine jG 0 2 ⟨[V 0 (bs a0),V 1 (iv a1),V 2 (.fsl 1 (List.map cS a2)),V 10 (iv x9),V 38 (.fsl 1 (List.map cS a2)),V 39 (iv x9)],[],0⟩ ?_
     refine jr_part (i:=2) (mo:=ixl a2 x9) rfl rfl rfl rfl (fun _ hc=>aop_ixf (c:=cS) (sz:=1) (e:=9) (kk:=.i64) (by kernel_rfl) (by kernel_rfl) (by kernel_rfl) (by kernel_rfl) hc) (fun _=>rfl) ?_
     intro x39 h39
     refine jG 3 2 ⟨[V 0 (bs a0),V 1 (iv a1),V 2 (.fsl 1 (List.map cS a2)),V 8 (bs x39),V 10 (iv x9)],[],0⟩ ?_
     refine jN ?_
     refine jT ⟨[V 0 (bs a0),V 1 (iv a1),V 2 (.fsl 1 (List.map cS a2)),V 8 (bs x39),V 9 (bv true),V 10 (iv x9)],[],0⟩ ?_
     refine jx_blkN ?_
     exact jx_mid rfl (wkR [] (fix_nil _) allp_nil)
    refine jc_skip ?_
    refine jx_blkN ?_
    exact jx_mid rfl (wkR [] (fix_nil _) allp_nil)
   rintro⟨x29,x30⟩
   refine jx_seqN ?_
   refine jT ⟨[V 0 (bs a0),V 1 (iv a1),V 2 (.fsl 1 (List.map cS a2)),V 8 (bs x29),V 9 (bv x30),V 10 (iv (w64 (x9 + 1)))],[],0⟩ ?_
   exact jx_next (wkR [] (fix_nil _) allp_nil)
  refine jc_exit ?_
  refine jx_seqE ?_
  exact jx_done rfl nofun (wkR [] (fix_nil _) allp_nil)
 rintro⟨x21,x22⟩
 refine jx_blkE ?_
 refine jx_seqN ?_
 refine jS ⟨[V 6 (bs x21),V 7 (bv x22)],[],0⟩ ?_
 refine jc_ret ?_
 exact jx_retF (.inr rfl) (v:=.tup [bs x21,bv x22]) (by kernel_rfl) rfl (fle_refl _))
abbrev scan_Lower_r1:List LO:=[lo 2 (.assign (.const (.string ⟨#[]⟩))) 9]
abbrev scan_Lower_r2:List LO:=[lm 6 0 9,lo 7 (.convert 9 92 (.tmp 6)) 92,lo 3 (.assign (.tmp 7)) 92]
abbrev scan_Lower_r3:List LO:=[lm 8 3 92,lo 9 (.call ⟨.builtin .len,#[.tmp 8],#[92]⟩) 3,lo 10 (.move (.const (.int .i64 0))) 3]
abbrev scan_Lower_r4:List LO:=[lo 11 (.binOp .lss 3 (.tmp 10) (.tmp 9) 3) 0]
abbrev scan_Lower_r5:List LO:=[lm 12 10 3,lo 13 (.indexAddr 92 (.tmp 8) (.tmp 10)) 0,lo 14 (.load 5 (.tmp 13)) 5,lo 4 (.assign (.tmp 12)) 3,lo 5 (.assign (.tmp 14)) 5]
abbrev scan_Lower_r6:List LO:=[lm 15 5 5,lo 16 (.call ⟨.value (.func 86),#[.tmp 15,.const (.int .i64 3)],#[5,3]⟩) 4]
abbrev scan_Lower_r7:List LO:=[lm 17 3 92,lm 18 4 3,lm 19 5 5,lo 20 (.binOp .add 5 (.tmp 19) (.const (.int .u8 32)) 5) 5,lo 21 (.indexAddr 92 (.tmp 17) (.tmp 18)) 0,ln (.store 5 (.tmp 21) (.tmp 20)) 0]
abbrev scan_Lower_r8:List LO:=[lo 22 (.binOp .add 3 (.tmp 10) (.const (.int .i64 1)) 3) 3,lm 10 22 3]
abbrev scan_Lower_r9:List LO:=[lm 23 3 92,lo 24 (.convert 92 9 (.tmp 23)) 9,lo 2 (.assign (.tmp 24)) 9]
abbrev scan_Lower_c:LC:=.seq (.reg false scan_Lower_r1) (.seq (.reg false scan_Lower_r2) (.seq (.seq (.reg false scan_Lower_r3) (.block 0 (.loop (.seq (.reg false scan_Lower_r4) (.seq (.cond (.tmp 11) .skip (.exit 0)) (.seq (.block 1 (.seq (.reg false scan_Lower_r5) (.seq (.reg false scan_Lower_r6) (.cond (.tmp 16) (.reg false scan_Lower_r7) .skip)))) (.reg false scan_Lower_r8))))))) (.seq (.reg false scan_Lower_r9) .ret)))
theorem scan_Lower_k:FnOk E 35 25 [.tmp 2] scan_Lower_c:=⟨⟨Go.Proofs.Tryz.f35,by kernel_rfl,by kernel_rfl,by kernel_rfl,by kernel_rfl,by kernel_rfl⟩,rfl,rfl⟩
noncomputable def scan_Lower_l1 (x1:List Int):(List Int × Int)→Option (Step (List Int × Int) (List Int)):=fun (x6,x7)=>(if (decide (x7 < (List.length x1:Int)))=true then Option.bind (Option.bind (ixl x6 x7) (fun x19=>Option.bind (scan_Is x19 3) (fun x20=>(if x20=true then Option.bind (ixl x6 x7) (fun x21=>some (List.set x6 (Int.toNat x7) (IntKind.wrap .u8 (x19 + 32)))) else some x6))):Option (List Int)) (fun x18=>some (Step.next (x18,(w64 (x7 + 1))))) else some (Step.done x6))
noncomputable def scan_Lower (a0:Str):Option (Str):=Option.bind (tob a0) (fun x1=>Option.bind (loopC (scan_Lower_l1 x1) (x1,0)) (fun x14=>some (ofb x14)))
theorem scan_Lower_ok (a0:Str):Ct E 35 [bs a0] (scan_Lower a0) (fun r:Str=>bs r):=ct_intro (N:=25) (L:=scan_Lower_c) scan_Lower_k rfl (Nat.le_of_ble_eq_true rfl) (by kernel_rfl) (by
 unfold scan_Lower
 refine jS ⟨[V 0 (bs a0)],[],0⟩ ?_
 refine jR ?_
 refine jG 0 1 ⟨[V 6 (bs a0)],[],0⟩ ?_
 refine jr_part (i:=1) (mo:=tob a0) rfl rfl rfl rfl (fun _ hc=>aop_tob (e:=5) (st:=.string) (by kernel_rfl) (by kernel_rfl) (by kernel_rfl) (by kernel_rfl) hc) (fun _=>rfl) ?_
 intro x1 h1
 refine jG 2 1 ⟨[V 3 (.osl 0 0 (List.length x1) 1)],[(0,.rows 1 (List.map cB x1))],1⟩ ?_
 refine jN ?_
 refine jc_seq ?_
 refine jS ⟨[V 3 (.osl 0 0 (List.length x1) 1),V 8 (.osl 0 0 (List.length x1) 1),V 9 (iv (List.length x1:Int)),V 10 (iv 0)],[(0,.rows 1 (List.map cB x1))],1⟩ ?_
 refine jc_block ?_
 refine jc_bind (fun x14=>⟨[V 3 (.osl 0 0 (List.length x14) 1)],[(0,.rows 1 (List.map cB x14))],1⟩) (fun x14=>(.exit 0)) (jc_loop (fun (x6,x7)=>⟨[V 3 (.osl 0 0 (List.length x6) 1),V 8 (.osl 0 0 (List.length x6) 1),V 9 (iv (List.length x1:Int)),V 10 (iv x7)],[(0,.rows 1 (List.map cB x6))],1⟩) (wkR [(0,some 0)] (fix_nil _) (pc (hL 0 (noid_map ni_B _)) allp_nil)) ?_) ?_
 ·rintro⟨x6,x7⟩
  unfold scan_Lower_l1
  refine jS ⟨[V 3 (.osl 0 0 (List.length x6) 1),V 8 (.osl 0 0 (List.length x6) 1),V 9 (iv (List.length x1:Int)),V 10 (iv x7),V 11 (bv (decide (x7 < (List.length x1:Int))))],[(0,.rows 1 (List.map cB x6))],1⟩ ?_
  refine jc_seq ?_
  refine jIf ?_ ?_
  ·refine jc_skip ?_
   refine jx_seqN ?_
   refine jc_seq ?_
   refine jc_bind (fun x18=>⟨[V 3 (.osl 0 0 (List.length x18) 1),V 8 (.osl 0 0 (List.length x18) 1),V 9 (iv (List.length x1:Int)),V 10 (iv x7)],[(0,.rows 1 (List.map cB x18))],1⟩) (fun x18=>.normal) ?_ ?_
   ·refine jc_block ?_
    refine jR ?_
    refine jG 0 1 ⟨[V 3 (.osl 0 0 (List.length x6) 1),V 8 (.osl 0 0 (List.length x6) 1),V 9 (iv (List.length x1:Int)),V 10 (iv x7),V 12 (iv x7)],[(0,.rows 1 (List.map cB x6))],1⟩ ?_
    refine jr_part (i:=1) (mo:=ixl x6 x7) rfl rfl rfl rfl (fun _ hc=>aop_ixo0 (sz:=1) (e:=5) (kk:=.i64) (id:=0) (by kernel_rfl) (by kernel_rfl) (by kernel_rfl) (by kernel_rfl) hc) (fun _=>rfl) ?_
    intro x19 h19
    refine jr_one (i:=2) (v:=.s (.int .u8 x19)) rfl rfl rfl rfl (aop_ldo (l:=x6) (c:=cB) (id:=0) (k:=(Int.toNat x7)) (sz:=1) (off:=0) (a:=x19) (by kernel_rfl) (by kernel_rfl) (ixl_lt h19).2.2 (by kernel_rfl)) rfl ?_
    refine jG 3 2 ⟨[V 3 (.osl 0 0 (List.length x6) 1),V 4 (iv x7),V 5 (.s (.int .u8 x19)),V 8 (.osl 0 0 (List.length x6) 1),V 9 (iv (List.length x1:Int)),V 10 (iv x7)],[(0,.rows 1 (List.map cB x6))],1⟩ ?_
    refine jN ?_
    refine jR ?_
    refine jG 0 1 ⟨[V 3 (.osl 0 0 (List.length x6) 1),V 4 (iv x7),V 5 (.s (.int .u8 x19)),V 8 (.osl 0 0 (List.length x6) 1),V 9 (iv (List.length x1:Int)),V 10 (iv x7),V 15 (.s (.int .u8 x19))],[(0,.rows 1 (List.map cB x6))],1⟩ ?_
    refine jK 1 (scan_Is_ok x19 3) ?_
    intro x20 h20
    refine jN ?_
    refine jIf ?_ ?_
    ·refine jc_reg ?_
     refine jG 0 4 ⟨[V 3 (.osl 0 0 (List.length x6) 1),V 8 (.osl 0 0 (List.length x6) 1),V 9 (iv (List.length x1:Int)),V 10 (iv x7),V 17 (.osl 0 0 (List.length x6) 1),V 18 (iv x7),V 20 (.s (.int .u8 (IntKind.wrap .u8 (x19 + 32))))],[(0,.rows 1 (List.map cB x6))],1⟩ ?_
     refine jr_part (i:=4) (mo:=ixl x6 x7) rfl rfl rfl rfl (fun _ hc=>aop_ixo0 (sz:=1) (e:=5) (kk:=.i64) (id:=0) (by kernel_rfl) (by kernel_rfl) (by kernel_rfl) (by kernel_rfl) hc) (fun _=>rfl) ?_
     intro x21 h21
     refine jr_sto (i:=5) [3,8,9,10] [0] (st1:=⟨[V 3 (.osl 0 0 (List.length (List.set x6 (Int.toNat x7) (IntKind.wrap .u8 (x19 + 32)))) 1),V 8 (.osl 0 0 (List.length (List.set x6 (Int.toNat x7) (IntKind.wrap .u8 (x19 + 32)))) 1),V 9 (iv (List.length x1:Int)),V 10 (iv x7)],[(0,.rows 1 (List.map cB (List.set x6 (Int.toNat x7) (IntKind.wrap .u8 (x19 + 32)))))],1⟩) rfl rfl rfl rfl (aop_sto (l:=x6) (c:=cB) (id:=0) (k:=(Int.toNat x7)) (sz:=1) (off:=0) (a:=x21) (a':=(IntKind.wrap .u8 (x19 + 32))) (w:=.s (.int .u8 (IntKind.wrap .u8 (x19 + 32)))) (cs:=[.s (.int .u8 (IntKind.wrap .u8 (x19 + 32)))]) (by kernel_rfl) (by kernel_rfl) (by kernel_rfl) (by kernel_rfl) (by kernel_rfl) (ixl_lt h21).2.2 (Nat.le_of_ble_eq_true rfl) (by kernel_rfl)) (by simp only[List.length_set]; kernel_rfl) ?_
     refine jr_nil rfl ?_
     refine jx_blkN ?_
     exact jx_mid rfl (wkR [(0,some 0)] (fix_nil _) (pc (hL 0 (noid_map ni_B _)) allp_nil))
    refine jc_skip ?_
    refine jx_blkN ?_
    exact jx_mid rfl (wkR [(0,some 0)] (fix_nil _) (pc (hL 0 (noid_map ni_B _)) allp_nil))
   intro x18
   refine jx_seqN ?_
   refine jT ⟨[V 3 (.osl 0 0 (List.length x18) 1),V 8 (.osl 0 0 (List.length x18) 1),V 9 (iv (List.length x1:Int)),V 10 (iv (w64 (x7 + 1)))],[(0,.rows 1 (List.map cB x18))],1⟩ ?_
   exact jx_next (wkR [(0,some 0)] (fix_nil _) (pc (hL 0 (noid_map ni_B _)) allp_nil))
  refine jc_exit ?_
  refine jx_seqE ?_
  exact jx_done rfl nofun (wkR [(0,some 0)] (fix_nil _) (pc (hL 0 (noid_map ni_B _)) allp_nil))
 intro x14
 refine jx_blkE ?_
 refine jx_seqN ?_
 refine jR ?_
 refine jG 0 1 ⟨[V 23 (.osl 0 0 (List.length x14) 1)],[(0,.rows 1 (List.map cB x14))],1⟩ ?_
 refine jr_one (i:=1) rfl rfl rfl rfl (aop_ofb_o (e:=5) (id:=0) (l:=x14) (by kernel_rfl) (by kernel_rfl) (by kernel_rfl) (by kernel_rfl) (by kernel_rfl)) rfl ?_
 refine jG 2 1 ⟨[V 2 (bs (ofb x14))],[],2⟩ ?_
 refine jN ?_
 refine jc_ret ?_
 exact jx_retF (.inr rfl) (v:=bs (ofb x14)) (by kernel_rfl) rfl (fle_refl _))
abbrev stringslite_HasPrefix_r1:List LO:=[lo 4 (.assign (.const (.bool false))) 4]
abbrev stringslite_HasPrefix_r2:List LO:=[lm 5 0 9,lo 6 (.call ⟨.builtin .len,#[.tmp 5],#[9]⟩) 3,lm 7 1 9,lo 8 (.call ⟨.builtin .len,#[.tmp 7],#[9]⟩) 3,lo 9 (.binOp .geq 3 (.tmp 6) (.tmp 8) 3) 4,lm 10 9 4,lmg 11 0 9 10 true,lmg 12 1 9 10 true,lg 13 (.call ⟨.builtin .len,#[.tmp 12],#[9]⟩) 3 10 true,lg 14 (.slice 9 (.tmp 11) none (some (.tmp 13)) none) 9 10 true,lmg 15 1 9 10 true,lg 16 (.binOp .eql 9 (.tmp 14) (.tmp 15) 9) 4 10 true,lo 17 (.pick (.tmp 10) (.tmp 16) (.const (.bool false))) 4,lo 4 (.assign (.tmp 17)) 4]
abbrev stringslite_HasPrefix_c:LC:=.seq (.reg false stringslite_HasPrefix_r1) (.seq (.reg false stringslite_HasPrefix_r2) .ret)
theorem stringslite_HasPrefix_k:FnOk E 144 18 [.tmp 4] stringslite_HasPrefix_c:=⟨⟨Go.Proofs.Tryz.f144,by kernel_rfl,by kernel_rfl,by kernel_rfl,by kernel_rfl,by kernel_rfl⟩,rfl,rfl⟩
noncomputable def stringslite_HasPrefix (a0:Str) (a1:Str):Option (Bool):=Option.bind (if (decide ((List.length a0:Int)≥(List.length a1:Int)))=true then Option.bind (subl a0 0 (List.length a1:Int)) (fun x3=>some (x3 == a1)) else some false:Option (Bool)) (fun x2=>some x2)
theorem stringslite_HasPrefix_ok (a0:Str) (a1:Str):Ct E 144 [bs a0,bs a1] (stringslite_HasPrefix a0 a1) (fun r:Bool=>bv r):=ct_intro (N:=18) (L:=stringslite_HasPrefix_c) stringslite_HasPrefix_k rfl (Nat.le_of_ble_eq_true rfl) (by kernel_rfl) (by
 unfold stringslite_HasPrefix
 refine jS ⟨[V 0 (bs a0),V 1 (bs a1)],[],0⟩ ?_
 refine jR ?_
 refine jG 0 6 ⟨[V 0 (bs a0),V 1 (bs a1),V 10 (bv (decide ((List.length a0:Int)≥(List.length a1:Int))))],[],0⟩ ?_
 refine jr_bind 6 7 (fun x2=>⟨[V 17 (bv x2)],[],0⟩) ?_ ?_
 ·refine jSp 10 ?_ ?_
  ·refine jG 0 3 ⟨[V 1 (bs a1),(10,.lit true),V 11 (bs a0),V 13 (iv (List.length a1:Int))],[],0⟩ ?_
   refine jr_part (i:=3) (mo:=subl a0 0 (List.length a1:Int)) rfl rfl rfl rfl (fun _ hc=>aop_subs (by kernel_rfl) (by kernel_rfl) (by kernel_rfl) (by kernel_rfl) hc) (fun _=>rfl) ?_
   intro x3 h3
   refine jG 4 3 ⟨[V 17 (bv (x3 == a1))],[],0⟩ ?_
   refine jr_nil rfl ?_
   exact jx_mid rfl (wkR [] (fix_nil _) allp_nil)
  refine jG 0 7 ⟨[V 17 (bv false)],[],0⟩ ?_
  refine jr_nil rfl ?_
  exact jx_mid rfl (wkR [] (fix_nil _) allp_nil)
 intro x2
 refine jG 13 1 ⟨[V 4 (bv x2)],[],0⟩ ?_
 refine jN ?_
 refine jc_ret ?_
 exact jx_retF (.inr rfl) (v:=bv x2) (by kernel_rfl) rfl (fle_refl _))
abbrev strings_HasPrefix_r1:List LO:=[lo 4 (.assign (.const (.bool false))) 4]
abbrev strings_HasPrefix_r2:List LO:=[lm 5 0 9,lm 6 1 9,lo 7 (.call ⟨.value (.func 144),#[.tmp 5,.tmp 6],#[9,9]⟩) 4,lo 4 (.assign (.tmp 7)) 4]
abbrev strings_HasPrefix_c:LC:=.seq (.reg false strings_HasPrefix_r1) (.seq (.reg false strings_HasPrefix_r2) .ret)
theorem strings_HasPrefix_k:FnOk E 128 8 [.tmp 4] strings_HasPrefix_c:=⟨⟨Go.Proofs.Tryz.f128,by kernel_rfl,by kernel_rfl,by kernel_rfl,by kernel_rfl,by kernel_rfl⟩,rfl,rfl⟩
noncomputable def strings_HasPrefix (a0:Str) (a1:Str):Option (Bool):=Option.bind (stringslite_HasPrefix a0 a1) (fun x1=>some x1)
theorem strings_HasPrefix_ok (a0:Str) (a1:Str):Ct E 128 [bs a0,bs a1] (strings_HasPrefix a0 a1) (fun r:Bool=>bv r):=ct_intro (N:=8) (L:=strings_HasPrefix_c) strings_HasPrefix_k rfl (Nat.le_of_ble_eq_true rfl) (by kernel_rfl) (by
 unfold strings_HasPrefix
 refine jS ⟨[V 0 (bs a0),V 1 (bs a1)],[],0⟩ ?_
 refine jR ?_
 refine jG 0 2 ⟨[V 5 (bs a0),V 6 (bs a1)],[],0⟩ ?_
 refine jK 2 (stringslite_HasPrefix_ok a0 a1) ?_
 intro x1 h1
 refine jG 3 1 ⟨[V 4 (bv x1)],[],0⟩ ?_
 refine jN ?_
 refine jc_ret ?_
 exact jx_retF (.inr rfl) (v:=bv x1) (by kernel_rfl) rfl (fle_refl _))
abbrev scan_Word_r1:List LO:=[lo 6 (.assign (.const (.string ⟨#[]⟩))) 9,lo 7 (.assign (.const (.bool false))) 4]
abbrev scan_Word_r2:List LO:=[lo 8 (.assign (.const (.string ⟨#[]⟩))) 9,lo 9 (.assign (.const (.bool false))) 4]
abbrev scan_Word_r3:List LO:=[lm 12 1 3,lo 13 (.binOp .lss 3 (.tmp 12) (.const (.int .i64 0)) 3) 4,lm 14 13 4,lmg 15 1 3 14 false,lmg 16 0 9 14 false,lg 17 (.call ⟨.builtin .len,#[.tmp 16],#[9]⟩) 3 14 false,lg 18 (.binOp .gtr 3 (.tmp 15) (.tmp 17) 3) 4 14 false,lo 19 (.pick (.tmp 14) (.const (.bool true)) (.tmp 18)) 4]
abbrev scan_Word_r4:List LO:=[lo 6 (.assign (.const (.string ⟨#[]⟩))) 9,lo 7 (.assign (.const (.bool false))) 4]
abbrev scan_Word_r5:List LO:=[lm 20 2 22,lo 21 (.call ⟨.builtin .len,#[.tmp 20],#[22]⟩) 3,lo 22 (.move (.const (.int .i64 0))) 3]
abbrev scan_Word_r6:List LO:=[lo 23 (.binOp .lss 3 (.tmp 22) (.tmp 21) 3) 0]
abbrev scan_Word_r7:List LO:=[lo 24 (.indexAddr 22 (.tmp 20) (.tmp 22)) 0,lo 25 (.load 9 (.tmp 24)) 9,lo 11 (.assign (.tmp 25)) 9]
abbrev scan_Word_r8:List LO:=[lm 26 0 9,lm 27 1 3,lo 28 (.slice 9 (.tmp 26) (some (.tmp 27)) none none) 9,lm 29 11 9,lo 30 (.call ⟨.value (.func 128),#[.tmp 28,.tmp 29],#[9,9]⟩) 4,lm 31 30 4,lmg 32 9 4 31 true,lg 33 (.unOp .not 4 (.tmp 32)) 4 31 true,lmg 34 33 4 31 true,lmg 35 11 9 34 false,lg 36 (.call ⟨.builtin .len,#[.tmp 35],#[9]⟩) 3 34 false,lmg 37 8 9 34 false,lg 38 (.call ⟨.builtin .len,#[.tmp 37],#[9]⟩) 3 34 false,lg 39 (.binOp .gtr 3 (.tmp 36) (.tmp 38) 3) 4 34 false,lg 40 (.pick (.tmp 34) (.const (.bool true)) (.tmp 39)) 4 31 true,lo 41 (.pick (.tmp 31) (.tmp 40) (.const (.bool false))) 4]
abbrev scan_Word_r9:List LO:=[lm 42 11 9,lo 8 (.assign (.tmp 42)) 9,lo 9 (.assign (.const (.bool true))) 4]
abbrev scan_Word_r10:List LO:=[lo 43 (.binOp .add 3 (.tmp 22) (.const (.int .i64 1)) 3) 3,lm 22 43 3]
abbrev scan_Word_r11:List LO:=[lm 44 8 9,lm 45 9 4,lo 6 (.assign (.tmp 44)) 9,lo 7 (.assign (.tmp 45)) 4]
abbrev scan_Word_c:LC:=.seq (.reg false scan_Word_r1) (.seq (.reg false scan_Word_r2) (.seq (.seq (.reg false scan_Word_r3) (.cond (.tmp 19) (.seq (.reg false scan_Word_r4) .ret) .skip)) (.seq (.seq (.reg false scan_Word_r5) (.block 0 (.loop (.seq (.reg false scan_Word_r6) (.seq (.cond (.tmp 23) .skip (.exit 0)) (.seq (.block 1 (.seq (.reg false scan_Word_r7) (.seq (.reg false scan_Word_r8) (.cond (.tmp 41) (.reg false scan_Word_r9) .skip)))) (.reg false scan_Word_r10))))))) (.seq (.reg false scan_Word_r11) .ret))))
theorem scan_Word_k:FnOk E 91 46 [.tmp 6,.tmp 7] scan_Word_c:=⟨⟨Go.Proofs.Tryz.f91,by kernel_rfl,by kernel_rfl,by kernel_rfl,by kernel_rfl,by kernel_rfl⟩,rfl,rfl⟩
noncomputable def scan_Word_l1 (a0:Str) (a1:Int) (a2:(List Str)):(Str × Bool × Int)→Option (Step (Str × Bool × Int) (Str × Bool)):=fun (x6,x7,x8)=>(if (decide (x8 < (List.length a2:Int)))=true then Option.bind (Option.bind (ixl a2 x8) (fun x24=>Option.bind (subl a0 a1 (List.length a0:Int)) (fun x25=>Option.bind (strings_HasPrefix x25 x24) (fun x26=>(if (x26 && ((!x7) || (decide ((List.length x24:Int) > (List.length x6:Int)))))=true then some (x24,true) else some (x6,x7))))):Option (Str × Bool)) (fun (x22,x23)=>some (Step.next (x22,x23,(w64 (x8 + 1))))) else some (Step.done (x6,x7)))
noncomputable def scan_Word (a0:Str) (a1:Int) (a2:(List Str)):Option (Str × Bool):=(if ((decide (a1 < 0)) || (decide (a1 > (List.length a0:Int))))=true then some ([],false) else Option.bind (loopC (scan_Word_l1 a0 a1 a2) ([],false,0)) (fun (x17,x18)=>some (x17,x18)))
theorem scan_Word_ok (a0:Str) (a1:Int) (a2:(List Str)):Ct E 91 [bs a0,iv a1,.fsl 1 (List.map cS a2)] (scan_Word a0 a1 a2) (fun r:Str × Bool=>.tup [bs r.1,bv r.2]):=ct_intro (N:=46) (L:=scan_Word_c) scan_Word_k rfl (Nat.le_of_ble_eq_true rfl) (by kernel_rfl) (by
 unfold scan_Word
 refine jS ⟨[V 0 (bs a0),V 1 (iv a1),V 2 (.fsl 1 (List.map cS a2))],[],0⟩ ?_
 refine jS ⟨[V 0 (bs a0),V 1 (iv a1),V 2 (.fsl 1 (List.map cS a2)),V 8 (bs []),V 9 (bv false)],[],0⟩ ?_
 refine jc_seq ?_
 refine jS ⟨[V 0 (bs a0),V 1 (iv a1),V 2 (.fsl 1 (List.map cS a2)),V 8 (bs []),V 9 (bv false),V 19 (bv ((decide (a1 < 0)) || (decide (a1 > (List.length a0:Int)))))],[],0⟩ ?_
 refine jIf ?_ ?_
 ·refine jS ⟨[V 6 (bs []),V 7 (bv false)],[],0⟩ ?_
  refine jc_ret ?_
  refine jx_seqR ?_
  exact jx_retF (.inr rfl) (v:=.tup [bs [],bv false]) (by kernel_rfl) rfl (fle_refl _)
 refine jc_skip ?_
 refine jx_seqN ?_
 refine jc_seq ?_
 refine jR ?_
 refine jG 0 3 ⟨[V 0 (bs a0),V 1 (iv a1),V 8 (bs []),V 9 (bv false),V 20 (.fsl 1 (List.map cS a2)),V 21 (iv (List.length (List.map cS a2):Int)),V 22 (iv 0)],[],0⟩ ?_
 simp only[List.length_map]
 refine jN ?_
 refine jc_block ?_
 refine jc_bind (fun (x17,x18)=>⟨[V 8 (bs x17),V 9 (bv x18)],[],0⟩) (fun (x17,x18)=>(.exit 0)) (jc_loop (fun (x6,x7,x8)=>⟨[V 0 (bs a0),V 1 (iv a1),V 8 (bs x6),V 9 (bv x7),V 20 (.fsl 1 (List.map cS a2)),V 21 (iv (List.length a2:Int)),V 22 (iv x8)],[],0⟩) (wkR [] (fix_nil _) allp_nil) ?_) ?_
 ·rintro⟨x6,x7,x8⟩
  unfold scan_Word_l1
  refine jS ⟨[V 0 (bs a0),V 1 (iv a1),V 8 (bs x6),V 9 (bv x7),V 20 (.fsl 1 (List.map cS a2)),V 21 (iv (List.length a2:Int)),V 22 (iv x8),V 23 (bv (decide (x8 < (List.length a2:Int))))],[],0⟩ ?_
  refine jc_seq ?_
  refine jIf ?_ ?_
  ·refine jc_skip ?_
   refine jx_seqN ?_
   refine jc_seq ?_
   refine jc_bind (fun (x22,x23)=>⟨[V 0 (bs a0),V 1 (iv a1),V 8 (bs x22),V 9 (bv x23),V 20 (.fsl 1 (List.map cS a2)),V 21 (iv (List.length a2:Int)),V 22 (iv x8)],[],0⟩) (fun (x22,x23)=>.normal) ?_ ?_
   ·refine jc_block ?_
    refine jR ?_
    refine jr_part (i:=0) (mo:=ixl a2 x8) rfl rfl rfl rfl (fun _ hc=>aop_ixf (c:=cS) (sz:=1) (e:=9) (kk:=.i64) (by kernel_rfl) (by kernel_rfl) (by kernel_rfl) (by kernel_rfl) hc) (fun _=>rfl) ?_
    intro x24 h24
    refine jG 1 2 ⟨[V 0 (bs a0),V 1 (iv a1),V 8 (bs x6),V 9 (bv x7),V 11 (bs x24),V 20 (.fsl 1 (List.map cS a2)),V 21 (iv (List.length a2:Int)),V 22 (iv x8)],[],0⟩ ?_
    refine jN ?_
    refine jR ?_
    refine jG 0 2 ⟨[V 0 (bs a0),V 1 (iv a1),V 8 (bs x6),V 9 (bv x7),V 11 (bs x24),V 20 (.fsl 1 (List.map cS a2)),V 21 (iv (List.length a2:Int)),V 22 (iv x8),V 26 (bs a0),V 27 (iv a1)],[],0⟩ ?_
    refine jr_part (i:=2) (mo:=subl a0 a1 (List.length a0:Int)) rfl rfl rfl rfl (fun _ hc=>aop_subs (by kernel_rfl) (by kernel_rfl) (by kernel_rfl) (by kernel_rfl) hc) (fun _=>rfl) ?_
    intro x25 h25
    refine jG 3 1 ⟨[V 0 (bs a0),V 1 (iv a1),V 8 (bs x6),V 9 (bv x7),V 11 (bs x24),V 20 (.fsl 1 (List.map cS a2)),V 21 (iv (List.length a2:Int)),V 22 (iv x8),V 28 (bs x25),V 29 (bs x24)],[],0⟩ ?_
    refine jK 4 (strings_HasPrefix_ok x25 x24) ?_
    intro x26 h26
    refine jG 5 11 ⟨[V 0 (bs a0),V 1 (iv a1),V 8 (bs x6),V 9 (bv x7),V 11 (bs x24),V 20 (.fsl 1 (List.map cS a2)),V 21 (iv (List.length a2:Int)),V 22 (iv x8),V 41 (bv (x26 && ((!x7) || (decide ((List.length x24:Int) > (List.length x6:Int))))))],[],0⟩ ?_
    refine jN ?_
    refine jIf ?_ ?_
    ·refine jT ⟨[V 0 (bs a0),V 1 (iv a1),V 8 (bs x24),V 9 (bv true),V 20 (.fsl 1 (List.map cS a2)),V 21 (iv (List.length a2:Int)),V 22 (iv x8)],[],0⟩ ?_
     refine jx_blkN ?_
     exact jx_mid rfl (wkR [] (fix_nil _) allp_nil)
    refine jc_skip ?_
    refine jx_blkN ?_
    exact jx_mid rfl (wkR [] (fix_nil _) allp_nil)
   rintro⟨x22,x23⟩
   refine jx_seqN ?_
   refine jT ⟨[V 0 (bs a0),V 1 (iv a1),V 8 (bs x22),V 9 (bv x23),V 20 (.fsl 1 (List.map cS a2)),V 21 (iv (List.length a2:Int)),V 22 (iv (w64 (x8 + 1)))],[],0⟩ ?_
   exact jx_next (wkR [] (fix_nil _) allp_nil)
  refine jc_exit ?_
  refine jx_seqE ?_
  exact jx_done rfl nofun (wkR [] (fix_nil _) allp_nil)
 rintro⟨x17,x18⟩
 refine jx_blkE ?_
 refine jx_seqN ?_
 refine jS ⟨[V 6 (bs x17),V 7 (bv x18)],[],0⟩ ?_
 refine jc_ret ?_
 exact jx_retF (.inr rfl) (v:=.tup [bs x17,bv x18]) (by kernel_rfl) rfl (fle_refl _))
abbrev pep_mark_r1:List LO:=[lo 2 (.assign (.const (.bool false))) 4]
abbrev pep_mark_r2:List LO:=[lm 3 0 5,lo 4 (.binOp .eql 5 (.tmp 3) (.const (.int .u8 45)) 5) 4,lm 5 4 4,lmg 6 0 5 5 false,lg 7 (.binOp .eql 5 (.tmp 6) (.const (.int .u8 95)) 5) 4 5 false,lo 8 (.pick (.tmp 5) (.const (.bool true)) (.tmp 7)) 4,lm 9 8 4,lmg 10 0 5 9 false,lg 11 (.binOp .eql 5 (.tmp 10) (.const (.int .u8 46)) 5) 4 9 false,lo 12 (.pick (.tmp 9) (.const (.bool true)) (.tmp 11)) 4,lo 2 (.assign (.tmp 12)) 4]
abbrev pep_mark_c:LC:=.seq (.reg false pep_mark_r1) (.seq (.reg false pep_mark_r2) .ret)
theorem pep_mark_k:FnOk E 133 13 [.tmp 2] pep_mark_c:=⟨⟨Go.Proofs.Tryz.f133,by kernel_rfl,by kernel_rfl,by kernel_rfl,by kernel_rfl,by kernel_rfl⟩,rfl,rfl⟩
noncomputable def pep_mark (a0:Int):Option (Bool):=some (((a0 == 45) || (a0 == 95)) || (a0 == 46))
theorem pep_mark_ok (a0:Int):Ct E 133 [.s (.int .u8 a0)] (pep_mark a0) (fun r:Bool=>bv r):=ct_intro (N:=13) (L:=pep_mark_c) pep_mark_k rfl (Nat.le_of_ble_eq_true rfl) (by kernel_rfl) (by
 unfold pep_mark
 refine jS ⟨[V 0 (.s (.int .u8 a0))],[],0⟩ ?_
 refine jS ⟨[V 2 (bv (((a0 == 45) || (a0 == 95)) || (a0 == 46)))],[],0⟩ ?_
 refine jc_ret ?_
 exact jx_retF (.inr rfl) (v:=bv (((a0 == 45) || (a0 == 95)) || (a0 == 46))) (by kernel_rfl) rfl (fle_refl _))
abbrev pep_reader_marked_s6db9_r1:List LO:=[lo 2 (.assign (.const (.bool false))) 4]
abbrev pep_reader_marked_s6db9_r2:List LO:=[lm 3 0 50,lo 4 (.nilCheck (.tmp 3)) 0,lo 5 (.fieldAddr 52 (.tmp 4) 1) 0,lo 6 (.load 3 (.tmp 5)) 3,lm 7 0 50,lo 8 (.nilCheck (.tmp 7)) 0,lo 9 (.fieldAddr 52 (.tmp 8) 0) 0,lo 10 (.load 9 (.tmp 9)) 9,lo 11 (.call ⟨.builtin .len,#[.tmp 10],#[9]⟩) 3,lo 12 (.binOp .lss 3 (.tmp 6) (.tmp 11) 3) 4,lm 13 12 4,lmg 14 0 50 13 true,lg 15 (.nilCheck (.tmp 14)) 0 13 true,lg 16 (.fieldAddr 52 (.tmp 15) 0) 0 13 true,lg 17 (.load 9 (.tmp 16)) 9 13 true,lmg 18 0 50 13 true,lg 19 (.nilCheck (.tmp 18)) 0 13 true,lg 20 (.fieldAddr 52 (.tmp 19) 1) 0 13 true,lg 21 (.load 3 (.tmp 20)) 3 13 true,lg 22 (.index 9 (.tmp 17) (.tmp 21)) 5 13 true,lg 23 (.call ⟨.value (.func 133),#[.tmp 22],#[5]⟩) 4 13 true,lo 24 (.pick (.tmp 13) (.tmp 23) (.const (.bool false))) 4,lo 2 (.assign (.tmp 24)) 4]
abbrev pep_reader_marked_s6db9_c:LC:=.seq (.reg false pep_reader_marked_s6db9_r1) (.seq (.reg true pep_reader_marked_s6db9_r2) .ret)
theorem pep_reader_marked_s6db9_k:FnOk E 93 25 [.tmp 2] pep_reader_marked_s6db9_c:=⟨⟨Go.Proofs.Tryz.f93,by kernel_rfl,by kernel_rfl,by kernel_rfl,by kernel_rfl,by kernel_rfl⟩,rfl,rfl⟩
noncomputable def pep_reader_marked_s6db9 (a0:Str) (a1:Int) (a2:Int) (a3:Int):Option (Bool):=Option.bind (if (decide (a1 < (List.length a0:Int)))=true then Option.bind (idx a0 a1) (fun x4=>Option.bind (pep_mark x4) (fun x5=>some x5)) else some false:Option (Bool)) (fun x3=>some x3)
theorem pep_reader_marked_s6db9_ok (a0:Str) (a1:Int) (a2:Int) (a3:Int):Ct E 93 [.fptr [bs a0,iv a1,iv a2,iv a3] 0] (pep_reader_marked_s6db9 a0 a1 a2 a3) (fun r:Bool=>bv r):=ct_intro (N:=25) (L:=pep_reader_marked_s6db9_c) pep_reader_marked_s6db9_k rfl (Nat.le_of_ble_eq_true rfl) (by kernel_rfl) (by
 unfold pep_reader_marked_s6db9
 refine jS ⟨[V 0 (.fptr [bs a0,iv a1,iv a2,iv a3] 0)],[],0⟩ ?_
 refine jR ?_
 refine jG 0 11 ⟨[V 0 (.fptr [bs a0,iv a1,iv a2,iv a3] 0),V 13 (bv (decide (a1 < (List.length a0:Int))))],[],0⟩ ?_
 refine jr_bind 11 11 (fun x3=>⟨[V 24 (bv x3)],[],0⟩) ?_ ?_
 ·refine jSp 13 ?_ ?_
  ·refine jG 0 8 ⟨[(13,.lit true),V 17 (bs a0),V 21 (iv a1)],[],0⟩ ?_
   refine jr_part (i:=8) (mo:=idx a0 a1) rfl rfl rfl rfl (fun _ hc=>aop_index (kk:=.i64) (by kernel_rfl) (by kernel_rfl) (by kernel_rfl) hc) (fun _=>rfl) ?_
   intro x4 h4
   refine jK 9 (pep_mark_ok x4) ?_
   intro x5 h5
   refine jG 10 1 ⟨[V 24 (bv x5)],[],0⟩ ?_
   refine jr_nil rfl ?_
   exact jx_mid rfl (wkR [] (fix_nil _) allp_nil)
  refine jG 0 11 ⟨[V 24 (bv false)],[],0⟩ ?_
  refine jr_nil rfl ?_
  exact jx_mid rfl (wkR [] (fix_nil _) allp_nil)
 intro x3
 refine jG 22 1 ⟨[V 2 (bv x3)],[],0⟩ ?_
 refine jN ?_
 refine jc_ret ?_
 exact jx_retF (.inr rfl) (v:=bv x3) (by kernel_rfl) rfl (fle_refl _))
abbrev pep_reader_number_r1:List LO:=[lo 2 (.assign (.const (.string ⟨#[]⟩))) 9]
abbrev pep_reader_number_r2:List LO:=[lm 3 0 50,lo 4 (.call ⟨.value (.func 93),#[.tmp 3],#[50]⟩) 4,lm 5 4 4,lmg 6 0 50 5 true,lg 7 (.nilCheck (.tmp 6)) 0 5 true,lg 8 (.fieldAddr 52 (.tmp 7) 1) 0 5 true,lg 9 (.load 3 (.tmp 8)) 3 5 true,lg 10 (.binOp .add 3 (.tmp 9) (.const (.int .i64 1)) 3) 3 5 true,lmg 11 0 50 5 true,lg 12 (.nilCheck (.tmp 11)) 0 5 true,lg 13 (.fieldAddr 52 (.tmp 12) 0) 0 5 true,lg 14 (.load 9 (.tmp 13)) 9 5 true,lg 15 (.call ⟨.builtin .len,#[.tmp 14],#[9]⟩) 3 5 true,lg 16 (.binOp .lss 3 (.tmp 10) (.tmp 15) 3) 4 5 true,lo 17 (.pick (.tmp 5) (.tmp 16) (.const (.bool false))) 4,lm 18 17 4,lmg 19 0 50 18 true,lg 20 (.nilCheck (.tmp 19)) 0 18 true,lg 21 (.fieldAddr 52 (.tmp 20) 0) 0 18 true,lg 22 (.load 9 (.tmp 21)) 9 18 true,lmg 23 0 50 18 true,lg 24 (.nilCheck (.tmp 23)) 0 18 true,lg 25 (.fieldAddr 52 (.tmp 24) 1) 0 18 true,lg 26 (.load 3 (.tmp 25)) 3 18 true,lg 27 (.binOp .add 3 (.tmp 26) (.const (.int .i64 1)) 3) 3 18 true,lg 28 (.index 9 (.tmp 22) (.tmp 27)) 5 18 true,lg 29 (.call ⟨.value (.func 86),#[.tmp 28,.const (.int .i64 1)],#[5,3]⟩) 4 18 true,lo 30 (.pick (.tmp 18) (.tmp 29) (.const (.bool false))) 4]
abbrev pep_reader_number_r3:List LO:=[lm 31 0 50,lo 32 (.nilCheck (.tmp 31)) 0,lo 33 (.fieldAddr 52 (.tmp 32) 1) 0,lo 34 (.load 3 (.tmp 33)) 3,lo 35 (.binOp .add 3 (.tmp 34) (.const (.int .i64 1)) 3) 3,lo 36 (.nilCheck (.tmp 31)) 0,lo 37 (.fieldAddr 52 (.tmp 36) 1) 0,ln (.store 3 (.tmp 37) (.tmp 35)) 0]
abbrev pep_reader_number_r4:List LO:=[lm 38 0 50,lo 39 (.call ⟨.value (.func 94),#[.tmp 38,.const (.int .i64 1)],#[50,3]⟩) 4]
abbrev pep_reader_number_r5:List LO:=[lm 40 0 50,lo 41 (.call ⟨.value (.func 88),#[.tmp 40],#[50]⟩) 9,lo 2 (.assign (.tmp 41)) 9]
abbrev pep_reader_number_r6:List LO:=[lo 2 (.assign (.const (.string ⟨#[48]⟩))) 9]
abbrev pep_reader_number_c:LC:=.seq (.reg false pep_reader_number_r1) (.seq (.seq (.reg true pep_reader_number_r2) (.cond (.tmp 30) (.reg false pep_reader_number_r3) .skip)) (.seq (.seq (.reg false pep_reader_number_r4) (.cond (.tmp 39) (.seq (.reg false pep_reader_number_r5) .ret) .skip)) (.seq (.reg false pep_reader_number_r6) .ret)))
theorem pep_reader_number_k:FnOk E 40 42 [.tmp 2] pep_reader_number_c:=⟨⟨Go.Proofs.Tryz.f40,by kernel_rfl,by kernel_rfl,by kernel_rfl,by kernel_rfl,by kernel_rfl⟩,rfl,rfl⟩
abbrev pep_reader_number_T (a0:Str) (a1:Int) (a2:Int) (a3:Int) (r:Str × Int):CS:=⟨[V 2 (bs r.1)],[W 0 4 [bs a0,iv r.2,iv a2,iv a3]],1⟩
noncomputable def pep_reader_number (a0:Str) (a1:Int) (a2:Int) (a3:Int):Option (Str × Int):=Option.bind (Option.bind (pep_reader_marked_s6db9 a0 a1 a2 a3) (fun x16=>Option.bind (if (x16 && (decide ((w64 (a1 + 1)) < (List.length a0:Int))))=true then Option.bind (idx a0 (w64 (a1 + 1))) (fun x20=>Option.bind (scan_Is x20 1) (fun x21=>some x21)) else some false:Option (Bool)) (fun x19=>(if x19=true then some (w64 (a1 + 1)) else some a1))):Option (Int)) (fun x15=>Option.bind (pep_reader_is_sb17f a0 x15 a2 a3 1) (fun x22=>(if x22=true then Option.bind (pep_reader_digits a0 x15 a2 a3) (fun (x23,x24)=>some (x23,x24)) else some ([48],x15))))
theorem pep_reader_number_ok (a0:Str) (a1:Int) (a2:Int) (a3:Int):CtM E 40 [pt 0 4] [W 0 4 [bs a0,iv a1,iv a2,iv a3]] 1 (pep_reader_number a0 a1 a2 a3) (fun r:Str × Int=>bs r.1) (fun r:Str × Int=>[W 0 4 [bs a0,iv r.2,iv a2,iv a3]]) 1:=ctm_intro (N:=42) (L:=pep_reader_number_c) pep_reader_number_k rfl (Nat.le_of_ble_eq_true rfl) (fun F hF=>by
 unfold pep_reader_number
 refine jS ⟨[V 0 (pt 0 4)],[W 0 4 [bs a0,iv a1,iv a2,iv a3]],1⟩ ?_
 refine jc_seq ?_
 refine jc_bind (fun x15=>⟨[V 0 (pt 0 4)],[W 0 4 [bs a0,iv x15,iv a2,iv a3]],1⟩) (fun x15=>.normal) ?_ ?_
 ·refine jR ?_
  refine jG 0 1 ⟨[V 0 (pt 0 4),V 3 (pt 0 4)],[W 0 4 [bs a0,iv a1,iv a2,iv a3]],1⟩ ?_
  refine jr_callF (i:=1) rfl rfl rfl rfl (vs:=[pt 0 4]) (vs0:=[.fptr [bs a0,iv a1,iv a2,iv a3] 0]) (b:=true) (by kernel_rfl) (by kernel_rfl) (all2_cons (fle_refl _) all2_nil) (pep_reader_marked_s6db9_ok a0 a1 a2 a3) (fun _=>rfl) (fun _=>rfl) ?_
  intro x16 h16
  refine jG 2 14 ⟨[V 0 (pt 0 4),V 18 (bv (x16 && (decide ((w64 (a1 + 1)) < (List.length a0:Int)))))],[W 0 4 [bs a0,iv a1,iv a2,iv a3]],1⟩ ?_
  refine jr_bind 16 12 (fun x19=>⟨[V 0 (pt 0 4),V 30 (bv x19)],[W 0 4 [bs a0,iv a1,iv a2,iv a3]],1⟩) ?_ ?_
  ·refine jSp 18 ?_ ?_
   ·refine jG 0 9 ⟨[V 0 (pt 0 4),(18,.lit true),V 22 (bs a0),V 27 (iv (w64 (a1 + 1)))],[W 0 4 [bs a0,iv a1,iv a2,iv a3]],1⟩ ?_
    refine jr_part (i:=9) (mo:=idx a0 (w64 (a1 + 1))) rfl rfl rfl rfl (fun _ hc=>aop_index (kk:=.i64) (by kernel_rfl) (by kernel_rfl) (by kernel_rfl) hc) (fun _=>rfl) ?_
    intro x20 h20
    refine jK 10 (scan_Is_ok x20 1) ?_
    intro x21 h21
    refine jG 11 1 ⟨[V 0 (pt 0 4),V 30 (bv x21)],[W 0 4 [bs a0,iv a1,iv a2,iv a3]],1⟩ ?_
    refine jr_nil rfl ?_
    exact jx_mid rfl (wkR [(0,some 0)] (fix_of hF (k:=1) rfl) (pc (hC 0) allp_nil))
   refine jG 0 12 ⟨[V 0 (pt 0 4),V 30 (bv false)],[W 0 4 [bs a0,iv a1,iv a2,iv a3]],1⟩ ?_
   refine jr_nil rfl ?_
   exact jx_mid rfl (wkR [(0,some 0)] (fix_of hF (k:=1) rfl) (pc (hC 0) allp_nil))
  intro x19
  refine jN ?_
  refine jIf ?_ ?_
  ·refine jT ⟨[V 0 (pt 0 4)],[W 0 4 [bs a0,iv (w64 (a1 + 1)),iv a2,iv a3]],1⟩ ?_
   exact jx_mid rfl (wkR [(0,some 0)] (fix_of hF (k:=1) rfl) (pc (hC 0) allp_nil))
  refine jc_skip ?_
  exact jx_mid rfl (wkR [(0,some 0)] (fix_of hF (k:=1) rfl) (pc (hC 0) allp_nil))
 intro x15
 refine jx_seqN ?_
 refine jc_seq ?_
 refine jR ?_
 refine jG 0 1 ⟨[V 0 (pt 0 4),V 38 (pt 0 4)],[W 0 4 [bs a0,iv x15,iv a2,iv a3]],1⟩ ?_
 refine jr_callF (i:=1) rfl rfl rfl rfl (vs:=[pt 0 4,iv 1]) (vs0:=[.fptr [bs a0,iv x15,iv a2,iv a3] 0,iv 1]) (b:=true) (by kernel_rfl) (by kernel_rfl) (all2_cons (fle_refl _) (all2_cons (fle_refl _) all2_nil)) (pep_reader_is_sb17f_ok a0 x15 a2 a3 1) (fun _=>rfl) (fun _=>rfl) ?_
 intro x22 h22
 refine jN ?_
 refine jIf ?_ ?_
 ·refine jR ?_
  refine jG 0 1 ⟨[V 40 (pt 0 4)],[W 0 4 [bs a0,iv x15,iv a2,iv a3]],1⟩ ?_
  refine jr_callM 1 [(0,some 0)] [(0,some 0)] (fun r:Str × Int=>[W 0 4 [bs a0,iv r.2,iv a2,iv a3]]) (fun r:Str × Int=>bs r.1) 1 (pep_reader_digits_ok a0 x15 a2 a3) (pc (hC 0) allp_nil) (fun r=>(pc (.inr (hC 0)) allp_nil)) ?_
  rintro⟨x23,x24⟩ hm2
  refine jG 2 1 ⟨[V 2 (bs x23)],[W 0 4 [bs a0,iv x24,iv a2,iv a3]],1⟩ ?_
  refine jN ?_
  refine jc_ret ?_
  refine jx_seqR ?_
  exact jx_retM (pep_reader_number_T a0 a1 a2 a3 (x23,x24)) (.inr rfl) (wkR [(0,some 0)] (fix_of hF (k:=1) rfl) (pc (hC 0) allp_nil))
 refine jc_skip ?_
 refine jx_seqN ?_
 refine jS ⟨[V 2 (bs [48])],[W 0 4 [bs a0,iv x15,iv a2,iv a3]],1⟩ ?_
 refine jc_ret ?_
 exact jx_retM (pep_reader_number_T a0 a1 a2 a3 ([48],x15)) (.inr rfl) (wkR [(0,some 0)] (fix_of hF (k:=1) rfl) (pc (hC 0) allp_nil)))
abbrev pep_reader_tries_r1:List LO:=[lo 1 (.box 50 (.tmp 0)) 0,lo 2 (.assign (.const .nilFunc)) 96]
abbrev pep_reader_tries_r2:List LO:=[lo 3 (.makeFunc (Fn.func 127) #[] #[.tmp 1]) 95,lo 2 (.assign (.tmp 3)) 96]
abbrev pep_reader_tries_c:LC:=.seq (.reg false pep_reader_tries_r1) (.seq (.reg false pep_reader_tries_r2) .ret)
theorem pep_reader_tries_k:FnOk E 90 4 [.tmp 2] pep_reader_tries_c:=⟨⟨Go.Proofs.Tryz.f90,by kernel_rfl,by kernel_rfl,by kernel_rfl,by kernel_rfl,by kernel_rfl⟩,rfl,rfl⟩
abbrev pep_reader_tries_T (a0:Str) (a1:Int) (a2:Int) (a3:Int) (r:Unit):CS:=⟨[V 2 (.fn 127 [pt 1 1])],[W 0 4 [bs a0,iv a1,iv a2,iv a3],W 1 1 [pt 0 4]],2⟩
noncomputable def pep_reader_tries (a0:Str) (a1:Int) (a2:Int) (a3:Int):Option (Unit):=some ()
theorem pep_reader_tries_ok (a0:Str) (a1:Int) (a2:Int) (a3:Int):CtM E 90 [pt 0 4] [W 0 4 [bs a0,iv a1,iv a2,iv a3]] 1 (pep_reader_tries a0 a1 a2 a3) (fun r:Unit=>.fn 127 [pt 1 1]) (fun r:Unit=>[W 0 4 [bs a0,iv a1,iv a2,iv a3],W 1 1 [pt 0 4]]) 2:=ctm_intro (N:=4) (L:=pep_reader_tries_c) pep_reader_tries_k rfl (Nat.le_of_ble_eq_true rfl) (fun F hF=>by
 unfold pep_reader_tries
 refine jS ⟨[V 1 (pt 1 1)],[W 0 4 [bs a0,iv a1,iv a2,iv a3],W 1 1 [pt 0 4]],2⟩ ?_
 refine jS ⟨[V 2 (.fn 127 [pt 1 1])],[W 0 4 [bs a0,iv a1,iv a2,iv a3],W 1 1 [pt 0 4]],2⟩ ?_
 refine jc_ret ?_
 exact jx_retM (pep_reader_tries_T a0 a1 a2 a3 ()) (.inr rfl) (wkR [(0,some 0),(1,some 1)] (fix_of hF (k:=1) rfl) (pc (hC 0) (pc (hC 1) allp_nil))))
abbrev pep_reader_tries_1_it_r1:List LO:=[lo 3 (.load 50 (.tmp 1)) 50,lo 4 (.call ⟨.value (.func 93),#[.tmp 3],#[50]⟩) 4,lm 5 4 4,lmg 6 0 94 5 true,lg 7 (.load 50 (.tmp 1)) 50 5 true,lg 8 (.nilCheck (.tmp 7)) 0 5 true,lg 9 (.fieldAddr 52 (.tmp 8) 1) 0 5 true,lg 10 (.load 3 (.tmp 9)) 3 5 true,lg 11 (.binOp .add 3 (.tmp 10) (.const (.int .i64 1)) 3) 3 5 true,lg 12 (.call ⟨.value (.tmp 6),#[.tmp 11],#[3]⟩) 4 5 true,lg 13 (.unOp .not 4 (.tmp 12)) 4 5 true,lo 14 (.pick (.tmp 5) (.tmp 13) (.const (.bool false))) 4]
abbrev pep_reader_tries_1_it_r2:List LO:=[lm 15 0 94,lo 16 (.load 50 (.tmp 1)) 50,lo 17 (.nilCheck (.tmp 16)) 0,lo 18 (.fieldAddr 52 (.tmp 17) 1) 0,lo 19 (.load 3 (.tmp 18)) 3,lo 20 (.call ⟨.value (.tmp 15),#[.tmp 19],#[3]⟩) 4]
abbrev pep_reader_tries_1_it_c:LC:=.seq (.seq (.reg false pep_reader_tries_1_it_r1) (.cond (.tmp 14) .ret .skip)) (.reg false pep_reader_tries_1_it_r2)
theorem pep_reader_tries_1_it_k:FnOk E 127 21 [] pep_reader_tries_1_it_c:=⟨⟨Go.Proofs.Tryz.f127,by kernel_rfl,by kernel_rfl,by kernel_rfl,by kernel_rfl,by kernel_rfl⟩,rfl,rfl⟩
abbrev pep_reader_word_r1:List LO:=[lo 2 (.box 50 (.tmp 0)) 0,lo 3 (.box 22 (.tmp 1)) 0,lo 4 (.alloc 9) 0,lo 5 (.alloc 4) 0]
abbrev pep_reader_word_r2:List LO:=[lo 9 (.load 50 (.tmp 2)) 50,lo 10 (.nilCheck (.tmp 9)) 0,lo 11 (.fieldAddr 52 (.tmp 10) 2) 0,lo 12 (.fieldAddr 27 (.tmp 11) 0) 0,lo 13 (.load 25 (.tmp 12)) 25,lo 14 (.binOp .neq 25 (.tmp 13) (.const (.int .i64 0)) 25) 4]
abbrev pep_reader_word_r3:List LO:=[ln (.store 9 (.tmp 4) (.const (.string ⟨#[]⟩))) 0,ln (.store 4 (.tmp 5) (.const (.bool false))) 0]
abbrev pep_reader_word_r4:List LO:=[lo 15 (.load 50 (.tmp 2)) 50,lo 16 (.call ⟨.value (.func 90),#[.tmp 15],#[50]⟩) 96]
abbrev pep_reader_word_r5:List LO:=[lo 6 (.assign (.tmp 17)) 3]
abbrev pep_reader_word_r6:List LO:=[lo 19 (.load 50 (.tmp 2)) 50,lo 20 (.nilCheck (.tmp 19)) 0,lo 21 (.fieldAddr 52 (.tmp 20) 0) 0,lo 22 (.load 9 (.tmp 21)) 9,lm 23 6 3,lo 24 (.load 22 (.tmp 3)) 22,lo 25 (.call ⟨.value (.func 91),#[.tmp 22,.tmp 23,.tmp 24],#[9,3,22]⟩) 55,lm 18 25 55,lo 26 (.extract (.tmp 18) 0) 9,lo 27 (.extract (.tmp 18) 1) 4,lo 7 (.assign (.tmp 26)) 9,lo 8 (.assign (.tmp 27)) 4]
abbrev pep_reader_word_r7:List LO:=[lm 28 8 4]
abbrev pep_reader_word_r8:List LO:=[lo 29 (.load 50 (.tmp 2)) 50,lm 30 6 3,lm 31 7 9,lo 32 (.call ⟨.builtin .len,#[.tmp 31],#[9]⟩) 3,lo 33 (.binOp .add 3 (.tmp 30) (.tmp 32) 3) 3,lo 34 (.nilCheck (.tmp 29)) 0,lo 35 (.fieldAddr 52 (.tmp 34) 1) 0,ln (.store 3 (.tmp 35) (.tmp 33)) 0]
abbrev pep_reader_word_r9:List LO:=[lm 36 7 9,ln (.store 9 (.tmp 4) (.tmp 36)) 0,ln (.store 4 (.tmp 5) (.const (.bool true))) 0]
noncomputable def pep_reader_word_y10_a0:Code:=codeSub (bodyOf Go.Proofs.Tryz.f38) [1,1,0,1,0,0]
theorem pep_reader_word_y10_aw:lower E pep_reader_word_y10_a0=some (.reg false pep_reader_word_r5):=by kernel_rfl
noncomputable def pep_reader_word_y10_b0:Code:=codeSub (bodyOf Go.Proofs.Tryz.f38) [1,1,0,1,0,1]
theorem pep_reader_word_y10_bw:lower E pep_reader_word_y10_b0=some (.block 1 (.seq (.reg true pep_reader_word_r6) (.seq (.reg false pep_reader_word_r7) (.cond (.tmp 28) (.seq (.reg false pep_reader_word_r8) (.seq (.reg false pep_reader_word_r9) .ret)) .skip)))):=by kernel_rfl
abbrev pep_reader_word_r11:List LO:=[ln (.store 9 (.tmp 4) (.const (.string ⟨#[]⟩))) 0,ln (.store 4 (.tmp 5) (.const (.bool false))) 0]
noncomputable abbrev pep_reader_word_c:LC:=.seq (.reg false pep_reader_word_r1) (.seq (.seq (.reg false pep_reader_word_r2) (.cond (.tmp 14) (.seq (.reg false pep_reader_word_r3) .ret) .skip)) (.seq (.seq (.reg false pep_reader_word_r4) (.block 0 (.rng (.tmp 16) [17] pep_reader_word_y10_a0 pep_reader_word_y10_b0))) (.seq (.reg false pep_reader_word_r11) .ret)))
theorem pep_reader_word_k:FnOk E 38 37 [.cell 4 9,.cell 5 4] pep_reader_word_c:=⟨⟨Go.Proofs.Tryz.f38,by kernel_rfl,by kernel_rfl,by kernel_rfl,by kernel_rfl,by kernel_rfl⟩,rfl,rfl⟩
noncomputable abbrev pep_reader_word_lp5 (q:LoopState) (p:Option Code):AObj:=.loop { state:=q,pending:=p,tmps:=tl 37 [V 2 (pt 2 1),V 3 (pt 3 1),V 4 (pt 4 1),V 5 (pt 5 1),V 16 (.fn 127 [pt 6 1])] none,params:=[17],assign:=pep_reader_word_y10_a0,body:=pep_reader_word_y10_b0 }
abbrev pep_reader_word_T (a0:Str) (a1:Int) (a2:Int) (a3:Int) (a4:List Str) (r:Str × Bool × Int):CS:=⟨[V 4 (pt 2 1),V 5 (pt 3 1)],[W 0 4 [bs a0,iv r.2.2,iv a2,iv a3],(1,.rows 1 (List.map cS a4)),W 2 1 [bs r.1],W 3 1 [bv r.2.1]],4⟩
noncomputable def pep_reader_word (a0:Str) (a1:Int) (a2:Int) (a3:Int) (a4:List Str):Option (Str × Bool × Int):=(if (a2 != 0)=true then some ([],false,a1) else Option.bind (pep_reader_tries a0 a1 a2 a3) (fun _=>Option.bind (pep_reader_marked_s6db9 a0 a1 a2 a3) (fun x13=>Option.bind (if x13=true then Option.bind (Option.bind (scan_Word a0 (w64 (a1 + 1)) a4) (fun x22=>(if x22.2=true then some (Sum.inl ((w64 ((w64 (a1 + 1)) + (List.length x22.1:Int))),x22.1)) else some (Sum.inr ()))):Option ((Int × Str) ⊕ (Unit))) (fun y=>match y with | Sum.inl (x20,x21)=>some (Sum.inl (x20,x21)) | Sum.inr _=>some (Sum.inr ())) else some (Sum.inr ()):Option ((Int × Str) ⊕ (Unit))) (fun y=>match y with | Sum.inl (x17,x18)=>some (x18,true,x17) | Sum.inr _=>Option.bind (Option.bind (scan_Word a0 a1 a4) (fun x26=>(if x26.2=true then some (Sum.inl ((w64 (a1 + (List.length x26.1:Int))),x26.1)) else some (Sum.inr ()))):Option ((Int × Str) ⊕ (Unit))) (fun y=>match y with | Sum.inl (x24,x25)=>some (x25,true,x24) | Sum.inr _=>some ([],false,a1))))))
theorem pep_reader_word_ok (a0:Str) (a1:Int) (a2:Int) (a3:Int) (a4:List Str):CtM E 38 [pt 0 4,.osl 1 0 (List.length a4) 1] [W 0 4 [bs a0,iv a1,iv a2,iv a3],(1,.rows 1 (List.map cS a4))] 2 (pep_reader_word a0 a1 a2 a3 a4) (fun r:Str × Bool × Int=>.tup [bs r.1,bv r.2.1]) (fun r:Str × Bool × Int=>[W 0 4 [bs a0,iv r.2.2,iv a2,iv a3],(1,.rows 1 (List.map cS a4))]) 4:=ctm_intro (N:=37) (L:=pep_reader_word_c) pep_reader_word_k rfl (Nat.le_of_ble_eq_true rfl) (fun F hF=>by
 unfold pep_reader_word
 refine jS ⟨[V 2 (pt 2 1),V 3 (pt 3 1),V 4 (pt 4 1),V 5 (pt 5 1)],[W 0 4 [bs a0,iv a1,iv a2,iv a3],(1,.rows 1 (List.map cS a4)),W 2 1 [pt 0 4],W 3 1 [.osl 1 0 (List.length a4) 1],W 4 1 [bs []],W 5 1 [bv false]],6⟩ ?_
 refine jc_seq ?_
 refine jS ⟨[V 2 (pt 2 1),V 3 (pt 3 1),V 4 (pt 4 1),V 5 (pt 5 1),V 14 (bv (a2 != 0))],[W 0 4 [bs a0,iv a1,iv a2,iv a3],(1,.rows 1 (List.map cS a4)),W 2 1 [pt 0 4],W 3 1 [.osl 1 0 (List.length a4) 1],W 4 1 [bs []],W 5 1 [bv false]],6⟩ ?_
 refine jIf ?_ ?_
 ·refine jS ⟨[V 4 (pt 4 1),V 5 (pt 5 1)],[W 0 4 [bs a0,iv a1,iv a2,iv a3],(1,.rows 1 (List.map cS a4)),W 4 1 [bs []],W 5 1 [bv false]],6⟩ ?_
  refine jc_ret ?_
  refine jx_seqR ?_
  exact jx_retM (pep_reader_word_T a0 a1 a2 a3 a4 ([],false,a1)) (.inr rfl) (wkR [(0,some 0),(1,some 1),(2,some 4),(3,some 5)] (fix_of hF (k:=2) rfl) (pc (hC 0) (pc (hL 1 (noid_map ni_S _)) (pc (hC 4) (pc (hC 5) allp_nil)))))
 refine jc_skip ?_
 refine jx_seqN ?_
 refine jc_seq ?_
 refine jR ?_
 refine jG 0 1 ⟨[V 2 (pt 2 1),V 3 (pt 3 1),V 4 (pt 4 1),V 5 (pt 5 1),V 15 (pt 0 4)],[W 0 4 [bs a0,iv a1,iv a2,iv a3],(1,.rows 1 (List.map cS a4)),W 2 1 [pt 0 4],W 3 1 [.osl 1 0 (List.length a4) 1],W 4 1 [bs []],W 5 1 [bv false]],6⟩ ?_
 refine jr_callM 1 [(0,some 0)] [(0,some 0),(6,some 1)] (fun r:Unit=>[W 0 4 [bs a0,iv a1,iv a2,iv a3],(1,.rows 1 (List.map cS a4)),W 2 1 [pt 0 4],W 3 1 [.osl 1 0 (List.length a4) 1],W 4 1 [bs []],W 5 1 [bv false],W 6 1 [pt 0 4]]) (fun r:Unit=>.fn 127 [pt 6 1]) 7 (pep_reader_tries_ok a0 a1 a2 a3) (pc (hC 0) allp_nil) (fun r=>(pc (.inr (hC 0)) (pc (.inl ⟨rfl,rfl⟩) (pc (.inl ⟨rfl,rfl⟩) (pc (.inl ⟨rfl,rfl⟩) (pc (.inl ⟨rfl,rfl⟩) (pc (.inl ⟨rfl,rfl⟩) (pc (.inr (hC 1)) allp_nil)))))))) ?_
 rintro⟨⟩ hm9
 refine jN ?_
 refine jc_block ?_
 refine jc_keep [2,3,4,5,16] [0,1,2,3,4,5,6] (st1:=⟨[V 2 (pt 2 1),V 3 (pt 3 1),V 4 (pt 4 1),V 5 (pt 5 1),V 16 (.fn 127 [pt 6 1])],[W 0 4 [bs a0,iv a1,iv a2,iv a3],(1,.rows 1 (List.map cS a4)),W 2 1 [pt 0 4],W 3 1 [.osl 1 0 (List.length a4) 1],W 4 1 [bs []],W 5 1 [bv false],W 6 1 [pt 0 4]],7⟩) (by kernel_rfl) ?_
 refine jc_rng (g:=127) (caps:=[pt 6 1]) (by kernel_rfl) pep_reader_tries_1_it_k (Nat.le_of_ble_eq_true rfl) ?_
 intro F5 hc5
 refine jc_seq ?_
 refine jR ?_
 refine jG 0 1 ⟨[V 0 (.yld 7),V 1 (pt 6 1),V 3 (pt 0 4)],[W 0 4 [bs a0,iv a1,iv a2,iv a3],(1,.rows 1 (List.map cS a4)),W 2 1 [pt 0 4],W 3 1 [.osl 1 0 (List.length a4) 1],W 4 1 [bs []],W 5 1 [bv false],W 6 1 [pt 0 4],(7,pep_reader_word_lp5 .ready none)],8⟩ ?_
 refine jr_callF (i:=1) rfl rfl rfl rfl (vs:=[pt 0 4]) (vs0:=[.fptr [bs a0,iv a1,iv a2,iv a3] 0]) (b:=true) (by kernel_rfl) (by kernel_rfl) (all2_cons (fle_refl _) all2_nil) (pep_reader_marked_s6db9_ok a0 a1 a2 a3) (fun _=>rfl) (fun _=>rfl) ?_
 intro x13 h13
 refine jG 2 1 ⟨[V 0 (.yld 7),V 1 (pt 6 1),V 5 (bv x13)],[W 0 4 [bs a0,iv a1,iv a2,iv a3],(1,.rows 1 (List.map cS a4)),W 2 1 [pt 0 4],W 3 1 [.osl 1 0 (List.length a4) 1],W 4 1 [bs []],W 5 1 [bv false],W 6 1 [pt 0 4],(7,pep_reader_word_lp5 .ready none)],8⟩ ?_
 refine jr_bind 3 9 (fun y=>match y with | Sum.inl (x17,x18)=>⟨[V 0 (.yld 7),V 1 (pt 6 1),V 14 (bv true)],[W 0 4 [bs a0,iv x17,iv a2,iv a3],(1,.rows 1 (List.map cS a4)),W 2 1 [pt 0 4],W 3 1 [.osl 1 0 (List.length a4) 1],W 4 1 [bs x18],W 5 1 [bv true],W 6 1 [pt 0 4],(7,pep_reader_word_lp5 .done (some .ret))],8⟩ | Sum.inr _=>⟨[V 0 (.yld 7),V 1 (pt 6 1),V 14 (bv false)],[W 0 4 [bs a0,iv a1,iv a2,iv a3],(1,.rows 1 (List.map cS a4)),W 2 1 [pt 0 4],W 3 1 [.osl 1 0 (List.length a4) 1],W 4 1 [bs []],W 5 1 [bv false],W 6 1 [pt 0 4],(7,pep_reader_word_lp5 .ready none)],8⟩) ?_ ?_
 ·refine jSp 5 ?_ ?_
  ·refine jG 0 6 ⟨[V 0 (.yld 7),V 1 (pt 6 1),(5,.lit true),V 6 (.yld 7),V 11 (iv (w64 (a1 + 1)))],[W 0 4 [bs a0,iv a1,iv a2,iv a3],(1,.rows 1 (List.map cS a4)),W 2 1 [pt 0 4],W 3 1 [.osl 1 0 (List.length a4) 1],W 4 1 [bs []],W 5 1 [bv false],W 6 1 [pt 0 4],(7,pep_reader_word_lp5 .ready none)],8⟩ ?_
   refine jr_yield (i:=6) (l:=7) (Nc:=37) (Kc:=[V 2 (pt 2 1),V 3 (pt 3 1),V 4 (pt 4 1),V 5 (pt 5 1),V 16 (.fn 127 [pt 6 1])]) (ps:=[17]) (vs:=[iv (w64 (a1 + 1))]) (fun y=>match y with | Sum.inl (x20,x21)=>⟨[],[W 0 4 [bs a0,iv x20,iv a2,iv a3],(1,.rows 1 (List.map cS a4)),W 2 1 [pt 0 4],W 3 1 [.osl 1 0 (List.length a4) 1],W 4 1 [bs x21],W 5 1 [bv true],W 6 1 [pt 0 4],(7,pep_reader_word_lp5 .busy none)],8⟩ | Sum.inr _=>⟨[],[W 0 4 [bs a0,iv a1,iv a2,iv a3],(1,.rows 1 (List.map cS a4)),W 2 1 [pt 0 4],W 3 1 [.osl 1 0 (List.length a4) 1],W 4 1 [bs []],W 5 1 [bv false],W 6 1 [pt 0 4],(7,pep_reader_word_lp5 .busy none)],8⟩) (fun y=>match y with | Sum.inl (x20,x21)=>.ret | Sum.inr _=>.normal) [0,1,5,12] [0,1,2,3,4,5,6,7] (after:=(fun y=>match y with | Sum.inl (x20,x21)=>⟨[V 0 (.yld 7),V 1 (pt 6 1),(5,.lit true),V 12 (bv false)],[W 0 4 [bs a0,iv x20,iv a2,iv a3],(1,.rows 1 (List.map cS a4)),W 2 1 [pt 0 4],W 3 1 [.osl 1 0 (List.length a4) 1],W 4 1 [bs x21],W 5 1 [bv true],W 6 1 [pt 0 4],(7,pep_reader_word_lp5 .done (some .ret))],8⟩ | Sum.inr _=>⟨[V 0 (.yld 7),V 1 (pt 6 1),(5,.lit true),V 12 (bv true)],[W 0 4 [bs a0,iv a1,iv a2,iv a3],(1,.rows 1 (List.map cS a4)),W 2 1 [pt 0 4],W 3 1 [.osl 1 0 (List.length a4) 1],W 4 1 [bs []],W 5 1 [bv false],W 6 1 [pt 0 4],(7,pep_reader_word_lp5 .ready none)],8⟩)) rfl rfl pep_reader_word_y10_aw pep_reader_word_y10_bw (by kernel_rfl) (by kernel_rfl) (yctx_of hc5 rfl) rfl (by kernel_rfl) rfl ?_ (by rintro (⟨x20,x21⟩ | _) <;> exact⟨none,by kernel_rfl⟩) (by rintro (⟨x20,x21⟩ | _) <;> kernel_rfl) ?_
   ·intro F7 hy7
    refine jT ⟨[V 2 (pt 2 1),V 3 (pt 3 1),V 4 (pt 4 1),V 5 (pt 5 1),V 6 (iv (w64 (a1 + 1)))],[W 0 4 [bs a0,iv a1,iv a2,iv a3],(1,.rows 1 (List.map cS a4)),W 2 1 [pt 0 4],W 3 1 [.osl 1 0 (List.length a4) 1],W 4 1 [bs []],W 5 1 [bv false],W 6 1 [pt 0 4],(7,pep_reader_word_lp5 .ready none)],8⟩ ?_
    refine jx_asg hy7 rfl ?_
    refine jc_block ?_
    refine jR ?_
    refine jG 0 6 ⟨[V 2 (pt 2 1),V 4 (pt 4 1),V 5 (pt 5 1),V 6 (iv (w64 (a1 + 1))),V 22 (bs a0),V 23 (iv (w64 (a1 + 1))),V 24 (.osl 1 0 (List.length a4) 1)],[W 0 4 [bs a0,iv a1,iv a2,iv a3],(1,.rows 1 (List.map cS a4)),W 2 1 [pt 0 4],W 3 1 [.osl 1 0 (List.length a4) 1],W 4 1 [bs []],W 5 1 [bv false],W 6 1 [pt 0 4],(7,pep_reader_word_lp5 .busy none)],8⟩ ?_
    refine jr_callF (i:=6) rfl rfl rfl rfl (vs:=[bs a0,iv (w64 (a1 + 1)),.osl 1 0 (List.length a4) 1]) (by kernel_rfl) (snapL_cons rfl (snapL_cons rfl (snapL_cons (snapc_own fz_S (by kernel_rfl)) (snapL_nil _)))) (all2_cons (fle_refl _) (all2_cons (fle_refl _) (all2_cons (fle_refl _) all2_nil))) (scan_Word_ok a0 (w64 (a1 + 1)) a4) (fun _=>rfl) (fun _=>rfl) ?_
    intro x22 h22
    refine jG 7 5 ⟨[V 2 (pt 2 1),V 4 (pt 4 1),V 5 (pt 5 1),V 6 (iv (w64 (a1 + 1))),V 7 (bs x22.1),V 8 (bv x22.2)],[W 0 4 [bs a0,iv a1,iv a2,iv a3],(1,.rows 1 (List.map cS a4)),W 2 1 [pt 0 4],W 3 1 [.osl 1 0 (List.length a4) 1],W 4 1 [bs []],W 5 1 [bv false],W 6 1 [pt 0 4],(7,pep_reader_word_lp5 .busy none)],8⟩ ?_
    refine jN ?_
    refine jS ⟨[V 2 (pt 2 1),V 4 (pt 4 1),V 5 (pt 5 1),V 6 (iv (w64 (a1 + 1))),V 7 (bs x22.1),V 28 (bv x22.2)],[W 0 4 [bs a0,iv a1,iv a2,iv a3],(1,.rows 1 (List.map cS a4)),W 2 1 [pt 0 4],W 3 1 [.osl 1 0 (List.length a4) 1],W 4 1 [bs []],W 5 1 [bv false],W 6 1 [pt 0 4],(7,pep_reader_word_lp5 .busy none)],8⟩ ?_
    refine jIf ?_ ?_
    ·refine jS ⟨[V 4 (pt 4 1),V 5 (pt 5 1),V 7 (bs x22.1)],[W 0 4 [bs a0,iv (w64 ((w64 (a1 + 1)) + (List.length x22.1:Int))),iv a2,iv a3],(1,.rows 1 (List.map cS a4)),W 2 1 [pt 0 4],W 3 1 [.osl 1 0 (List.length a4) 1],W 4 1 [bs []],W 5 1 [bv false],W 6 1 [pt 0 4],(7,pep_reader_word_lp5 .busy none)],8⟩ ?_
     refine jS ⟨[],[W 0 4 [bs a0,iv (w64 ((w64 (a1 + 1)) + (List.length x22.1:Int))),iv a2,iv a3],(1,.rows 1 (List.map cS a4)),W 2 1 [pt 0 4],W 3 1 [.osl 1 0 (List.length a4) 1],W 4 1 [bs x22.1],W 5 1 [bv true],W 6 1 [pt 0 4],(7,pep_reader_word_lp5 .busy none)],8⟩ ?_
     refine jc_ret ?_
     refine jx_blkR ?_
     exact jx_mid rfl (wkR [(0,some 0),(1,some 1),(2,some 2),(3,some 3),(4,some 4),(5,some 5),(6,some 6),(7,some 7)] (fix_of hy7.2 (k:=8) rfl) (pc (hC 0) (pc (hL 1 (noid_map ni_S _)) (pc (hC 2) (pc (hC 3) (pc (hC 4) (pc (hC 5) (pc (hC 6) (pc (.inr (.inr ⟨7,_,_,rfl,rfl,rfl,by kernel_rfl⟩)) allp_nil)))))))))
    refine jc_skip ?_
    refine jx_blkN ?_
    exact jx_mid rfl (wkR [(0,some 0),(1,some 1),(2,some 2),(3,some 3),(4,some 4),(5,some 5),(6,some 6),(7,some 7)] (fix_of hy7.2 (k:=8) rfl) (pc (hC 0) (pc (hL 1 (noid_map ni_S _)) (pc (hC 2) (pc (hC 3) (pc (hC 4) (pc (hC 5) (pc (hC 6) (pc (.inr (.inr ⟨7,_,_,rfl,rfl,rfl,by kernel_rfl⟩)) allp_nil)))))))))
   rintro (⟨x20,x21⟩ | _)
   ·refine jG 7 2 ⟨[V 0 (.yld 7),V 1 (pt 6 1),V 14 (bv true)],[W 0 4 [bs a0,iv x20,iv a2,iv a3],(1,.rows 1 (List.map cS a4)),W 2 1 [pt 0 4],W 3 1 [.osl 1 0 (List.length a4) 1],W 4 1 [bs x21],W 5 1 [bv true],W 6 1 [pt 0 4],(7,pep_reader_word_lp5 .done (some .ret))],8⟩ ?_
    refine jr_nil rfl ?_
    exact jx_mid rfl (wkR [(0,some 0),(1,some 1),(2,some 2),(3,some 3),(4,some 4),(5,some 5),(6,some 6),(7,some 7)] (fix_of hc5.2.2 (k:=8) rfl) (pc (hC 0) (pc (hL 1 (noid_map ni_S _)) (pc (hC 2) (pc (hC 3) (pc (hC 4) (pc (hC 5) (pc (hC 6) (pc (.inr (.inr ⟨7,_,_,rfl,rfl,rfl,by kernel_rfl⟩)) allp_nil)))))))))
   refine jG 7 2 ⟨[V 0 (.yld 7),V 1 (pt 6 1),V 14 (bv false)],[W 0 4 [bs a0,iv a1,iv a2,iv a3],(1,.rows 1 (List.map cS a4)),W 2 1 [pt 0 4],W 3 1 [.osl 1 0 (List.length a4) 1],W 4 1 [bs []],W 5 1 [bv false],W 6 1 [pt 0 4],(7,pep_reader_word_lp5 .ready none)],8⟩ ?_
   refine jr_nil rfl ?_
   exact jx_mid rfl (wkR [(0,some 0),(1,some 1),(2,some 2),(3,some 3),(4,some 4),(5,some 5),(6,some 6),(7,some 7)] (fix_of hc5.2.2 (k:=8) rfl) (pc (hC 0) (pc (hL 1 (noid_map ni_S _)) (pc (hC 2) (pc (hC 3) (pc (hC 4) (pc (hC 5) (pc (hC 6) (pc (.inr (.inr ⟨7,_,_,rfl,rfl,rfl,by kernel_rfl⟩)) allp_nil)))))))))
  refine jG 0 9 ⟨[V 0 (.yld 7),V 1 (pt 6 1),V 14 (bv false)],[W 0 4 [bs a0,iv a1,iv a2,iv a3],(1,.rows 1 (List.map cS a4)),W 2 1 [pt 0 4],W 3 1 [.osl 1 0 (List.length a4) 1],W 4 1 [bs []],W 5 1 [bv false],W 6 1 [pt 0 4],(7,pep_reader_word_lp5 .ready none)],8⟩ ?_
  refine jr_nil rfl ?_
  exact jx_mid rfl (wkR [(0,some 0),(1,some 1),(2,some 2),(3,some 3),(4,some 4),(5,some 5),(6,some 6),(7,some 7)] (fix_of hc5.2.2 (k:=8) rfl) (pc (hC 0) (pc (hL 1 (noid_map ni_S _)) (pc (hC 2) (pc (hC 3) (pc (hC 4) (pc (hC 5) (pc (hC 6) (pc (.inr (.inr ⟨7,_,_,rfl,rfl,rfl,by kernel_rfl⟩)) allp_nil)))))))))
 rintro (⟨x17,x18⟩ | _)
 ·refine jN ?_
  refine jc_condK (c:=true) (by kernel_rfl) ?_
  refine jc_ret ?_
  refine jx_seqR ?_
  refine jx_rng hc5 (.inr rfl) rfl nofun rfl ?_
  refine jx_blkR ?_
  refine jx_seqR ?_
  exact jx_retM (pep_reader_word_T a0 a1 a2 a3 a4 (x18,true,x17)) (.inr rfl) (wkR [(0,some 0),(1,some 1),(2,some 4),(3,some 5)] (fix_of hF (k:=2) rfl) (pc (hC 0) (pc (hL 1 (noid_map ni_S _)) (pc (hC 4) (pc (hC 5) allp_nil)))))
 refine jN ?_
 refine jc_condK (c:=false) (by kernel_rfl) ?_
 refine jc_skip ?_
 refine jx_seqN ?_
 refine jc_reg ?_
 refine jG 0 5 ⟨[V 15 (.yld 7),V 19 (iv a1)],[W 0 4 [bs a0,iv a1,iv a2,iv a3],(1,.rows 1 (List.map cS a4)),W 2 1 [pt 0 4],W 3 1 [.osl 1 0 (List.length a4) 1],W 4 1 [bs []],W 5 1 [bv false],W 6 1 [pt 0 4],(7,pep_reader_word_lp5 .ready none)],8⟩ ?_
 refine jr_yield (i:=5) (l:=7) (Nc:=37) (Kc:=[V 2 (pt 2 1),V 3 (pt 3 1),V 4 (pt 4 1),V 5 (pt 5 1),V 16 (.fn 127 [pt 6 1])]) (ps:=[17]) (vs:=[iv a1]) (fun y=>match y with | Sum.inl (x24,x25)=>⟨[],[W 0 4 [bs a0,iv x24,iv a2,iv a3],(1,.rows 1 (List.map cS a4)),W 2 1 [pt 0 4],W 3 1 [.osl 1 0 (List.length a4) 1],W 4 1 [bs x25],W 5 1 [bv true],W 6 1 [pt 0 4],(7,pep_reader_word_lp5 .busy none)],8⟩ | Sum.inr _=>⟨[],[W 0 4 [bs a0,iv a1,iv a2,iv a3],(1,.rows 1 (List.map cS a4)),W 2 1 [pt 0 4],W 3 1 [.osl 1 0 (List.length a4) 1],W 4 1 [bs []],W 5 1 [bv false],W 6 1 [pt 0 4],(7,pep_reader_word_lp5 .busy none)],8⟩) (fun y=>match y with | Sum.inl (x24,x25)=>.ret | Sum.inr _=>.normal) [20] [0,1,2,3,4,5,6,7] (after:=(fun y=>match y with | Sum.inl (x24,x25)=>⟨[V 20 (bv false)],[W 0 4 [bs a0,iv x24,iv a2,iv a3],(1,.rows 1 (List.map cS a4)),W 2 1 [pt 0 4],W 3 1 [.osl 1 0 (List.length a4) 1],W 4 1 [bs x25],W 5 1 [bv true],W 6 1 [pt 0 4],(7,pep_reader_word_lp5 .done (some .ret))],8⟩ | Sum.inr _=>⟨[V 20 (bv true)],[W 0 4 [bs a0,iv a1,iv a2,iv a3],(1,.rows 1 (List.map cS a4)),W 2 1 [pt 0 4],W 3 1 [.osl 1 0 (List.length a4) 1],W 4 1 [bs []],W 5 1 [bv false],W 6 1 [pt 0 4],(7,pep_reader_word_lp5 .ready none)],8⟩)) rfl rfl pep_reader_word_y10_aw pep_reader_word_y10_bw (by kernel_rfl) (by kernel_rfl) (yctx_of hc5 rfl) rfl (by kernel_rfl) rfl ?_ (by rintro (⟨x24,x25⟩ | _) <;> exact⟨none,by kernel_rfl⟩) (by rintro (⟨x24,x25⟩ | _) <;> kernel_rfl) ?_
 ·intro F8 hy8
  refine jT ⟨[V 2 (pt 2 1),V 3 (pt 3 1),V 4 (pt 4 1),V 5 (pt 5 1),V 6 (iv a1)],[W 0 4 [bs a0,iv a1,iv a2,iv a3],(1,.rows 1 (List.map cS a4)),W 2 1 [pt 0 4],W 3 1 [.osl 1 0 (List.length a4) 1],W 4 1 [bs []],W 5 1 [bv false],W 6 1 [pt 0 4],(7,pep_reader_word_lp5 .ready none)],8⟩ ?_
  refine jx_asg hy8 rfl ?_
  refine jc_block ?_
  refine jR ?_
  refine jG 0 6 ⟨[V 2 (pt 2 1),V 4 (pt 4 1),V 5 (pt 5 1),V 6 (iv a1),V 22 (bs a0),V 23 (iv a1),V 24 (.osl 1 0 (List.length a4) 1)],[W 0 4 [bs a0,iv a1,iv a2,iv a3],(1,.rows 1 (List.map cS a4)),W 2 1 [pt 0 4],W 3 1 [.osl 1 0 (List.length a4) 1],W 4 1 [bs []],W 5 1 [bv false],W 6 1 [pt 0 4],(7,pep_reader_word_lp5 .busy none)],8⟩ ?_
  refine jr_callF (i:=6) rfl rfl rfl rfl (vs:=[bs a0,iv a1,.osl 1 0 (List.length a4) 1]) (by kernel_rfl) (snapL_cons rfl (snapL_cons rfl (snapL_cons (snapc_own fz_S (by kernel_rfl)) (snapL_nil _)))) (all2_cons (fle_refl _) (all2_cons (fle_refl _) (all2_cons (fle_refl _) all2_nil))) (scan_Word_ok a0 a1 a4) (fun _=>rfl) (fun _=>rfl) ?_
  intro x26 h26
  refine jG 7 5 ⟨[V 2 (pt 2 1),V 4 (pt 4 1),V 5 (pt 5 1),V 6 (iv a1),V 7 (bs x26.1),V 8 (bv x26.2)],[W 0 4 [bs a0,iv a1,iv a2,iv a3],(1,.rows 1 (List.map cS a4)),W 2 1 [pt 0 4],W 3 1 [.osl 1 0 (List.length a4) 1],W 4 1 [bs []],W 5 1 [bv false],W 6 1 [pt 0 4],(7,pep_reader_word_lp5 .busy none)],8⟩ ?_
  refine jN ?_
  refine jS ⟨[V 2 (pt 2 1),V 4 (pt 4 1),V 5 (pt 5 1),V 6 (iv a1),V 7 (bs x26.1),V 28 (bv x26.2)],[W 0 4 [bs a0,iv a1,iv a2,iv a3],(1,.rows 1 (List.map cS a4)),W 2 1 [pt 0 4],W 3 1 [.osl 1 0 (List.length a4) 1],W 4 1 [bs []],W 5 1 [bv false],W 6 1 [pt 0 4],(7,pep_reader_word_lp5 .busy none)],8⟩ ?_
  refine jIf ?_ ?_
  ·refine jS ⟨[V 4 (pt 4 1),V 5 (pt 5 1),V 7 (bs x26.1)],[W 0 4 [bs a0,iv (w64 (a1 + (List.length x26.1:Int))),iv a2,iv a3],(1,.rows 1 (List.map cS a4)),W 2 1 [pt 0 4],W 3 1 [.osl 1 0 (List.length a4) 1],W 4 1 [bs []],W 5 1 [bv false],W 6 1 [pt 0 4],(7,pep_reader_word_lp5 .busy none)],8⟩ ?_
   refine jS ⟨[],[W 0 4 [bs a0,iv (w64 (a1 + (List.length x26.1:Int))),iv a2,iv a3],(1,.rows 1 (List.map cS a4)),W 2 1 [pt 0 4],W 3 1 [.osl 1 0 (List.length a4) 1],W 4 1 [bs x26.1],W 5 1 [bv true],W 6 1 [pt 0 4],(7,pep_reader_word_lp5 .busy none)],8⟩ ?_
   refine jc_ret ?_
   refine jx_blkR ?_
   exact jx_mid rfl (wkR [(0,some 0),(1,some 1),(2,some 2),(3,some 3),(4,some 4),(5,some 5),(6,some 6),(7,some 7)] (fix_of hy8.2 (k:=8) rfl) (pc (hC 0) (pc (hL 1 (noid_map ni_S _)) (pc (hC 2) (pc (hC 3) (pc (hC 4) (pc (hC 5) (pc (hC 6) (pc (.inr (.inr ⟨7,_,_,rfl,rfl,rfl,by kernel_rfl⟩)) allp_nil)))))))))
  refine jc_skip ?_
  refine jx_blkN ?_
  exact jx_mid rfl (wkR [(0,some 0),(1,some 1),(2,some 2),(3,some 3),(4,some 4),(5,some 5),(6,some 6),(7,some 7)] (fix_of hy8.2 (k:=8) rfl) (pc (hC 0) (pc (hL 1 (noid_map ni_S _)) (pc (hC 2) (pc (hC 3) (pc (hC 4) (pc (hC 5) (pc (hC 6) (pc (.inr (.inr ⟨7,_,_,rfl,rfl,rfl,by kernel_rfl⟩)) allp_nil)))))))))
 rintro (⟨x24,x25⟩ | _)
 ·refine jr_nil rfl ?_
  refine jx_rng hc5 (.inl rfl) rfl nofun rfl ?_
  refine jx_blkR ?_
  refine jx_seqR ?_
  exact jx_retM (pep_reader_word_T a0 a1 a2 a3 a4 (x25,true,x24)) (.inr rfl) (wkR [(0,some 0),(1,some 1),(2,some 4),(3,some 5)] (fix_of hF (k:=2) rfl) (pc (hC 0) (pc (hL 1 (noid_map ni_S _)) (pc (hC 4) (pc (hC 5) allp_nil)))))
 refine jr_nil rfl ?_
 refine jx_rng hc5 (.inl rfl) rfl nofun rfl ?_
 refine jx_blkN ?_
 refine jx_seqN ?_
 refine jS ⟨[V 4 (pt 4 1),V 5 (pt 5 1)],[W 0 4 [bs a0,iv a1,iv a2,iv a3],(1,.rows 1 (List.map cS a4)),W 4 1 [bs []],W 5 1 [bv false]],8⟩ ?_
 refine jc_ret ?_
 exact jx_retM (pep_reader_word_T a0 a1 a2 a3 a4 ([],false,a1)) (.inr rfl) (wkR [(0,some 0),(1,some 1),(2,some 4),(3,some 5)] (fix_of hF (k:=2) rfl) (pc (hC 0) (pc (hL 1 (noid_map ni_S _)) (pc (hC 4) (pc (hC 5) allp_nil))))))
abbrev pep_reader_local_r1:List LO:=[lo 2 (.assign (.const (.slice none 0 0))) 22]
abbrev pep_reader_local_r2:List LO:=[lo 3 (.assign (.const (.slice none 0 0))) 22]
abbrev pep_reader_local_r3:List LO:=[lm 5 0 50,lo 6 (.nilCheck (.tmp 5)) 0,lo 7 (.fieldAddr 52 (.tmp 6) 1) 0,lo 8 (.load 3 (.tmp 7)) 3,lm 9 0 50,lo 10 (.nilCheck (.tmp 9)) 0,lo 11 (.fieldAddr 52 (.tmp 10) 0) 0,lo 12 (.load 9 (.tmp 11)) 9,lo 13 (.call ⟨.builtin .len,#[.tmp 12],#[9]⟩) 3,lo 14 (.binOp .geq 3 (.tmp 8) (.tmp 13) 3) 4,lm 15 14 4,lmg 16 0 50 15 false,lg 17 (.nilCheck (.tmp 16)) 0 15 false,lg 18 (.fieldAddr 52 (.tmp 17) 0) 0 15 false,lg 19 (.load 9 (.tmp 18)) 9 15 false,lmg 20 0 50 15 false,lg 21 (.nilCheck (.tmp 20)) 0 15 false,lg 22 (.fieldAddr 52 (.tmp 21) 1) 0 15 false,lg 23 (.load 3 (.tmp 22)) 3 15 false,lg 24 (.index 9 (.tmp 19) (.tmp 23)) 5 15 false,lg 25 (.binOp .neq 5 (.tmp 24) (.const (.int .u8 43)) 5) 4 15 false,lo 26 (.pick (.tmp 15) (.const (.bool true)) (.tmp 25)) 4]
abbrev pep_reader_local_r4:List LO:=[lo 2 (.assign (.const (.slice none 0 0))) 22]
abbrev pep_reader_local_r5:List LO:=[lm 27 0 50,lo 28 (.nilCheck (.tmp 27)) 0,lo 29 (.fieldAddr 52 (.tmp 28) 1) 0,lo 30 (.load 3 (.tmp 29)) 3,lo 31 (.binOp .add 3 (.tmp 30) (.const (.int .i64 1)) 3) 3,lo 32 (.nilCheck (.tmp 27)) 0,lo 33 (.fieldAddr 52 (.tmp 32) 1) 0,ln (.store 3 (.tmp 33) (.tmp 31)) 0]
abbrev pep_reader_local_r6:List LO:=[lm 34 0 50,lo 35 (.call ⟨.value (.func 89),#[.tmp 34,.const (.int .i64 5)],#[50,3]⟩) 4]
abbrev pep_reader_local_r7:List LO:=[lm 36 0 50,lo 37 (.call ⟨.value (.func 95),#[.tmp 36,.const (.int .i64 5)],#[50,3]⟩) 9,lo 4 (.assign (.tmp 37)) 9]
abbrev pep_reader_local_r8:List LO:=[lm 38 4 9,lo 39 (.call ⟨.value (.func 87),#[.tmp 38,.const (.int .i64 0),.const (.int .i64 1)],#[9,3,3]⟩) 3,lm 40 4 9,lo 41 (.call ⟨.builtin .len,#[.tmp 40],#[9]⟩) 3,lo 42 (.binOp .eql 3 (.tmp 39) (.tmp 41) 3) 4]
abbrev pep_reader_local_r9:List LO:=[lm 43 4 9,lo 44 (.call ⟨.value (.func 96),#[.tmp 43],#[9]⟩) 9,lo 4 (.assign (.tmp 44)) 9]
abbrev pep_reader_local_r10:List LO:=[lm 45 3 22,lm 46 4 9,lo 47 (.buildSlice 22 1 #[(0,.tmp 46)]) 22,lo 48 (.call ⟨.builtin .append,#[.tmp 45,.tmp 47],#[22,22]⟩) 22,lo 3 (.assign (.tmp 48)) 22]
abbrev pep_reader_local_r11:List LO:=[lm 49 0 50,lo 50 (.call ⟨.value (.func 93),#[.tmp 49],#[50]⟩) 4,lo 51 (.unOp .not 4 (.tmp 50)) 4,lm 52 51 4,lmg 53 0 50 52 false,lg 54 (.nilCheck (.tmp 53)) 0 52 false,lg 55 (.fieldAddr 52 (.tmp 54) 1) 0 52 false,lg 56 (.load 3 (.tmp 55)) 3 52 false,lg 57 (.binOp .add 3 (.tmp 56) (.const (.int .i64 1)) 3) 3 52 false,lmg 58 0 50 52 false,lg 59 (.nilCheck (.tmp 58)) 0 52 false,lg 60 (.fieldAddr 52 (.tmp 59) 0) 0 52 false,lg 61 (.load 9 (.tmp 60)) 9 52 false,lg 62 (.call ⟨.builtin .len,#[.tmp 61],#[9]⟩) 3 52 false,lg 63 (.binOp .geq 3 (.tmp 57) (.tmp 62) 3) 4 52 false,lo 64 (.pick (.tmp 52) (.const (.bool true)) (.tmp 63)) 4,lm 65 64 4,lmg 66 0 50 65 false,lg 67 (.nilCheck (.tmp 66)) 0 65 false,lg 68 (.fieldAddr 52 (.tmp 67) 0) 0 65 false,lg 69 (.load 9 (.tmp 68)) 9 65 false,lmg 70 0 50 65 false,lg 71 (.nilCheck (.tmp 70)) 0 65 false,lg 72 (.fieldAddr 52 (.tmp 71) 1) 0 65 false,lg 73 (.load 3 (.tmp 72)) 3 65 false,lg 74 (.binOp .add 3 (.tmp 73) (.const (.int .i64 1)) 3) 3 65 false,lg 75 (.index 9 (.tmp 69) (.tmp 74)) 5 65 false,lg 76 (.call ⟨.value (.func 86),#[.tmp 75,.const (.int .i64 5)],#[5,3]⟩) 4 65 false,lg 77 (.unOp .not 4 (.tmp 76)) 4 65 false,lo 78 (.pick (.tmp 65) (.const (.bool true)) (.tmp 77)) 4]
abbrev pep_reader_local_r12:List LO:=[lm 79 3 22,lo 2 (.assign (.tmp 79)) 22]
abbrev pep_reader_local_r13:List LO:=[lm 80 0 50,lo 81 (.nilCheck (.tmp 80)) 0,lo 82 (.fieldAddr 52 (.tmp 81) 1) 0,lo 83 (.load 3 (.tmp 82)) 3,lo 84 (.binOp .add 3 (.tmp 83) (.const (.int .i64 1)) 3) 3,lo 85 (.nilCheck (.tmp 80)) 0,lo 86 (.fieldAddr 52 (.tmp 85) 1) 0,ln (.store 3 (.tmp 86) (.tmp 84)) 0]
abbrev pep_reader_local_r14:List LO:=[lm 87 3 22,lo 2 (.assign (.tmp 87)) 22]
abbrev pep_reader_local_c:LC:=.seq (.reg false pep_reader_local_r1) (.seq (.reg false pep_reader_local_r2) (.seq (.seq (.reg true pep_reader_local_r3) (.cond (.tmp 26) (.seq (.reg false pep_reader_local_r4) .ret) .skip)) (.seq (.reg false pep_reader_local_r5) (.seq (.block 0 (.loop (.seq (.seq (.reg false pep_reader_local_r6) (.cond (.tmp 35) .skip (.exit 0))) (.block 1 (.seq (.reg false pep_reader_local_r7) (.seq (.seq (.reg false pep_reader_local_r8) (.cond (.tmp 42) (.reg false pep_reader_local_r9) .skip)) (.seq (.reg false pep_reader_local_r10) (.seq (.seq (.reg true pep_reader_local_r11) (.cond (.tmp 78) (.seq (.reg false pep_reader_local_r12) .ret) .skip)) (.reg false pep_reader_local_r13))))))))) (.seq (.reg false pep_reader_local_r14) .ret)))))
theorem pep_reader_local_k:FnOk E 42 88 [.tmp 2] pep_reader_local_c:=⟨⟨Go.Proofs.Tryz.f42,by kernel_rfl,by kernel_rfl,by kernel_rfl,by kernel_rfl,by kernel_rfl⟩,rfl,rfl⟩
noncomputable def pep_reader_local_l1 (a0:Str):(Int × Int × Int × List Str)→Option (Step (Int × Int × Int × List Str) ((List Str × Int × Int × Int) ⊕ (List Str × Int × Int × Int))):=fun (x65,x66,x67,x68)=>Option.bind (pep_reader_must a0 x65 x66 x67 5) (fun (x94,x95,x96)=>(if x94=true then Option.bind (pep_reader_run a0 x65 x95 x96 5) (fun (x97,x98)=>Option.bind (Option.bind (scan_Run x97 0 1) (fun x102=>(if (x102 == (List.length x97:Int))=true then Option.bind (scan_Trim x97) (fun x103=>some x103) else some x97)):Option (Str)) (fun x101=>Option.bind (app 16 x68 [x101]) (fun x104=>Option.bind (pep_reader_marked_s6db9 a0 x98 x95 x96) (fun x105=>Option.bind (if ((!x105) || (decide ((w64 (x98 + 1))≥(List.length a0:Int))))=true then some true else Option.bind (idx a0 (w64 (x98 + 1))) (fun x109=>Option.bind (scan_Is x109 5) (fun x110=>some (!x110))):Option (Bool)) (fun x108=>(if x108=true then some (Step.done (Sum.inl (x104,x98,x95,x96))) else some (Step.next ((w64 (x98 + 1)),x95,x96,x104)))))))) else some (Step.done (Sum.inr (x68,x65,x95,x96)))))
abbrev pep_reader_local_T (a0:Str) (a1:Int) (a2:Int) (a3:Int) (r:List Str × Int × Int × Int):CS:=⟨[V 2 (.osl 1 0 (List.length r.1) 1)],[W 0 4 [bs a0,iv r.2.1,iv r.2.2.1,iv r.2.2.2],(1,.rows 1 (List.map cS r.1))],2⟩
noncomputable def pep_reader_local (a0:Str) (a1:Int) (a2:Int) (a3:Int):Option (List Str × Int × Int × Int):=Option.bind (if (decide (a1≥(List.length a0:Int)))=true then some true else Option.bind (idx a0 a1) (fun x51=>some (x51 != 43)):Option (Bool)) (fun x50=>(if x50=true then some ([],a1,a2,a3) else Option.bind (loopC (pep_reader_local_l1 a0) ((w64 (a1 + 1)),a2,a3,[])) (fun y=>match y with | Sum.inl (x86,x87,x88,x89)=>some (x86,x87,x88,x89) | Sum.inr (x90,x91,x92,x93)=>some (x90,x91,x92,x93))))
theorem pep_reader_local_ok (a0:Str) (a1:Int) (a2:Int) (a3:Int):CtM E 42 [pt 0 4] [W 0 4 [bs a0,iv a1,iv a2,iv a3]] 1 (pep_reader_local a0 a1 a2 a3) (fun r:List Str × Int × Int × Int=>.osl 1 0 (List.length r.1) 1) (fun r:List Str × Int × Int × Int=>[W 0 4 [bs a0,iv r.2.1,iv r.2.2.1,iv r.2.2.2],(1,.rows 1 (List.map cS r.1))]) 2:=ctm_intro (N:=88) (L:=pep_reader_local_c) pep_reader_local_k rfl (Nat.le_of_ble_eq_true rfl) (fun F hF=>by
 unfold pep_reader_local
 refine jS ⟨[V 0 (pt 0 4)],[W 0 4 [bs a0,iv a1,iv a2,iv a3]],1⟩ ?_
 refine jS ⟨[V 0 (pt 0 4),V 3 (nilS)],[W 0 4 [bs a0,iv a1,iv a2,iv a3]],1⟩ ?_
 refine jc_seq ?_
 refine jR ?_
 refine jG 0 11 ⟨[V 0 (pt 0 4),V 3 (nilS),V 15 (bv (decide (a1≥(List.length a0:Int))))],[W 0 4 [bs a0,iv a1,iv a2,iv a3]],1⟩ ?_
 refine jr_bind 11 11 (fun x50=>⟨[V 0 (pt 0 4),V 3 (nilS),V 26 (bv x50)],[W 0 4 [bs a0,iv a1,iv a2,iv a3]],1⟩) ?_ ?_
 ·refine jSp 15 ?_ ?_
  ·refine jG 0 11 ⟨[V 0 (pt 0 4),V 3 (nilS),V 26 (bv true)],[W 0 4 [bs a0,iv a1,iv a2,iv a3]],1⟩ ?_
   refine jr_nil rfl ?_
   exact jx_mid rfl (wkR [(0,some 0)] (fix_of hF (k:=1) rfl) (pc (hC 0) allp_nil))
  refine jG 0 8 ⟨[V 0 (pt 0 4),V 3 (nilS),(15,.lit false),V 19 (bs a0),V 23 (iv a1)],[W 0 4 [bs a0,iv a1,iv a2,iv a3]],1⟩ ?_
  refine jr_part (i:=8) (mo:=idx a0 a1) rfl rfl rfl rfl (fun _ hc=>aop_index (kk:=.i64) (by kernel_rfl) (by kernel_rfl) (by kernel_rfl) hc) (fun _=>rfl) ?_
  intro x51 h51
  refine jG 9 2 ⟨[V 0 (pt 0 4),V 3 (nilS),V 26 (bv (x51 != 43))],[W 0 4 [bs a0,iv a1,iv a2,iv a3]],1⟩ ?_
  refine jr_nil rfl ?_
  exact jx_mid rfl (wkR [(0,some 0)] (fix_of hF (k:=1) rfl) (pc (hC 0) allp_nil))
 intro x50
 refine jN ?_
 refine jIf ?_ ?_
 ·refine jS ⟨[V 2 (nilS)],[W 0 4 [bs a0,iv a1,iv a2,iv a3]],1⟩ ?_
  refine jc_ret ?_
  refine jx_seqR ?_
  exact jx_retM (pep_reader_local_T a0 a1 a2 a3 ([],a1,a2,a3)) (.inr rfl) (wkR [(0,some 0),(1,none)] (fix_of hF (k:=1) rfl) (pc (hC 0) (pc hZ allp_nil)))
 refine jc_skip ?_
 refine jx_seqN ?_
 refine jS ⟨[V 0 (pt 0 4),V 3 (nilS)],[W 0 4 [bs a0,iv (w64 (a1 + 1)),iv a2,iv a3]],1⟩ ?_
 refine jc_seq ?_
 refine jc_block ?_
 refine jc_bind (fun y=>match y with | Sum.inl (x86,x87,x88,x89)=>⟨[V 2 (.osl 1 0 (List.length x86) 1)],[W 0 4 [bs a0,iv x87,iv x88,iv x89],(1,.rows 1 (List.map cS x86))],2⟩ | Sum.inr (x90,x91,x92,x93)=>⟨[V 3 (.osl 1 0 (List.length x90) 1)],[W 0 4 [bs a0,iv x91,iv x92,iv x93],(1,.rows 1 (List.map cS x90))],2⟩) (fun y=>match y with | Sum.inl (x86,x87,x88,x89)=>.ret | Sum.inr (x90,x91,x92,x93)=>(.exit 0)) (jc_loop (fun (x65,x66,x67,x68)=>⟨[V 0 (pt 0 4),V 3 (.osl 1 0 (List.length x68) 1)],[W 0 4 [bs a0,iv x65,iv x66,iv x67],(1,.rows 1 (List.map cS x68))],2⟩) (wkR [(0,some 0),(1,none)] (fix_of hF (k:=1) rfl) (pc (hC 0) (pc hZ allp_nil))) ?_) ?_
 ·rintro⟨x65,x66,x67,x68⟩
  unfold pep_reader_local_l1
  refine jc_seq ?_
  refine jR ?_
  refine jG 0 1 ⟨[V 0 (pt 0 4),V 3 (.osl 1 0 (List.length x68) 1),V 34 (pt 0 4)],[W 0 4 [bs a0,iv x65,iv x66,iv x67],(1,.rows 1 (List.map cS x68))],2⟩ ?_
  refine jr_callM 1 [(0,some 0)] [(0,some 0)] (fun r:Bool × Int × Int=>[W 0 4 [bs a0,iv x65,iv r.2.1,iv r.2.2],(1,.rows 1 (List.map cS x68))]) (fun r:Bool × Int × Int=>bv r.1) 2 (pep_reader_must_ok a0 x65 x66 x67 5) (pc (hC 0) allp_nil) (fun r=>(pc (.inr (hC 0)) (pc (.inl ⟨rfl,rfl⟩) allp_nil))) ?_
  rintro⟨x94,x95,x96⟩ hm10
  refine jN ?_
  refine jIf ?_ ?_
  ·refine jc_skip ?_
   refine jx_seqN ?_
   refine jc_block ?_
   refine jR ?_
   refine jG 0 1 ⟨[V 0 (pt 0 4),V 3 (.osl 1 0 (List.length x68) 1),V 36 (pt 0 4)],[W 0 4 [bs a0,iv x65,iv x95,iv x96],(1,.rows 1 (List.map cS x68))],2⟩ ?_
   refine jr_callM 1 [(0,some 0)] [(0,some 0)] (fun r:Str × Int=>[W 0 4 [bs a0,iv r.2,iv x95,iv x96],(1,.rows 1 (List.map cS x68))]) (fun r:Str × Int=>bs r.1) 2 (pep_reader_run_ok a0 x65 x95 x96 5) (pc (hC 0) allp_nil) (fun r=>(pc (.inr (hC 0)) (pc (.inl ⟨rfl,rfl⟩) allp_nil))) ?_
   rintro⟨x97,x98⟩ hm9
   refine jG 2 1 ⟨[V 0 (pt 0 4),V 3 (.osl 1 0 (List.length x68) 1),V 4 (bs x97)],[W 0 4 [bs a0,iv x98,iv x95,iv x96],(1,.rows 1 (List.map cS x68))],2⟩ ?_
   refine jN ?_
   refine jc_seq ?_
   refine jc_bind (fun x101=>⟨[V 0 (pt 0 4),V 3 (.osl 1 0 (List.length x68) 1),V 4 (bs x101)],[W 0 4 [bs a0,iv x98,iv x95,iv x96],(1,.rows 1 (List.map cS x68))],2⟩) (fun x101=>.normal) ?_ ?_
   ·refine jR ?_
    refine jG 0 1 ⟨[V 0 (pt 0 4),V 3 (.osl 1 0 (List.length x68) 1),V 4 (bs x97),V 38 (bs x97)],[W 0 4 [bs a0,iv x98,iv x95,iv x96],(1,.rows 1 (List.map cS x68))],2⟩ ?_
    refine jK 1 (scan_Run_ok x97 0 1) ?_
    intro x102 h102
    refine jG 2 3 ⟨[V 0 (pt 0 4),V 3 (.osl 1 0 (List.length x68) 1),V 4 (bs x97),V 42 (bv (x102 == (List.length x97:Int)))],[W 0 4 [bs a0,iv x98,iv x95,iv x96],(1,.rows 1 (List.map cS x68))],2⟩ ?_
    refine jN ?_
    refine jIf ?_ ?_
    ·refine jc_reg ?_
     refine jG 0 1 ⟨[V 0 (pt 0 4),V 3 (.osl 1 0 (List.length x68) 1),V 43 (bs x97)],[W 0 4 [bs a0,iv x98,iv x95,iv x96],(1,.rows 1 (List.map cS x68))],2⟩ ?_
     refine jK 1 (scan_Trim_ok x97) ?_
     intro x103 h103
     refine jG 2 1 ⟨[V 0 (pt 0 4),V 3 (.osl 1 0 (List.length x68) 1),V 4 (bs x103)],[W 0 4 [bs a0,iv x98,iv x95,iv x96],(1,.rows 1 (List.map cS x68))],2⟩ ?_
     refine jr_nil rfl ?_
     exact jx_mid rfl (wkR [(0,some 0),(1,some 1)] (fix_of hF (k:=1) rfl) (pc (hC 0) (pc (hL 1 (noid_map ni_S _)) allp_nil)))
    refine jc_skip ?_
    exact jx_mid rfl (wkR [(0,some 0),(1,some 1)] (fix_of hF (k:=1) rfl) (pc (hC 0) (pc (hL 1 (noid_map ni_S _)) allp_nil)))
   intro x101
   refine jx_seqN ?_
   refine jR ?_
   refine jG 0 3 ⟨[V 0 (pt 0 4),V 45 (.osl 1 0 (List.length x68) 1),V 47 (.osl 2 0 (List.length [x101]) 1)],[W 0 4 [bs a0,iv x98,iv x95,iv x96],(1,.rows 1 (List.map cS x68)),(2,.rows 1 (List.map cS [x101]))],3⟩ ?_
   refine jr_part (i:=3) (mo:=app 16 x68 [x101]) rfl rfl rfl rfl (fun _ hc=>aop_app (u:=.osl 1 0 (List.length x68) 1) (w:=.osl 2 0 (List.length [x101]) 1) (e:=9) (td:=.slice 9) (by kernel_rfl) (by kernel_rfl) (by kernel_rfl) (by kernel_rfl) (.inl ⟨_,rfl⟩) (appendOf_own (c:=cS) (sz:=1) (b:=16) (id:=1) (by kernel_rfl) (by kernel_rfl) (rows_own (by kernel_rfl)) (List.cons_ne_nil _ _) hc)) (fun _=>rfl) ?_
   intro x104 h104
   refine jG 4 1 ⟨[V 0 (pt 0 4),V 3 (.osl 3 0 (List.length x104) 1)],[W 0 4 [bs a0,iv x98,iv x95,iv x96],(3,.rows 1 (List.map cS x104))],4⟩ ?_
   refine jN ?_
   refine jc_seq ?_
   refine jR ?_
   refine jG 0 1 ⟨[V 0 (pt 0 4),V 3 (.osl 3 0 (List.length x104) 1),V 49 (pt 0 4)],[W 0 4 [bs a0,iv x98,iv x95,iv x96],(3,.rows 1 (List.map cS x104))],4⟩ ?_
   refine jr_callF (i:=1) rfl rfl rfl rfl (vs:=[pt 0 4]) (vs0:=[.fptr [bs a0,iv x98,iv x95,iv x96] 0]) (b:=true) (by kernel_rfl) (by kernel_rfl) (all2_cons (fle_refl _) all2_nil) (pep_reader_marked_s6db9_ok a0 x98 x95 x96) (fun _=>rfl) (fun _=>rfl) ?_
   intro x105 h105
   refine jG 2 15 ⟨[V 0 (pt 0 4),V 3 (.osl 3 0 (List.length x104) 1),V 65 (bv ((!x105) || (decide ((w64 (x98 + 1))≥(List.length a0:Int)))))],[W 0 4 [bs a0,iv x98,iv x95,iv x96],(3,.rows 1 (List.map cS x104))],4⟩ ?_
   refine jr_bind 17 13 (fun x108=>⟨[V 0 (pt 0 4),V 3 (.osl 1 0 (List.length x104) 1),V 78 (bv x108)],[W 0 4 [bs a0,iv x98,iv x95,iv x96],(1,.rows 1 (List.map cS x104))],2⟩) ?_ ?_
   ·refine jSp 65 ?_ ?_
    ·refine jG 0 13 ⟨[V 0 (pt 0 4),V 3 (.osl 3 0 (List.length x104) 1),V 78 (bv true)],[W 0 4 [bs a0,iv x98,iv x95,iv x96],(3,.rows 1 (List.map cS x104))],4⟩ ?_
     refine jr_nil rfl ?_
     exact jx_mid rfl (wkR [(0,some 0),(1,some 3)] (fix_of hF (k:=1) rfl) (pc (hC 0) (pc (hL 3 (noid_map ni_S _)) allp_nil)))
    refine jG 0 9 ⟨[V 0 (pt 0 4),V 3 (.osl 3 0 (List.length x104) 1),(65,.lit false),V 69 (bs a0),V 74 (iv (w64 (x98 + 1)))],[W 0 4 [bs a0,iv x98,iv x95,iv x96],(3,.rows 1 (List.map cS x104))],4⟩ ?_
    refine jr_part (i:=9) (mo:=idx a0 (w64 (x98 + 1))) rfl rfl rfl rfl (fun _ hc=>aop_index (kk:=.i64) (by kernel_rfl) (by kernel_rfl) (by kernel_rfl) hc) (fun _=>rfl) ?_
    intro x109 h109
    refine jK 10 (scan_Is_ok x109 5) ?_
    intro x110 h110
    refine jG 11 2 ⟨[V 0 (pt 0 4),V 3 (.osl 3 0 (List.length x104) 1),V 78 (bv (!x110))],[W 0 4 [bs a0,iv x98,iv x95,iv x96],(3,.rows 1 (List.map cS x104))],4⟩ ?_
    refine jr_nil rfl ?_
    exact jx_mid rfl (wkR [(0,some 0),(1,some 3)] (fix_of hF (k:=1) rfl) (pc (hC 0) (pc (hL 3 (noid_map ni_S _)) allp_nil)))
   intro x108
   refine jN ?_
   refine jIf ?_ ?_
   ·refine jS ⟨[V 2 (.osl 1 0 (List.length x104) 1)],[W 0 4 [bs a0,iv x98,iv x95,iv x96],(1,.rows 1 (List.map cS x104))],2⟩ ?_
    refine jc_ret ?_
    refine jx_seqR ?_
    refine jx_blkR ?_
    exact jx_done rfl nofun (wkR [(0,some 0),(1,some 1)] (fix_of hF (k:=1) rfl) (pc (hC 0) (pc (hL 1 (noid_map ni_S _)) allp_nil)))
   refine jc_skip ?_
   refine jx_seqN ?_
   refine jT ⟨[V 0 (pt 0 4),V 3 (.osl 1 0 (List.length x104) 1)],[W 0 4 [bs a0,iv (w64 (x98 + 1)),iv x95,iv x96],(1,.rows 1 (List.map cS x104))],2⟩ ?_
   refine jx_blkN ?_
   exact jx_next (wkR [(0,some 0),(1,some 1)] (fix_of hF (k:=1) rfl) (pc (hC 0) (pc (hL 1 (noid_map ni_S _)) allp_nil)))
  refine jc_exit ?_
  refine jx_seqE ?_
  exact jx_done rfl nofun (wkR [(0,some 0),(1,some 1)] (fix_of hF (k:=1) rfl) (pc (hC 0) (pc (hL 1 (noid_map ni_S _)) allp_nil)))
 rintro (⟨x86,x87,x88,x89⟩ | ⟨x90,x91,x92,x93⟩)
 ·refine jx_blkR ?_
  refine jx_seqR ?_
  exact jx_retM (pep_reader_local_T a0 a1 a2 a3 (x86,x87,x88,x89)) (.inr rfl) (wkR [(0,some 0),(1,some 1)] (fix_of hF (k:=1) rfl) (pc (hC 0) (pc (hL 1 (noid_map ni_S _)) allp_nil)))
 refine jx_blkE ?_
 refine jx_seqN ?_
 refine jS ⟨[V 2 (.osl 1 0 (List.length x90) 1)],[W 0 4 [bs a0,iv x91,iv x92,iv x93],(1,.rows 1 (List.map cS x90))],2⟩ ?_
 refine jc_ret ?_
 exact jx_retM (pep_reader_local_T a0 a1 a2 a3 (x90,x91,x92,x93)) (.inr rfl) (wkR [(0,some 0),(1,some 1)] (fix_of hF (k:=1) rfl) (pc (hC 0) (pc (hL 1 (noid_map ni_S _)) allp_nil))))
abbrev pep_reader_post_r1:List LO:=[lm 6 0 50,lo 7 (.nilCheck (.tmp 6)) 0,lo 8 (.fieldAddr 52 (.tmp 7) 1) 0,lo 9 (.load 3 (.tmp 8)) 3,lo 10 (.binOp .add 3 (.tmp 9) (.const (.int .i64 1)) 3) 3,lm 11 0 50,lo 12 (.nilCheck (.tmp 11)) 0,lo 13 (.fieldAddr 52 (.tmp 12) 0) 0,lo 14 (.load 9 (.tmp 13)) 9,lo 15 (.call ⟨.builtin .len,#[.tmp 14],#[9]⟩) 3,lo 16 (.binOp .lss 3 (.tmp 10) (.tmp 15) 3) 4,lm 17 16 4,lmg 18 0 50 17 true,lg 19 (.nilCheck (.tmp 18)) 0 17 true,lg 20 (.fieldAddr 52 (.tmp 19) 0) 0 17 true,lg 21 (.load 9 (.tmp 20)) 9 17 true,lmg 22 0 50 17 true,lg 23 (.nilCheck (.tmp 22)) 0 17 true,lg 24 (.fieldAddr 52 (.tmp 23) 1) 0 17 true,lg 25 (.load 3 (.tmp 24)) 3 17 true,lg 26 (.index 9 (.tmp 21) (.tmp 25)) 5 17 true,lg 27 (.binOp .eql 5 (.tmp 26) (.const (.int .u8 45)) 5) 4 17 true,lo 28 (.pick (.tmp 17) (.tmp 27) (.const (.bool false))) 4,lm 29 28 4,lmg 30 0 50 29 true,lg 31 (.nilCheck (.tmp 30)) 0 29 true,lg 32 (.fieldAddr 52 (.tmp 31) 0) 0 29 true,lg 33 (.load 9 (.tmp 32)) 9 29 true,lmg 34 0 50 29 true,lg 35 (.nilCheck (.tmp 34)) 0 29 true,lg 36 (.fieldAddr 52 (.tmp 35) 1) 0 29 true,lg 37 (.load 3 (.tmp 36)) 3 29 true,lg 38 (.binOp .add 3 (.tmp 37) (.const (.int .i64 1)) 3) 3 29 true,lg 39 (.index 9 (.tmp 33) (.tmp 38)) 5 29 true,lg 40 (.call ⟨.value (.func 86),#[.tmp 39,.const (.int .i64 1)],#[5,3]⟩) 4 29 true,lo 41 (.pick (.tmp 29) (.tmp 40) (.const (.bool false))) 4]
abbrev pep_reader_post_r2:List LO:=[lm 42 0 50,lo 43 (.nilCheck (.tmp 42)) 0,lo 44 (.fieldAddr 52 (.tmp 43) 1) 0,lo 45 (.load 3 (.tmp 44)) 3,lo 46 (.binOp .add 3 (.tmp 45) (.const (.int .i64 1)) 3) 3,lo 47 (.nilCheck (.tmp 42)) 0,lo 48 (.fieldAddr 52 (.tmp 47) 1) 0,ln (.store 3 (.tmp 48) (.tmp 46)) 0]
abbrev pep_reader_post_r3:List LO:=[lm 49 1 58,lm 50 1 58,lm 51 0 50,lo 52 (.call ⟨.value (.func 88),#[.tmp 51],#[50]⟩) 9,lo 53 (.nilCheck (.tmp 49)) 0,lo 54 (.fieldAddr 24 (.tmp 53) 4) 0,ln (.store 4 (.tmp 54) (.const (.bool true))) 0,lo 55 (.nilCheck (.tmp 50)) 0,lo 56 (.fieldAddr 24 (.tmp 55) 5) 0,ln (.store 9 (.tmp 56) (.tmp 52)) 0]
abbrev pep_reader_post_r4:List LO:=[lm 58 0 50,lo 59 (.buildSlice 22 3 #[(0,.const (.string ⟨#[112,111,115,116]⟩)),(1,.const (.string ⟨#[114,101,118]⟩)),(2,.const (.string ⟨#[114]⟩))]) 22,lo 60 (.call ⟨.value (.func 38),#[.tmp 58,.tmp 59],#[50,22]⟩) 55,lm 57 60 55,lo 61 (.extract (.tmp 57) 0) 9,lo 62 (.extract (.tmp 57) 1) 4,lo 4 (.assign (.tmp 61)) 9,lo 5 (.assign (.tmp 62)) 4]
abbrev pep_reader_post_r5:List LO:=[lm 63 5 4]
abbrev pep_reader_post_r6:List LO:=[lm 64 1 58,lm 65 1 58,lm 66 0 50,lo 67 (.call ⟨.value (.func 40),#[.tmp 66],#[50]⟩) 9,lo 68 (.nilCheck (.tmp 64)) 0,lo 69 (.fieldAddr 24 (.tmp 68) 4) 0,ln (.store 4 (.tmp 69) (.const (.bool true))) 0,lo 70 (.nilCheck (.tmp 65)) 0,lo 71 (.fieldAddr 24 (.tmp 70) 5) 0,ln (.store 9 (.tmp 71) (.tmp 67)) 0]
abbrev pep_reader_post_c:LC:=.seq (.seq (.reg true pep_reader_post_r1) (.cond (.tmp 41) (.seq (.reg false pep_reader_post_r2) (.seq (.reg false pep_reader_post_r3) .ret)) .skip)) (.seq (.reg false pep_reader_post_r4) (.seq (.reg false pep_reader_post_r5) (.cond (.tmp 63) (.reg false pep_reader_post_r6) .skip)))
theorem pep_reader_post_k:FnOk E 41 72 [] pep_reader_post_c:=⟨⟨Go.Proofs.Tryz.f41,by kernel_rfl,by kernel_rfl,by kernel_rfl,by kernel_rfl,by kernel_rfl⟩,rfl,rfl⟩
abbrev pep_reader_post_T (a0:Str) (a1:Int) (a2:Int) (a3:Int) (a4:Str) (a5:List Str) (a6:Int) (a7:Str) (a8:Bool) (a9:Str) (a10:Bool) (a11:Str) (a12:List Str) (r:Int × Bool × Str):CS:=⟨[],[W 0 4 [bs a0,iv r.1,iv a2,iv a3],W 1 9 [bs a4,.osl 2 0 (List.length a5) 1,.s (.int .u8 a6),bs a7,bv r.2.1,bs r.2.2,bv a10,bs a11,.osl 3 0 (List.length a12) 1],(2,.rows 1 (List.map cS a5)),(3,.rows 1 (List.map cS a12))],4⟩
noncomputable def pep_reader_post (a0:Str) (a1:Int) (a2:Int) (a3:Int) (a4:Str) (a5:List Str) (a6:Int) (a7:Str) (a8:Bool) (a9:Str) (a10:Bool) (a11:Str) (a12:List Str):Option (Int × Bool × Str):=Option.bind (if (decide ((w64 (a1 + 1)) < (List.length a0:Int)))=true then Option.bind (idx a0 a1) (fun x18=>some (x18 == 45)) else some false:Option (Bool)) (fun x17=>Option.bind (if x17=true then Option.bind (idx a0 (w64 (a1 + 1))) (fun x22=>Option.bind (scan_Is x22 1) (fun x23=>some x23)) else some false:Option (Bool)) (fun x21=>(if x21=true then Option.bind (pep_reader_digits a0 (w64 (a1 + 1)) a2 a3) (fun (x24,x25)=>some (x25,true,x24)) else Option.bind (pep_reader_word a0 a1 a2 a3 ([[112,111,115,116],[114,101,118],[114]])) (fun (x26,x27,x28)=>(if x27=true then Option.bind (pep_reader_number a0 x28 a2 a3) (fun (x29,x30)=>some (x30,true,x29)) else some (x28,a8,a9))))))
theorem pep_reader_post_ok (a0:Str) (a1:Int) (a2:Int) (a3:Int) (a4:Str) (a5:List Str) (a6:Int) (a7:Str) (a8:Bool) (a9:Str) (a10:Bool) (a11:Str) (a12:List Str):CtM E 41 [pt 0 4,pt 1 9] [W 0 4 [bs a0,iv a1,iv a2,iv a3],W 1 9 [bs a4,.osl 2 0 (List.length a5) 1,.s (.int .u8 a6),bs a7,bv a8,bs a9,bv a10,bs a11,.osl 3 0 (List.length a12) 1],(2,.rows 1 (List.map cS a5)),(3,.rows 1 (List.map cS a12))] 4 (pep_reader_post a0 a1 a2 a3 a4 a5 a6 a7 a8 a9 a10 a11 a12) (fun r:Int × Bool × Str=>.tup []) (fun r:Int × Bool × Str=>[W 0 4 [bs a0,iv r.1,iv a2,iv a3],W 1 9 [bs a4,.osl 2 0 (List.length a5) 1,.s (.int .u8 a6),bs a7,bv r.2.1,bs r.2.2,bv a10,bs a11,.osl 3 0 (List.length a12) 1],(2,.rows 1 (List.map cS a5)),(3,.rows 1 (List.map cS a12))]) 4:=ctm_intro (N:=72) (L:=pep_reader_post_c) pep_reader_post_k rfl (Nat.le_of_ble_eq_true rfl) (fun F hF=>by
 unfold pep_reader_post
 refine jc_seq ?_
 refine jR ?_
 refine jG 0 12 ⟨[V 0 (pt 0 4),V 1 (pt 1 9),V 17 (bv (decide ((w64 (a1 + 1)) < (List.length a0:Int))))],[W 0 4 [bs a0,iv a1,iv a2,iv a3],W 1 9 [bs a4,.osl 2 0 (List.length a5) 1,.s (.int .u8 a6),bs a7,bv a8,bs a9,bv a10,bs a11,.osl 3 0 (List.length a12) 1],(2,.rows 1 (List.map cS a5)),(3,.rows 1 (List.map cS a12))],4⟩ ?_
 refine jr_bind 12 11 (fun x17=>⟨[V 0 (pt 0 4),V 1 (pt 1 9),V 28 (bv x17)],[W 0 4 [bs a0,iv a1,iv a2,iv a3],W 1 9 [bs a4,.osl 2 0 (List.length a5) 1,.s (.int .u8 a6),bs a7,bv a8,bs a9,bv a10,bs a11,.osl 3 0 (List.length a12) 1],(2,.rows 1 (List.map cS a5)),(3,.rows 1 (List.map cS a12))],4⟩) ?_ ?_
 ·refine jSp 17 ?_ ?_
  ·refine jG 0 8 ⟨[V 0 (pt 0 4),V 1 (pt 1 9),(17,.lit true),V 21 (bs a0),V 25 (iv a1)],[W 0 4 [bs a0,iv a1,iv a2,iv a3],W 1 9 [bs a4,.osl 2 0 (List.length a5) 1,.s (.int .u8 a6),bs a7,bv a8,bs a9,bv a10,bs a11,.osl 3 0 (List.length a12) 1],(2,.rows 1 (List.map cS a5)),(3,.rows 1 (List.map cS a12))],4⟩ ?_
   refine jr_part (i:=8) (mo:=idx a0 a1) rfl rfl rfl rfl (fun _ hc=>aop_index (kk:=.i64) (by kernel_rfl) (by kernel_rfl) (by kernel_rfl) hc) (fun _=>rfl) ?_
   intro x18 h18
   refine jG 9 2 ⟨[V 0 (pt 0 4),V 1 (pt 1 9),V 28 (bv (x18 == 45))],[W 0 4 [bs a0,iv a1,iv a2,iv a3],W 1 9 [bs a4,.osl 2 0 (List.length a5) 1,.s (.int .u8 a6),bs a7,bv a8,bs a9,bv a10,bs a11,.osl 3 0 (List.length a12) 1],(2,.rows 1 (List.map cS a5)),(3,.rows 1 (List.map cS a12))],4⟩ ?_
   refine jr_nil rfl ?_
   exact jx_mid rfl (wkR [(0,some 0),(1,some 1),(2,some 2),(3,some 3)] (fix_of hF (k:=4) rfl) (pc (hC 0) (pc (hC 1) (pc (hL 2 (noid_map ni_S _)) (pc (hL 3 (noid_map ni_S _)) allp_nil)))))
  refine jG 0 11 ⟨[V 0 (pt 0 4),V 1 (pt 1 9),V 28 (bv false)],[W 0 4 [bs a0,iv a1,iv a2,iv a3],W 1 9 [bs a4,.osl 2 0 (List.length a5) 1,.s (.int .u8 a6),bs a7,bv a8,bs a9,bv a10,bs a11,.osl 3 0 (List.length a12) 1],(2,.rows 1 (List.map cS a5)),(3,.rows 1 (List.map cS a12))],4⟩ ?_
  refine jr_nil rfl ?_
  exact jx_mid rfl (wkR [(0,some 0),(1,some 1),(2,some 2),(3,some 3)] (fix_of hF (k:=4) rfl) (pc (hC 0) (pc (hC 1) (pc (hL 2 (noid_map ni_S _)) (pc (hL 3 (noid_map ni_S _)) allp_nil)))))
 intro x17
 refine jG 23 1 ⟨[V 0 (pt 0 4),V 1 (pt 1 9),V 29 (bv x17)],[W 0 4 [bs a0,iv a1,iv a2,iv a3],W 1 9 [bs a4,.osl 2 0 (List.length a5) 1,.s (.int .u8 a6),bs a7,bv a8,bs a9,bv a10,bs a11,.osl 3 0 (List.length a12) 1],(2,.rows 1 (List.map cS a5)),(3,.rows 1 (List.map cS a12))],4⟩ ?_
 refine jr_bind 24 12 (fun x21=>⟨[V 0 (pt 0 4),V 1 (pt 1 9),V 41 (bv x21)],[W 0 4 [bs a0,iv a1,iv a2,iv a3],W 1 9 [bs a4,.osl 2 0 (List.length a5) 1,.s (.int .u8 a6),bs a7,bv a8,bs a9,bv a10,bs a11,.osl 3 0 (List.length a12) 1],(2,.rows 1 (List.map cS a5)),(3,.rows 1 (List.map cS a12))],4⟩) ?_ ?_
 ·refine jSp 29 ?_ ?_
  ·refine jG 0 9 ⟨[V 0 (pt 0 4),V 1 (pt 1 9),(29,.lit true),V 33 (bs a0),V 38 (iv (w64 (a1 + 1)))],[W 0 4 [bs a0,iv a1,iv a2,iv a3],W 1 9 [bs a4,.osl 2 0 (List.length a5) 1,.s (.int .u8 a6),bs a7,bv a8,bs a9,bv a10,bs a11,.osl 3 0 (List.length a12) 1],(2,.rows 1 (List.map cS a5)),(3,.rows 1 (List.map cS a12))],4⟩ ?_
   refine jr_part (i:=9) (mo:=idx a0 (w64 (a1 + 1))) rfl rfl rfl rfl (fun _ hc=>aop_index (kk:=.i64) (by kernel_rfl) (by kernel_rfl) (by kernel_rfl) hc) (fun _=>rfl) ?_
   intro x22 h22
   refine jK 10 (scan_Is_ok x22 1) ?_
   intro x23 h23
   refine jG 11 1 ⟨[V 0 (pt 0 4),V 1 (pt 1 9),V 41 (bv x23)],[W 0 4 [bs a0,iv a1,iv a2,iv a3],W 1 9 [bs a4,.osl 2 0 (List.length a5) 1,.s (.int .u8 a6),bs a7,bv a8,bs a9,bv a10,bs a11,.osl 3 0 (List.length a12) 1],(2,.rows 1 (List.map cS a5)),(3,.rows 1 (List.map cS a12))],4⟩ ?_
   refine jr_nil rfl ?_
   exact jx_mid rfl (wkR [(0,some 0),(1,some 1),(2,some 2),(3,some 3)] (fix_of hF (k:=4) rfl) (pc (hC 0) (pc (hC 1) (pc (hL 2 (noid_map ni_S _)) (pc (hL 3 (noid_map ni_S _)) allp_nil)))))
  refine jG 0 12 ⟨[V 0 (pt 0 4),V 1 (pt 1 9),V 41 (bv false)],[W 0 4 [bs a0,iv a1,iv a2,iv a3],W 1 9 [bs a4,.osl 2 0 (List.length a5) 1,.s (.int .u8 a6),bs a7,bv a8,bs a9,bv a10,bs a11,.osl 3 0 (List.length a12) 1],(2,.rows 1 (List.map cS a5)),(3,.rows 1 (List.map cS a12))],4⟩ ?_
  refine jr_nil rfl ?_
  exact jx_mid rfl (wkR [(0,some 0),(1,some 1),(2,some 2),(3,some 3)] (fix_of hF (k:=4) rfl) (pc (hC 0) (pc (hC 1) (pc (hL 2 (noid_map ni_S _)) (pc (hL 3 (noid_map ni_S _)) allp_nil)))))
 intro x21
 refine jN ?_
 refine jIf ?_ ?_
 ·refine jS ⟨[V 0 (pt 0 4),V 1 (pt 1 9)],[W 0 4 [bs a0,iv (w64 (a1 + 1)),iv a2,iv a3],W 1 9 [bs a4,.osl 2 0 (List.length a5) 1,.s (.int .u8 a6),bs a7,bv a8,bs a9,bv a10,bs a11,.osl 3 0 (List.length a12) 1],(2,.rows 1 (List.map cS a5)),(3,.rows 1 (List.map cS a12))],4⟩ ?_
  refine jR ?_
  refine jG 0 3 ⟨[V 49 (pt 1 9),V 50 (pt 1 9),V 51 (pt 0 4)],[W 0 4 [bs a0,iv (w64 (a1 + 1)),iv a2,iv a3],W 1 9 [bs a4,.osl 2 0 (List.length a5) 1,.s (.int .u8 a6),bs a7,bv a8,bs a9,bv a10,bs a11,.osl 3 0 (List.length a12) 1],(2,.rows 1 (List.map cS a5)),(3,.rows 1 (List.map cS a12))],4⟩ ?_
  refine jr_callM 3 [(0,some 0)] [(0,some 0)] (fun r:Str × Int=>[W 0 4 [bs a0,iv r.2,iv a2,iv a3],W 1 9 [bs a4,.osl 2 0 (List.length a5) 1,.s (.int .u8 a6),bs a7,bv a8,bs a9,bv a10,bs a11,.osl 3 0 (List.length a12) 1],(2,.rows 1 (List.map cS a5)),(3,.rows 1 (List.map cS a12))]) (fun r:Str × Int=>bs r.1) 4 (pep_reader_digits_ok a0 (w64 (a1 + 1)) a2 a3) (pc (hC 0) allp_nil) (fun r=>(pc (.inr (hC 0)) (pc (.inl ⟨rfl,rfl⟩) (pc (.inl ⟨rfl,rfl⟩) (pc (.inl ⟨rfl,rfl⟩) allp_nil))))) ?_
  rintro⟨x24,x25⟩ hm4
  refine jG 4 6 ⟨[],[W 0 4 [bs a0,iv x25,iv a2,iv a3],W 1 9 [bs a4,.osl 2 0 (List.length a5) 1,.s (.int .u8 a6),bs a7,bv true,bs x24,bv a10,bs a11,.osl 3 0 (List.length a12) 1],(2,.rows 1 (List.map cS a5)),(3,.rows 1 (List.map cS a12))],4⟩ ?_
  refine jN ?_
  refine jc_ret ?_
  refine jx_seqR ?_
  exact jx_retM (pep_reader_post_T a0 a1 a2 a3 a4 a5 a6 a7 a8 a9 a10 a11 a12 (x25,true,x24)) (.inr rfl) (wkR [(0,some 0),(1,some 1),(2,some 2),(3,some 3)] (fix_of hF (k:=4) rfl) (pc (hC 0) (pc (hC 1) (pc (hL 2 (noid_map ni_S _)) (pc (hL 3 (noid_map ni_S _)) allp_nil)))))
 refine jc_skip ?_
 refine jx_seqN ?_
 refine jR ?_
 refine jG 0 2 ⟨[V 0 (pt 0 4),V 1 (pt 1 9),V 58 (pt 0 4),V 59 (.osl 4 0 (List.length ([[112,111,115,116],[114,101,118],[114]])) 1)],[W 0 4 [bs a0,iv a1,iv a2,iv a3],W 1 9 [bs a4,.osl 2 0 (List.length a5) 1,.s (.int .u8 a6),bs a7,bv a8,bs a9,bv a10,bs a11,.osl 3 0 (List.length a12) 1],(2,.rows 1 (List.map cS a5)),(3,.rows 1 (List.map cS a12)),(4,.rows 1 (List.map cS ([[112,111,115,116],[114,101,118],[114]])))],5⟩ ?_
 refine jr_callM 2 [(0,some 0),(1,some 4)] [(0,some 0),(4,some 1)] (fun r:Str × Bool × Int=>[W 0 4 [bs a0,iv r.2.2,iv a2,iv a3],W 1 9 [bs a4,.osl 2 0 (List.length a5) 1,.s (.int .u8 a6),bs a7,bv a8,bs a9,bv a10,bs a11,.osl 3 0 (List.length a12) 1],(2,.rows 1 (List.map cS a5)),(3,.rows 1 (List.map cS a12)),(4,.rows 1 (List.map cS ([[112,111,115,116],[114,101,118],[114]])))]) (fun r:Str × Bool × Int=>.tup [bs r.1,bv r.2.1]) 7 (pep_reader_word_ok a0 a1 a2 a3 ([[112,111,115,116],[114,101,118],[114]])) (pc (hC 0) (pc (hL 4 (noid_map ni_S _)) allp_nil)) (fun r=>(pc (.inr (hC 0)) (pc (.inl ⟨rfl,rfl⟩) (pc (.inl ⟨rfl,rfl⟩) (pc (.inl ⟨rfl,rfl⟩) (pc (.inr (hL 1 (noid_map ni_S _))) allp_nil)))))) ?_
 rintro⟨x26,x27,x28⟩ hm6
 refine jG 3 5 ⟨[V 0 (pt 0 4),V 1 (pt 1 9),V 5 (bv x27)],[W 0 4 [bs a0,iv x28,iv a2,iv a3],W 1 9 [bs a4,.osl 2 0 (List.length a5) 1,.s (.int .u8 a6),bs a7,bv a8,bs a9,bv a10,bs a11,.osl 3 0 (List.length a12) 1],(2,.rows 1 (List.map cS a5)),(3,.rows 1 (List.map cS a12))],7⟩ ?_
 refine jN ?_
 refine jS ⟨[V 0 (pt 0 4),V 1 (pt 1 9),V 63 (bv x27)],[W 0 4 [bs a0,iv x28,iv a2,iv a3],W 1 9 [bs a4,.osl 2 0 (List.length a5) 1,.s (.int .u8 a6),bs a7,bv a8,bs a9,bv a10,bs a11,.osl 3 0 (List.length a12) 1],(2,.rows 1 (List.map cS a5)),(3,.rows 1 (List.map cS a12))],7⟩ ?_
 refine jIf ?_ ?_
 ·refine jc_reg ?_
  refine jG 0 3 ⟨[V 64 (pt 1 9),V 65 (pt 1 9),V 66 (pt 0 4)],[W 0 4 [bs a0,iv x28,iv a2,iv a3],W 1 9 [bs a4,.osl 2 0 (List.length a5) 1,.s (.int .u8 a6),bs a7,bv a8,bs a9,bv a10,bs a11,.osl 3 0 (List.length a12) 1],(2,.rows 1 (List.map cS a5)),(3,.rows 1 (List.map cS a12))],7⟩ ?_
  refine jr_callM 3 [(0,some 0)] [(0,some 0)] (fun r:Str × Int=>[W 0 4 [bs a0,iv r.2,iv a2,iv a3],W 1 9 [bs a4,.osl 2 0 (List.length a5) 1,.s (.int .u8 a6),bs a7,bv a8,bs a9,bv a10,bs a11,.osl 3 0 (List.length a12) 1],(2,.rows 1 (List.map cS a5)),(3,.rows 1 (List.map cS a12))]) (fun r:Str × Int=>bs r.1) 7 (pep_reader_number_ok a0 x28 a2 a3) (pc (hC 0) allp_nil) (fun r=>(pc (.inr (hC 0)) (pc (.inl ⟨rfl,rfl⟩) (pc (.inl ⟨rfl,rfl⟩) (pc (.inl ⟨rfl,rfl⟩) allp_nil))))) ?_
  rintro⟨x29,x30⟩ hm5
  refine jG 4 6 ⟨[],[W 0 4 [bs a0,iv x30,iv a2,iv a3],W 1 9 [bs a4,.osl 2 0 (List.length a5) 1,.s (.int .u8 a6),bs a7,bv true,bs x29,bv a10,bs a11,.osl 3 0 (List.length a12) 1],(2,.rows 1 (List.map cS a5)),(3,.rows 1 (List.map cS a12))],7⟩ ?_
  refine jr_nil rfl ?_
  exact jx_retM (pep_reader_post_T a0 a1 a2 a3 a4 a5 a6 a7 a8 a9 a10 a11 a12 (x30,true,x29)) (.inl rfl) (wkR [(0,some 0),(1,some 1),(2,some 2),(3,some 3)] (fix_of hF (k:=4) rfl) (pc (hC 0) (pc (hC 1) (pc (hL 2 (noid_map ni_S _)) (pc (hL 3 (noid_map ni_S _)) allp_nil)))))
 refine jc_skip ?_
 exact jx_retM (pep_reader_post_T a0 a1 a2 a3 a4 a5 a6 a7 a8 a9 a10 a11 a12 (x28,a8,a9)) (.inl rfl) (wkR [(0,some 0),(1,some 1),(2,some 2),(3,some 3)] (fix_of hF (k:=4) rfl) (pc (hC 0) (pc (hC 1) (pc (hL 2 (noid_map ni_S _)) (pc (hL 3 (noid_map ni_S _)) allp_nil))))))
abbrev pep_Parse_r1:List LO:=[lo 2 (.alloc 24) 0,lo 3 (.alloc 27) 0]
abbrev pep_Parse_r2:List LO:=[lm 10 0 9,lo 11 (.call ⟨.builtin .len,#[.tmp 10],#[9]⟩) 3,lo 12 (.binOp .gtr 3 (.tmp 11) (.const (.int .i64 64)) 3) 4]
abbrev pep_Parse_r3:List LO:=[lo 13 (.build 24 #[]) 24,lo 14 (.build 27 #[(0,.const (.int .i64 12)),(1,.const (.int .i64 64))]) 27,ln (.store 24 (.tmp 2) (.tmp 13)) 0,ln (.store 27 (.tmp 3) (.tmp 14)) 0]
abbrev pep_Parse_r4:List LO:=[lm 15 0 9,lo 16 (.call ⟨.value (.func 35),#[.tmp 15],#[9]⟩) 9,lo 17 (.build 52 #[(0,.tmp 16)]) 52,lo 18 (.box 52 (.tmp 17)) 50,lo 4 (.assign (.tmp 18)) 50]
abbrev pep_Parse_r5:List LO:=[lm 19 4 50,lo 20 (.nilCheck (.tmp 19)) 0,lo 21 (.fieldAddr 52 (.tmp 20) 1) 0,lo 22 (.load 3 (.tmp 21)) 3,lm 23 4 50,lo 24 (.nilCheck (.tmp 23)) 0,lo 25 (.fieldAddr 52 (.tmp 24) 0) 0,lo 26 (.load 9 (.tmp 25)) 9,lo 27 (.call ⟨.builtin .len,#[.tmp 26],#[9]⟩) 3,lo 28 (.binOp .lss 3 (.tmp 22) (.tmp 27) 3) 4,lm 29 28 4,lmg 30 4 50 29 true,lg 31 (.nilCheck (.tmp 30)) 0 29 true,lg 32 (.fieldAddr 52 (.tmp 31) 0) 0 29 true,lg 33 (.load 9 (.tmp 32)) 9 29 true,lg 34 (.index 9 (.tmp 33) (.const (.int .i64 0))) 5 29 true,lg 35 (.binOp .eql 5 (.tmp 34) (.const (.int .u8 118)) 5) 4 29 true,lo 36 (.pick (.tmp 29) (.tmp 35) (.const (.bool false))) 4]
abbrev pep_Parse_r6:List LO:=[lm 37 4 50,lo 38 (.nilCheck (.tmp 37)) 0,lo 39 (.fieldAddr 52 (.tmp 38) 1) 0,lo 40 (.load 3 (.tmp 39)) 3,lo 41 (.binOp .add 3 (.tmp 40) (.const (.int .i64 1)) 3) 3,lo 42 (.nilCheck (.tmp 37)) 0,lo 43 (.fieldAddr 52 (.tmp 42) 1) 0,ln (.store 3 (.tmp 43) (.tmp 41)) 0]
abbrev pep_Parse_r7:List LO:=[lo 5 (.alloc 24) 0]
abbrev pep_Parse_r8:List LO:=[lm 44 4 50,lo 45 (.call ⟨.value (.func 36),#[.tmp 44],#[50]⟩) 9,lo 46 (.fieldAddr 24 (.tmp 5) 0) 0,ln (.store 9 (.tmp 46) (.tmp 45)) 0]
abbrev pep_Parse_r9:List LO:=[lm 47 4 50,lo 48 (.call ⟨.value (.func 37),#[.tmp 47],#[50]⟩) 22,lo 49 (.fieldAddr 24 (.tmp 5) 1) 0,ln (.store 22 (.tmp 49) (.tmp 48)) 0]
abbrev pep_Parse_r10:List LO:=[lm 51 4 50,lo 52 (.buildSlice 22 8 #[(0,.const (.string ⟨#[97,108,112,104,97]⟩)),(1,.const (.string ⟨#[97]⟩)),(2,.const (.string ⟨#[98,101,116,97]⟩)),(3,.const (.string ⟨#[98]⟩)),(4,.const (.string ⟨#[112,114,101,118,105,101,119]⟩)),(5,.const (.string ⟨#[112,114,101]⟩)),(6,.const (.string ⟨#[99]⟩)),(7,.const (.string ⟨#[114,99]⟩))]) 22,lo 53 (.call ⟨.value (.func 38),#[.tmp 51,.tmp 52],#[50,22]⟩) 55,lm 50 53 55,lo 54 (.extract (.tmp 50) 0) 9,lo 55 (.extract (.tmp 50) 1) 4,lo 6 (.assign (.tmp 54)) 9,lo 7 (.assign (.tmp 55)) 4]
abbrev pep_Parse_r11:List LO:=[lm 56 7 4]
abbrev pep_Parse_r12:List LO:=[lm 57 6 9,lo 58 (.index 9 (.tmp 57) (.const (.int .i64 0))) 5,lo 59 (.fieldAddr 24 (.tmp 5) 2) 0,ln (.store 5 (.tmp 59) (.tmp 58)) 0]
abbrev pep_Parse_r13:List LO:=[lm 60 6 9,lo 61 (.slice 9 (.tmp 60) none (some (.const (.int .i64 1))) none) 9,lo 62 (.call ⟨.value (.func 39),#[.tmp 61,.const (.string ⟨#[99,112,114]⟩)],#[9,9]⟩) 4]
abbrev pep_Parse_r14:List LO:=[lo 63 (.fieldAddr 24 (.tmp 5) 2) 0,ln (.store 5 (.tmp 63) (.const (.int .u8 114))) 0]
abbrev pep_Parse_r15:List LO:=[lm 64 4 50,lo 65 (.call ⟨.value (.func 40),#[.tmp 64],#[50]⟩) 9,lo 66 (.fieldAddr 24 (.tmp 5) 3) 0,ln (.store 9 (.tmp 66) (.tmp 65)) 0]
abbrev pep_Parse_r16:List LO:=[lm 67 4 50,lo 68 (.nilCheck (.tmp 67)) 0,lo 69 (.fieldAddr 52 (.tmp 68) 2) 0,lo 70 (.fieldAddr 27 (.tmp 69) 0) 0,lo 71 (.load 25 (.tmp 70)) 25,lo 72 (.binOp .eql 25 (.tmp 71) (.const (.int .i64 0)) 25) 4]
abbrev pep_Parse_r17:List LO:=[lm 73 4 50,lo 74 (.call ⟨.value (.func 41),#[.tmp 73,.tmp 5],#[50,58]⟩) 0]
abbrev pep_Parse_r18:List LO:=[lm 76 4 50,lo 77 (.buildSlice 22 1 #[(0,.const (.string ⟨#[100,101,118]⟩))]) 22,lo 78 (.call ⟨.value (.func 38),#[.tmp 76,.tmp 77],#[50,22]⟩) 55,lm 75 78 55,lo 79 (.extract (.tmp 75) 0) 9,lo 80 (.extract (.tmp 75) 1) 4,lo 8 (.assign (.tmp 79)) 9,lo 9 (.assign (.tmp 80)) 4]
abbrev pep_Parse_r19:List LO:=[lm 81 9 4]
abbrev pep_Parse_r20:List LO:=[lm 82 4 50,lo 83 (.call ⟨.value (.func 40),#[.tmp 82],#[50]⟩) 9,lo 84 (.fieldAddr 24 (.tmp 5) 6) 0,ln (.store 4 (.tmp 84) (.const (.bool true))) 0,lo 85 (.fieldAddr 24 (.tmp 5) 7) 0,ln (.store 9 (.tmp 85) (.tmp 83)) 0]
abbrev pep_Parse_r21:List LO:=[lm 86 4 50,lo 87 (.nilCheck (.tmp 86)) 0,lo 88 (.fieldAddr 52 (.tmp 87) 2) 0,lo 89 (.fieldAddr 27 (.tmp 88) 0) 0,lo 90 (.load 25 (.tmp 89)) 25,lo 91 (.binOp .eql 25 (.tmp 90) (.const (.int .i64 0)) 25) 4]
abbrev pep_Parse_r22:List LO:=[lm 92 4 50,lo 93 (.call ⟨.value (.func 42),#[.tmp 92],#[50]⟩) 22,lo 94 (.fieldAddr 24 (.tmp 5) 8) 0,ln (.store 22 (.tmp 94) (.tmp 93)) 0]
abbrev pep_Parse_r23:List LO:=[lm 95 4 50,lo 96 (.nilCheck (.tmp 95)) 0,lo 97 (.fieldAddr 52 (.tmp 96) 2) 0,lo 98 (.fieldAddr 27 (.tmp 97) 0) 0,lo 99 (.load 25 (.tmp 98)) 25,lo 100 (.binOp .eql 25 (.tmp 99) (.const (.int .i64 0)) 25) 4,lm 101 100 4,lmg 102 4 50 101 true,lg 103 (.nilCheck (.tmp 102)) 0 101 true,lg 104 (.fieldAddr 52 (.tmp 103) 1) 0 101 true,lg 105 (.load 3 (.tmp 104)) 3 101 true,lmg 106 4 50 101 true,lg 107 (.nilCheck (.tmp 106)) 0 101 true,lg 108 (.fieldAddr 52 (.tmp 107) 0) 0 101 true,lg 109 (.load 9 (.tmp 108)) 9 101 true,lg 110 (.call ⟨.builtin .len,#[.tmp 109],#[9]⟩) 3 101 true,lg 111 (.binOp .lss 3 (.tmp 105) (.tmp 110) 3) 4 101 true,lo 112 (.pick (.tmp 101) (.tmp 111) (.const (.bool false))) 4]
abbrev pep_Parse_r24:List LO:=[lm 113 4 50,lm 114 4 50,lo 115 (.nilCheck (.tmp 114)) 0,lo 116 (.fieldAddr 52 (.tmp 115) 1) 0,lo 117 (.load 3 (.tmp 116)) 3,lo 118 (.build 27 #[(0,.const (.int .i64 10)),(1,.tmp 117)]) 27,lo 119 (.nilCheck (.tmp 113)) 0,lo 120 (.fieldAddr 52 (.tmp 119) 2) 0,ln (.store 27 (.tmp 120) (.tmp 118)) 0]
abbrev pep_Parse_r25:List LO:=[lm 121 4 50,lo 122 (.nilCheck (.tmp 121)) 0,lo 123 (.fieldAddr 52 (.tmp 122) 2) 0,lo 124 (.fieldAddr 27 (.tmp 123) 0) 0,lo 125 (.load 25 (.tmp 124)) 25,lo 126 (.binOp .neq 25 (.tmp 125) (.const (.int .i64 0)) 25) 4]
abbrev pep_Parse_r26:List LO:=[lo 127 (.build 24 #[]) 24,lm 128 4 50,lo 129 (.nilCheck (.tmp 128)) 0,lo 130 (.fieldAddr 52 (.tmp 129) 2) 0,lo 131 (.load 27 (.tmp 130)) 27,ln (.store 24 (.tmp 2) (.tmp 127)) 0,ln (.store 27 (.tmp 3) (.tmp 131)) 0]
abbrev pep_Parse_r27:List LO:=[lo 132 (.load 24 (.tmp 5)) 24,lo 133 (.build 27 #[]) 27,ln (.store 24 (.tmp 2) (.tmp 132)) 0,ln (.store 27 (.tmp 3) (.tmp 133)) 0]
noncomputable abbrev pep_Parse_c:LC:=.seq (.reg false pep_Parse_r1) (.seq (.seq (.reg false pep_Parse_r2) (.cond (.tmp 12) (.seq (.reg false pep_Parse_r3) .ret) .skip)) (.seq (.reg false pep_Parse_r4) (.seq (.seq (.reg true pep_Parse_r5) (.cond (.tmp 36) (.reg false pep_Parse_r6) .skip)) (.seq (.reg false pep_Parse_r7) (.seq (.reg false pep_Parse_r8) (.seq (.reg false pep_Parse_r9) (.seq (.seq (.reg false pep_Parse_r10) (.seq (.reg false pep_Parse_r11) (.cond (.tmp 56) (.seq (.reg false pep_Parse_r12) (.seq (.seq (.reg false pep_Parse_r13) (.cond (.tmp 62) (.reg false pep_Parse_r14) .skip)) (.reg false pep_Parse_r15))) .skip))) (.seq (.seq (.reg false pep_Parse_r16) (.cond (.tmp 72) (.reg false pep_Parse_r17) .skip)) (.seq (.seq (.reg false pep_Parse_r18) (.seq (.reg false pep_Parse_r19) (.cond (.tmp 81) (.reg false pep_Parse_r20) .skip))) (.seq (.seq (.reg false pep_Parse_r21) (.cond (.tmp 91) (.reg false pep_Parse_r22) .skip)) (.seq (.seq (.reg true pep_Parse_r23) (.cond (.tmp 112) (.reg false pep_Parse_r24) .skip)) (.seq (.seq (.reg false pep_Parse_r25) (.cond (.tmp 126) (.seq (.full (regOps (codeSub (bodyOf Go.Proofs.Tryz.f8) [1,1,1,1,1,1,1,1,1,1,1,1,0,1,0,0]))) .ret) .skip)) (.seq (.reg false pep_Parse_r27) .ret)))))))))))))
theorem pep_Parse_k:FnOk E 8 134 [.cell 2 24,.cell 3 27] pep_Parse_c:=⟨⟨Go.Proofs.Tryz.f8,by kernel_rfl,by kernel_rfl,by kernel_rfl,by kernel_rfl,by kernel_rfl⟩,rfl,rfl⟩
noncomputable def pep_Parse (a0:Str):Option (S_api_Pep × S_api_Fault):=(if (decide ((List.length a0:Int) > 64))=true then some ((S_api_Pep.mk [] [] 0 [] false [] false [] []),(S_api_Fault.mk 12 64)) else Option.bind (scan_Lower a0) (fun x1=>Option.bind (Option.bind (if (decide (0 < (List.length x1:Int)))=true then Option.bind (idx x1 0) (fun x7=>some (x7 == 118)) else some false:Option (Bool)) (fun x6=>(if x6=true then some (w64 (0 + 1)) else some 0)):Option (Int)) (fun x4=>Option.bind (pep_reader_epoch x1 x4 0 0) (fun (x8,x9)=>Option.bind (pep_reader_release x1 x9 0 0) (fun (x10,x11,x12,x13)=>Option.bind (Option.bind (pep_reader_word x1 x11 x12 x13 ([[97,108,112,104,97],[97],[98,101,116,97],[98],[112,114,101,118,105,101,119],[112,114,101],[99],[114,99]])) (fun (x26,x27,x28)=>(if x27=true then Option.bind (idx x26 0) (fun x29=>Option.bind (Option.bind (subl x26 0 1) (fun x33=>Option.bind (strings_ContainsAny x33 [99,112,114]) (fun x34=>(if x34=true then some 114 else some x29))):Option (Int)) (fun x32=>Option.bind (pep_reader_number x1 x28 x12 x13) (fun (x35,x36)=>some (x36,x32,x35)))) else some (x28,0,[]))):Option (Int × Int × Str)) (fun (x23,x24,x25)=>Option.bind ((if (x12 == 0)=true then Option.bind (pep_reader_post x1 x23 x12 x13 x8 x10 x24 x25 false [] false [] ([]:List Str)) (fun (x44,x45,x46)=>some (x44,x45,x46,([]:List Str))) else some (x23,false,[],[])):Option (Int × Bool × Str × List Str)) (fun (x40,x41,x42,x43)=>Option.bind (Option.bind (pep_reader_word x1 x40 x12 x13 ([[100,101,118]])) (fun (x55,x56,x57)=>(if x56=true then Option.bind (pep_reader_number x1 x57 x12 x13) (fun (x58,x59)=>some (x59,true,x58)) else some (x57,false,[]))):Option (Int × Bool × Str)) (fun (x52,x53,x54)=>Option.bind ((if (x12 == 0)=true then Option.bind (pep_reader_local x1 x52 x12 x13) (fun (x68,x69,x70,x71)=>some (x69,x70,x71,x68)) else some (x52,x12,x13,x43)):Option (Int × Int × Int × List Str)) (fun (x64,x65,x66,x67)=>Option.bind ((if ((x65 == 0) && (decide (x64 < (List.length x1:Int))))=true then some (10,x64) else some (x65,x66)):Option (Int × Int)) (fun (x72,x73)=>(if (x72 != 0)=true then some ((S_api_Pep.mk [] [] 0 [] false [] false [] []),(S_api_Fault.mk x72 x73)) else some ((S_api_Pep.mk x8 x10 x24 x25 x41 x42 x53 x54 x67),(S_api_Fault.mk 0 0)))))))))))))
theorem pep_Parse_ok (a0:Str):Ct E 8 [bs a0] (pep_Parse a0) (fun r:S_api_Pep × S_api_Fault=>.tup [.agg [bs r.1.Epoch,.fsl 1 (List.map cS r.1.Release),.s (.int .u8 r.1.Pre),bs r.1.PreNum,bv r.1.Post,bs r.1.PostNum,bv r.1.Dev,bs r.1.DevNum,.fsl 1 (List.map cS r.1.Local)],.agg [iv r.2.Err,iv r.2.At]]):=ct_intro (N:=134) (L:=pep_Parse_c) pep_Parse_k rfl (Nat.le_of_ble_eq_true rfl) (by kernel_rfl) (by
 unfold pep_Parse
 refine jS ⟨[V 0 (bs a0),V 2 (pt 0 9),V 3 (pt 1 2)],[W 0 9 [bs [],nilS,.s (.int .u8 0),bs [],bv false,bs [],bv false,bs [],nilS],W 1 2 [iv 0,iv 0]],2⟩ ?_
 refine jc_seq ?_
 refine jS ⟨[V 0 (bs a0),V 2 (pt 0 9),V 3 (pt 1 2),V 12 (bv (decide ((List.length a0:Int) > 64)))],[W 0 9 [bs [],nilS,.s (.int .u8 0),bs [],bv false,bs [],bv false,bs [],nilS],W 1 2 [iv 0,iv 0]],2⟩ ?_
 refine jIf ?_ ?_
 ·refine jS ⟨[V 2 (pt 0 9),V 3 (pt 1 2)],[W 0 9 [bs [],nilS,.s (.int .u8 0),bs [],bv false,bs [],bv false,bs [],nilS],W 1 2 [iv 12,iv 64]],2⟩ ?_
  refine jc_ret ?_
  refine jx_seqR ?_
  exact jx_retF (.inr rfl) (v:=.tup [.agg [bs [],nilS,.s (.int .u8 0),bs [],bv false,bs [],bv false,bs [],nilS],.agg [iv 12,iv 64]]) (by kernel_rfl) (snapc_tup (snapL_cons (snapc_agg (snapL_cons rfl (snapL_cons rfl (snapL_cons rfl (snapL_cons rfl (snapL_cons rfl (snapL_cons rfl (snapL_cons rfl (snapL_cons rfl (snapL_cons rfl (snapL_nil _))))))))))) (snapL_cons rfl (snapL_nil _)))) (fle_tup (all2_cons (fle_agg (all2_cons (fle_refl _) (all2_cons (fle_nil _) (all2_cons (fle_refl _) (all2_cons (fle_refl _) (all2_cons (fle_refl _) (all2_cons (fle_refl _) (all2_cons (fle_refl _) (all2_cons (fle_refl _) (all2_cons (fle_nil _) all2_nil)))))))))) (all2_cons (fle_refl _) all2_nil)))
 refine jc_skip ?_
 refine jx_seqN ?_
 refine jR ?_
 refine jG 0 1 ⟨[V 2 (pt 0 9),V 3 (pt 1 2),V 15 (bs a0)],[W 0 9 [bs [],nilS,.s (.int .u8 0),bs [],bv false,bs [],bv false,bs [],nilS],W 1 2 [iv 0,iv 0]],2⟩ ?_
 refine jK 1 (scan_Lower_ok a0) ?_
 intro x1 h1
 refine jG 2 3 ⟨[V 2 (pt 0 9),V 3 (pt 1 2),V 4 (pt 2 4)],[W 0 9 [bs [],nilS,.s (.int .u8 0),bs [],bv false,bs [],bv false,bs [],nilS],W 1 2 [iv 0,iv 0],W 2 4 [bs x1,iv 0,iv 0,iv 0]],3⟩ ?_
 refine jN ?_
 refine jc_seq ?_
 refine jc_bind (fun x4=>⟨[V 2 (pt 0 9),V 3 (pt 1 2),V 4 (pt 2 4)],[W 0 9 [bs [],nilS,.s (.int .u8 0),bs [],bv false,bs [],bv false,bs [],nilS],W 1 2 [iv 0,iv 0],W 2 4 [bs x1,iv x4,iv 0,iv 0]],3⟩) (fun x4=>.normal) ?_ ?_
 ·refine jR ?_
  refine jG 0 11 ⟨[V 2 (pt 0 9),V 3 (pt 1 2),V 4 (pt 2 4),V 29 (bv (decide (0 < (List.length x1:Int))))],[W 0 9 [bs [],nilS,.s (.int .u8 0),bs [],bv false,bs [],bv false,bs [],nilS],W 1 2 [iv 0,iv 0],W 2 4 [bs x1,iv 0,iv 0,iv 0]],3⟩ ?_
  refine jr_bind 11 7 (fun x6=>⟨[V 2 (pt 0 9),V 3 (pt 1 2),V 4 (pt 2 4),V 36 (bv x6)],[W 0 9 [bs [],nilS,.s (.int .u8 0),bs [],bv false,bs [],bv false,bs [],nilS],W 1 2 [iv 0,iv 0],W 2 4 [bs x1,iv 0,iv 0,iv 0]],3⟩) ?_ ?_
  ·refine jSp 29 ?_ ?_
   ·refine jG 0 4 ⟨[V 2 (pt 0 9),V 3 (pt 1 2),V 4 (pt 2 4),(29,.lit true),V 33 (bs x1)],[W 0 9 [bs [],nilS,.s (.int .u8 0),bs [],bv false,bs [],bv false,bs [],nilS],W 1 2 [iv 0,iv 0],W 2 4 [bs x1,iv 0,iv 0,iv 0]],3⟩ ?_
    refine jr_part (i:=4) (mo:=idx x1 0) rfl rfl rfl rfl (fun _ hc=>aop_index (kk:=.i64) (by kernel_rfl) (by kernel_rfl) (by kernel_rfl) hc) (fun _=>rfl) ?_
    intro x7 h7
    refine jG 5 2 ⟨[V 2 (pt 0 9),V 3 (pt 1 2),V 4 (pt 2 4),V 36 (bv (x7 == 118))],[W 0 9 [bs [],nilS,.s (.int .u8 0),bs [],bv false,bs [],bv false,bs [],nilS],W 1 2 [iv 0,iv 0],W 2 4 [bs x1,iv 0,iv 0,iv 0]],3⟩ ?_
    refine jr_nil rfl ?_
    exact jx_mid rfl (wkR [(0,some 0),(1,some 1),(2,some 2)] (fix_nil _) (pc (hC 0) (pc (hC 1) (pc (hC 2) allp_nil))))
   refine jG 0 7 ⟨[V 2 (pt 0 9),V 3 (pt 1 2),V 4 (pt 2 4),V 36 (bv false)],[W 0 9 [bs [],nilS,.s (.int .u8 0),bs [],bv false,bs [],bv false,bs [],nilS],W 1 2 [iv 0,iv 0],W 2 4 [bs x1,iv 0,iv 0,iv 0]],3⟩ ?_
   refine jr_nil rfl ?_
   exact jx_mid rfl (wkR [(0,some 0),(1,some 1),(2,some 2)] (fix_nil _) (pc (hC 0) (pc (hC 1) (pc (hC 2) allp_nil))))
  intro x6
  refine jN ?_
  refine jIf ?_ ?_
  ·refine jT ⟨[V 2 (pt 0 9),V 3 (pt 1 2),V 4 (pt 2 4)],[W 0 9 [bs [],nilS,.s (.int .u8 0),bs [],bv false,bs [],bv false,bs [],nilS],W 1 2 [iv 0,iv 0],W 2 4 [bs x1,iv (w64 (0 + 1)),iv 0,iv 0]],3⟩ ?_
   exact jx_mid rfl (wkR [(0,some 0),(1,some 1),(2,some 2)] (fix_nil _) (pc (hC 0) (pc (hC 1) (pc (hC 2) allp_nil))))
  refine jc_skip ?_
  exact jx_mid rfl (wkR [(0,some 0),(1,some 1),(2,some 2)] (fix_nil _) (pc (hC 0) (pc (hC 1) (pc (hC 2) allp_nil))))
 intro x4
 refine jx_seqN ?_
 refine jS ⟨[V 2 (pt 0 9),V 3 (pt 1 2),V 4 (pt 2 4),V 5 (pt 3 9)],[W 0 9 [bs [],nilS,.s (.int .u8 0),bs [],bv false,bs [],bv false,bs [],nilS],W 1 2 [iv 0,iv 0],W 2 4 [bs x1,iv x4,iv 0,iv 0],W 3 9 [bs [],nilS,.s (.int .u8 0),bs [],bv false,bs [],bv false,bs [],nilS]],4⟩ ?_
 refine jR ?_
 refine jG 0 1 ⟨[V 2 (pt 0 9),V 3 (pt 1 2),V 4 (pt 2 4),V 5 (pt 3 9),V 44 (pt 2 4)],[W 0 9 [bs [],nilS,.s (.int .u8 0),bs [],bv false,bs [],bv false,bs [],nilS],W 1 2 [iv 0,iv 0],W 2 4 [bs x1,iv x4,iv 0,iv 0],W 3 9 [bs [],nilS,.s (.int .u8 0),bs [],bv false,bs [],bv false,bs [],nilS]],4⟩ ?_
 refine jr_callM 1 [(0,some 2)] [(2,some 0)] (fun r:Str × Int=>[W 0 9 [bs [],nilS,.s (.int .u8 0),bs [],bv false,bs [],bv false,bs [],nilS],W 1 2 [iv 0,iv 0],W 2 4 [bs x1,iv r.2,iv 0,iv 0],W 3 9 [bs [],nilS,.s (.int .u8 0),bs [],bv false,bs [],bv false,bs [],nilS]]) (fun r:Str × Int=>bs r.1) 4 (pep_reader_epoch_ok x1 x4 0 0) (pc (hC 2) allp_nil) (fun r=>(pc (.inl ⟨rfl,rfl⟩) (pc (.inl ⟨rfl,rfl⟩) (pc (.inr (hC 0)) (pc (.inl ⟨rfl,rfl⟩) allp_nil))))) ?_
 rintro⟨x8,x9⟩ hm14
 refine jG 2 2 ⟨[V 2 (pt 0 9),V 3 (pt 1 2),V 4 (pt 2 4),V 5 (pt 3 9)],[W 0 9 [bs [],nilS,.s (.int .u8 0),bs [],bv false,bs [],bv false,bs [],nilS],W 1 2 [iv 0,iv 0],W 2 4 [bs x1,iv x9,iv 0,iv 0],W 3 9 [bs x8,nilS,.s (.int .u8 0),bs [],bv false,bs [],bv false,bs [],nilS]],4⟩ ?_
 refine jN ?_
 refine jR ?_
 refine jG 0 1 ⟨[V 2 (pt 0 9),V 3 (pt 1 2),V 4 (pt 2 4),V 5 (pt 3 9),V 47 (pt 2 4)],[W 0 9 [bs [],nilS,.s (.int .u8 0),bs [],bv false,bs [],bv false,bs [],nilS],W 1 2 [iv 0,iv 0],W 2 4 [bs x1,iv x9,iv 0,iv 0],W 3 9 [bs x8,nilS,.s (.int .u8 0),bs [],bv false,bs [],bv false,bs [],nilS]],4⟩ ?_
 refine jr_callM 1 [(0,some 2)] [(2,some 0),(4,some 1)] (fun r:List Str × Int × Int × Int=>[W 0 9 [bs [],nilS,.s (.int .u8 0),bs [],bv false,bs [],bv false,bs [],nilS],W 1 2 [iv 0,iv 0],W 2 4 [bs x1,iv r.2.1,iv r.2.2.1,iv r.2.2.2],W 3 9 [bs x8,nilS,.s (.int .u8 0),bs [],bv false,bs [],bv false,bs [],nilS],(4,.rows 1 (List.map cS r.1))]) (fun r:List Str × Int × Int × Int=>.osl 4 0 (List.length r.1) 1) 5 (pep_reader_release_ok x1 x9 0 0) (pc (hC 2) allp_nil) (fun r=>(pc (.inl ⟨rfl,rfl⟩) (pc (.inl ⟨rfl,rfl⟩) (pc (.inr (hC 0)) (pc (.inl ⟨rfl,rfl⟩) (pc (.inr (hL 1 (noid_map ni_S _))) allp_nil)))))) ?_
 rintro⟨x10,x11,x12,x13⟩ hm13
 refine jG 2 2 ⟨[V 2 (pt 0 9),V 3 (pt 1 2),V 4 (pt 2 4),V 5 (pt 3 9)],[W 0 9 [bs [],nilS,.s (.int .u8 0),bs [],bv false,bs [],bv false,bs [],nilS],W 1 2 [iv 0,iv 0],W 2 4 [bs x1,iv x11,iv x12,iv x13],W 3 9 [bs x8,.osl 4 0 (List.length x10) 1,.s (.int .u8 0),bs [],bv false,bs [],bv false,bs [],nilS],(4,.rows 1 (List.map cS x10))],5⟩ ?_
 refine jN ?_
 refine jc_seq ?_
 refine jc_bind (fun (x23,x24,x25)=>⟨[V 2 (pt 0 9),V 3 (pt 1 2),V 4 (pt 2 4),V 5 (pt 3 9)],[W 0 9 [bs [],nilS,.s (.int .u8 0),bs [],bv false,bs [],bv false,bs [],nilS],W 1 2 [iv 0,iv 0],W 2 4 [bs x1,iv x23,iv x12,iv x13],W 3 9 [bs x8,.osl 4 0 (List.length x10) 1,.s (.int .u8 x24),bs x25,bv false,bs [],bv false,bs [],nilS],(4,.rows 1 (List.map cS x10))],5⟩) (fun (x23,x24,x25)=>.normal) ?_ ?_
 ·refine jR ?_
  refine jG 0 2 ⟨[V 2 (pt 0 9),V 3 (pt 1 2),V 4 (pt 2 4),V 5 (pt 3 9),V 51 (pt 2 4),V 52 (.osl 5 0 (List.length ([[97,108,112,104,97],[97],[98,101,116,97],[98],[112,114,101,118,105,101,119],[112,114,101],[99],[114,99]])) 1)],[W 0 9 [bs [],nilS,.s (.int .u8 0),bs [],bv false,bs [],bv false,bs [],nilS],W 1 2 [iv 0,iv 0],W 2 4 [bs x1,iv x11,iv x12,iv x13],W 3 9 [bs x8,.osl 4 0 (List.length x10) 1,.s (.int .u8 0),bs [],bv false,bs [],bv false,bs [],nilS],(4,.rows 1 (List.map cS x10)),(5,.rows 1 (List.map cS ([[97,108,112,104,97],[97],[98,101,116,97],[98],[112,114,101,118,105,101,119],[112,114,101],[99],[114,99]])))],6⟩ ?_
  refine jr_callM 2 [(0,some 2),(1,some 5)] [(2,some 0),(5,some 1)] (fun r:Str × Bool × Int=>[W 0 9 [bs [],nilS,.s (.int .u8 0),bs [],bv false,bs [],bv false,bs [],nilS],W 1 2 [iv 0,iv 0],W 2 4 [bs x1,iv r.2.2,iv x12,iv x13],W 3 9 [bs x8,.osl 4 0 (List.length x10) 1,.s (.int .u8 0),bs [],bv false,bs [],bv false,bs [],nilS],(4,.rows 1 (List.map cS x10)),(5,.rows 1 (List.map cS ([[97,108,112,104,97],[97],[98,101,116,97],[98],[112,114,101,118,105,101,119],[112,114,101],[99],[114,99]])))]) (fun r:Str × Bool × Int=>.tup [bs r.1,bv r.2.1]) 8 (pep_reader_word_ok x1 x11 x12 x13 ([[97,108,112,104,97],[97],[98,101,116,97],[98],[112,114,101,118,105,101,119],[112,114,101],[99],[114,99]])) (pc (hC 2) (pc (hL 5 (noid_map ni_S _)) allp_nil)) (fun r=>(pc (.inl ⟨rfl,rfl⟩) (pc (.inl ⟨rfl,rfl⟩) (pc (.inr (hC 0)) (pc (.inl ⟨rfl,rfl⟩) (pc (.inl ⟨rfl,rfl⟩) (pc (.inr (hL 1 (noid_map ni_S _))) allp_nil))))))) ?_
  rintro⟨x26,x27,x28⟩ hm4
  refine jG 3 5 ⟨[V 2 (pt 0 9),V 3 (pt 1 2),V 4 (pt 2 4),V 5 (pt 3 9),V 6 (bs x26),V 7 (bv x27)],[W 0 9 [bs [],nilS,.s (.int .u8 0),bs [],bv false,bs [],bv false,bs [],nilS],W 1 2 [iv 0,iv 0],W 2 4 [bs x1,iv x28,iv x12,iv x13],W 3 9 [bs x8,.osl 4 0 (List.length x10) 1,.s (.int .u8 0),bs [],bv false,bs [],bv false,bs [],nilS],(4,.rows 1 (List.map cS x10))],8⟩ ?_
  refine jN ?_
  refine jS ⟨[V 2 (pt 0 9),V 3 (pt 1 2),V 4 (pt 2 4),V 5 (pt 3 9),V 6 (bs x26),V 56 (bv x27)],[W 0 9 [bs [],nilS,.s (.int .u8 0),bs [],bv false,bs [],bv false,bs [],nilS],W 1 2 [iv 0,iv 0],W 2 4 [bs x1,iv x28,iv x12,iv x13],W 3 9 [bs x8,.osl 4 0 (List.length x10) 1,.s (.int .u8 0),bs [],bv false,bs [],bv false,bs [],nilS],(4,.rows 1 (List.map cS x10))],8⟩ ?_
  refine jIf ?_ ?_
  ·refine jR ?_
   refine jG 0 1 ⟨[V 2 (pt 0 9),V 3 (pt 1 2),V 4 (pt 2 4),V 5 (pt 3 9),V 6 (bs x26),V 57 (bs x26)],[W 0 9 [bs [],nilS,.s (.int .u8 0),bs [],bv false,bs [],bv false,bs [],nilS],W 1 2 [iv 0,iv 0],W 2 4 [bs x1,iv x28,iv x12,iv x13],W 3 9 [bs x8,.osl 4 0 (List.length x10) 1,.s (.int .u8 0),bs [],bv false,bs [],bv false,bs [],nilS],(4,.rows 1 (List.map cS x10))],8⟩ ?_
   refine jr_part (i:=1) (mo:=idx x26 0) rfl rfl rfl rfl (fun _ hc=>aop_index (kk:=.i64) (by kernel_rfl) (by kernel_rfl) (by kernel_rfl) hc) (fun _=>rfl) ?_
   intro x29 h29
   refine jG 2 2 ⟨[V 2 (pt 0 9),V 3 (pt 1 2),V 4 (pt 2 4),V 5 (pt 3 9),V 6 (bs x26)],[W 0 9 [bs [],nilS,.s (.int .u8 0),bs [],bv false,bs [],bv false,bs [],nilS],W 1 2 [iv 0,iv 0],W 2 4 [bs x1,iv x28,iv x12,iv x13],W 3 9 [bs x8,.osl 4 0 (List.length x10) 1,.s (.int .u8 x29),bs [],bv false,bs [],bv false,bs [],nilS],(4,.rows 1 (List.map cS x10))],8⟩ ?_
   refine jN ?_
   refine jc_seq ?_
   refine jc_bind (fun x32=>⟨[V 2 (pt 0 9),V 3 (pt 1 2),V 4 (pt 2 4),V 5 (pt 3 9)],[W 0 9 [bs [],nilS,.s (.int .u8 0),bs [],bv false,bs [],bv false,bs [],nilS],W 1 2 [iv 0,iv 0],W 2 4 [bs x1,iv x28,iv x12,iv x13],W 3 9 [bs x8,.osl 4 0 (List.length x10) 1,.s (.int .u8 x32),bs [],bv false,bs [],bv false,bs [],nilS],(4,.rows 1 (List.map cS x10))],5⟩) (fun x32=>.normal) ?_ ?_
   ·refine jR ?_
    refine jG 0 1 ⟨[V 2 (pt 0 9),V 3 (pt 1 2),V 4 (pt 2 4),V 5 (pt 3 9),V 60 (bs x26)],[W 0 9 [bs [],nilS,.s (.int .u8 0),bs [],bv false,bs [],bv false,bs [],nilS],W 1 2 [iv 0,iv 0],W 2 4 [bs x1,iv x28,iv x12,iv x13],W 3 9 [bs x8,.osl 4 0 (List.length x10) 1,.s (.int .u8 x29),bs [],bv false,bs [],bv false,bs [],nilS],(4,.rows 1 (List.map cS x10))],8⟩ ?_
    refine jr_part (i:=1) (mo:=subl x26 0 1) rfl rfl rfl rfl (fun _ hc=>aop_subs (by kernel_rfl) (by kernel_rfl) (by kernel_rfl) (by kernel_rfl) hc) (fun _=>rfl) ?_
    intro x33 h33
    refine jr_callPF (i:=2) rfl rfl (vs:=[bs x33,bs [99,112,114]]) (by kernel_rfl) rfl (strings_ContainsAny_ok x33 [99,112,114]) (fun _=>rfl) ?_
    intro x34 h34
    refine jN ?_
    refine jIf ?_ ?_
    ·refine jT ⟨[V 2 (pt 0 9),V 3 (pt 1 2),V 4 (pt 2 4),V 5 (pt 3 9)],[W 0 9 [bs [],nilS,.s (.int .u8 0),bs [],bv false,bs [],bv false,bs [],nilS],W 1 2 [iv 0,iv 0],W 2 4 [bs x1,iv x28,iv x12,iv x13],W 3 9 [bs x8,.osl 4 0 (List.length x10) 1,.s (.int .u8 114),bs [],bv false,bs [],bv false,bs [],nilS],(4,.rows 1 (List.map cS x10))],8⟩ ?_
     exact jx_mid rfl (wkR [(0,some 0),(1,some 1),(2,some 2),(3,some 3),(4,some 4)] (fix_nil _) (pc (hC 0) (pc (hC 1) (pc (hC 2) (pc (hC 3) (pc (hL 4 (noid_map ni_S _)) allp_nil))))))
    refine jc_skip ?_
    exact jx_mid rfl (wkR [(0,some 0),(1,some 1),(2,some 2),(3,some 3),(4,some 4)] (fix_nil _) (pc (hC 0) (pc (hC 1) (pc (hC 2) (pc (hC 3) (pc (hL 4 (noid_map ni_S _)) allp_nil))))))
   intro x32
   refine jx_seqN ?_
   refine jc_reg ?_
   refine jG 0 1 ⟨[V 2 (pt 0 9),V 3 (pt 1 2),V 4 (pt 2 4),V 5 (pt 3 9),V 64 (pt 2 4)],[W 0 9 [bs [],nilS,.s (.int .u8 0),bs [],bv false,bs [],bv false,bs [],nilS],W 1 2 [iv 0,iv 0],W 2 4 [bs x1,iv x28,iv x12,iv x13],W 3 9 [bs x8,.osl 4 0 (List.length x10) 1,.s (.int .u8 x32),bs [],bv false,bs [],bv false,bs [],nilS],(4,.rows 1 (List.map cS x10))],5⟩ ?_
   refine jr_callM 1 [(0,some 2)] [(2,some 0)] (fun r:Str × Int=>[W 0 9 [bs [],nilS,.s (.int .u8 0),bs [],bv false,bs [],bv false,bs [],nilS],W 1 2 [iv 0,iv 0],W 2 4 [bs x1,iv r.2,iv x12,iv x13],W 3 9 [bs x8,.osl 4 0 (List.length x10) 1,.s (.int .u8 x32),bs [],bv false,bs [],bv false,bs [],nilS],(4,.rows 1 (List.map cS x10))]) (fun r:Str × Int=>bs r.1) 5 (pep_reader_number_ok x1 x28 x12 x13) (pc (hC 2) allp_nil) (fun r=>(pc (.inl ⟨rfl,rfl⟩) (pc (.inl ⟨rfl,rfl⟩) (pc (.inr (hC 0)) (pc (.inl ⟨rfl,rfl⟩) (pc (.inl ⟨rfl,rfl⟩) allp_nil)))))) ?_
   rintro⟨x35,x36⟩ hm3
   refine jG 2 2 ⟨[V 2 (pt 0 9),V 3 (pt 1 2),V 4 (pt 2 4),V 5 (pt 3 9)],[W 0 9 [bs [],nilS,.s (.int .u8 0),bs [],bv false,bs [],bv false,bs [],nilS],W 1 2 [iv 0,iv 0],W 2 4 [bs x1,iv x36,iv x12,iv x13],W 3 9 [bs x8,.osl 4 0 (List.length x10) 1,.s (.int .u8 x32),bs x35,bv false,bs [],bv false,bs [],nilS],(4,.rows 1 (List.map cS x10))],5⟩ ?_
   refine jr_nil rfl ?_
   exact jx_mid rfl (wkR [(0,some 0),(1,some 1),(2,some 2),(3,some 3),(4,some 4)] (fix_nil _) (pc (hC 0) (pc (hC 1) (pc (hC 2) (pc (hC 3) (pc (hL 4 (noid_map ni_S _)) allp_nil))))))
  refine jc_skip ?_
  exact jx_mid rfl (wkR [(0,some 0),(1,some 1),(2,some 2),(3,some 3),(4,some 4)] (fix_nil _) (pc (hC 0) (pc (hC 1) (pc (hC 2) (pc (hC 3) (pc (hL 4 (noid_map ni_S _)) allp_nil))))))
 rintro⟨x23,x24,x25⟩
 refine jx_seqN ?_
 refine jc_seq ?_
 refine jc_bind (fun (x40,x41,x42,x43)=>⟨[V 2 (pt 0 9),V 3 (pt 1 2),V 4 (pt 2 4),V 5 (pt 3 9)],[W 0 9 [bs [],nilS,.s (.int .u8 0),bs [],bv false,bs [],bv false,bs [],nilS],W 1 2 [iv 0,iv 0],W 2 4 [bs x1,iv x40,iv x12,iv x13],W 3 9 [bs x8,.osl 4 0 (List.length x10) 1,.s (.int .u8 x24),bs x25,bv x41,bs x42,bv false,bs [],.osl 5 0 (List.length x43) 1],(4,.rows 1 (List.map cS x10)),(5,.rows 1 (List.map cS x43))],6⟩) (fun (x40,x41,x42,x43)=>.normal) ?_ ?_
 ·refine jS ⟨[V 2 (pt 0 9),V 3 (pt 1 2),V 4 (pt 2 4),V 5 (pt 3 9),V 72 (bv (x12 == 0))],[W 0 9 [bs [],nilS,.s (.int .u8 0),bs [],bv false,bs [],bv false,bs [],nilS],W 1 2 [iv 0,iv 0],W 2 4 [bs x1,iv x23,iv x12,iv x13],W 3 9 [bs x8,.osl 4 0 (List.length x10) 1,.s (.int .u8 x24),bs x25,bv false,bs [],bv false,bs [],nilS],(4,.rows 1 (List.map cS x10))],5⟩ ?_
  refine jIf ?_ ?_
  ·refine jc_reg ?_
   refine jG 0 1 ⟨[V 2 (pt 0 9),V 3 (pt 1 2),V 4 (pt 2 4),V 5 (pt 3 9),V 73 (pt 2 4)],[W 0 9 [bs [],nilS,.s (.int .u8 0),bs [],bv false,bs [],bv false,bs [],nilS],W 1 2 [iv 0,iv 0],W 2 4 [bs x1,iv x23,iv x12,iv x13],W 3 9 [bs x8,.osl 4 0 (List.length x10) 1,.s (.int .u8 x24),bs x25,bv false,bs [],bv false,bs [],nilS],(4,.rows 1 (List.map cS x10))],5⟩ ?_
   refine jr_callM 1 [(0,some 2),(1,some 3),(2,some 4),(3,none)] [(2,some 0),(3,some 1),(4,some 2),(5,some 3)] (fun r:Int × Bool × Str=>[W 0 9 [bs [],nilS,.s (.int .u8 0),bs [],bv false,bs [],bv false,bs [],nilS],W 1 2 [iv 0,iv 0],W 2 4 [bs x1,iv r.1,iv x12,iv x13],W 3 9 [bs x8,.osl 4 0 (List.length x10) 1,.s (.int .u8 x24),bs x25,bv r.2.1,bs r.2.2,bv false,bs [],.osl 5 0 (List.length ([]:List Str)) 1],(4,.rows 1 (List.map cS x10)),(5,.rows 1 (List.map cS ([]:List Str)))]) (fun r:Int × Bool × Str=>.tup []) 6 (pep_reader_post_ok x1 x23 x12 x13 x8 x10 x24 x25 false [] false [] ([]:List Str)) (pc (hC 2) (pc (hC 3) (pc (hL 4 (noid_map ni_S _)) (pc hZ allp_nil)))) (fun r=>(pc (.inl ⟨rfl,rfl⟩) (pc (.inl ⟨rfl,rfl⟩) (pc (.inr (hC 0)) (pc (.inr (hC 1)) (pc (.inr (hL 2 (noid_map ni_S _))) (pc (.inr (hL 3 (noid_map ni_S _))) allp_nil))))))) ?_
   rintro⟨x44,x45,x46⟩ hm6
   refine jr_nil rfl ?_
   exact jx_mid rfl (wkR [(0,some 0),(1,some 1),(2,some 2),(3,some 3),(4,some 4),(5,some 5)] (fix_nil _) (pc (hC 0) (pc (hC 1) (pc (hC 2) (pc (hC 3) (pc (hL 4 (noid_map ni_S _)) (pc (hL 5 (noid_map ni_S _)) allp_nil)))))))
  refine jc_skip ?_
  exact jx_mid rfl (wkR [(0,some 0),(1,some 1),(2,some 2),(3,some 3),(4,some 4),(5,none)] (fix_nil _) (pc (hC 0) (pc (hC 1) (pc (hC 2) (pc (hC 3) (pc (hL 4 (noid_map ni_S _)) (pc hZ allp_nil)))))))
 rintro⟨x40,x41,x42,x43⟩
 refine jx_seqN ?_
 refine jc_seq ?_
 refine jc_bind (fun (x52,x53,x54)=>⟨[V 2 (pt 0 9),V 3 (pt 1 2),V 4 (pt 2 4),V 5 (pt 3 9)],[W 0 9 [bs [],nilS,.s (.int .u8 0),bs [],bv false,bs [],bv false,bs [],nilS],W 1 2 [iv 0,iv 0],W 2 4 [bs x1,iv x52,iv x12,iv x13],W 3 9 [bs x8,.osl 4 0 (List.length x10) 1,.s (.int .u8 x24),bs x25,bv x41,bs x42,bv x53,bs x54,.osl 5 0 (List.length x43) 1],(4,.rows 1 (List.map cS x10)),(5,.rows 1 (List.map cS x43))],6⟩) (fun (x52,x53,x54)=>.normal) ?_ ?_
 ·refine jR ?_
  refine jG 0 2 ⟨[V 2 (pt 0 9),V 3 (pt 1 2),V 4 (pt 2 4),V 5 (pt 3 9),V 76 (pt 2 4),V 77 (.osl 6 0 (List.length ([[100,101,118]])) 1)],[W 0 9 [bs [],nilS,.s (.int .u8 0),bs [],bv false,bs [],bv false,bs [],nilS],W 1 2 [iv 0,iv 0],W 2 4 [bs x1,iv x40,iv x12,iv x13],W 3 9 [bs x8,.osl 4 0 (List.length x10) 1,.s (.int .u8 x24),bs x25,bv x41,bs x42,bv false,bs [],.osl 5 0 (List.length x43) 1],(4,.rows 1 (List.map cS x10)),(5,.rows 1 (List.map cS x43)),(6,.rows 1 (List.map cS ([[100,101,118]])))],7⟩ ?_
  refine jr_callM 2 [(0,some 2),(1,some 6)] [(2,some 0),(6,some 1)] (fun r:Str × Bool × Int=>[W 0 9 [bs [],nilS,.s (.int .u8 0),bs [],bv false,bs [],bv false,bs [],nilS],W 1 2 [iv 0,iv 0],W 2 4 [bs x1,iv r.2.2,iv x12,iv x13],W 3 9 [bs x8,.osl 4 0 (List.length x10) 1,.s (.int .u8 x24),bs x25,bv x41,bs x42,bv false,bs [],.osl 5 0 (List.length x43) 1],(4,.rows 1 (List.map cS x10)),(5,.rows 1 (List.map cS x43)),(6,.rows 1 (List.map cS ([[100,101,118]])))]) (fun r:Str × Bool × Int=>.tup [bs r.1,bv r.2.1]) 9 (pep_reader_word_ok x1 x40 x12 x13 ([[100,101,118]])) (pc (hC 2) (pc (hL 6 (noid_map ni_S _)) allp_nil)) (fun r=>(pc (.inl ⟨rfl,rfl⟩) (pc (.inl ⟨rfl,rfl⟩) (pc (.inr (hC 0)) (pc (.inl ⟨rfl,rfl⟩) (pc (.inl ⟨rfl,rfl⟩) (pc (.inl ⟨rfl,rfl⟩) (pc (.inr (hL 1 (noid_map ni_S _))) allp_nil)))))))) ?_
  rintro⟨x55,x56,x57⟩ hm10
  refine jG 3 5 ⟨[V 2 (pt 0 9),V 3 (pt 1 2),V 4 (pt 2 4),V 5 (pt 3 9),V 9 (bv x56)],[W 0 9 [bs [],nilS,.s (.int .u8 0),bs [],bv false,bs [],bv false,bs [],nilS],W 1 2 [iv 0,iv 0],W 2 4 [bs x1,iv x57,iv x12,iv x13],W 3 9 [bs x8,.osl 4 0 (List.length x10) 1,.s (.int .u8 x24),bs x25,bv x41,bs x42,bv false,bs [],.osl 5 0 (List.length x43) 1],(4,.rows 1 (List.map cS x10)),(5,.rows 1 (List.map cS x43))],9⟩ ?_
  refine jN ?_
  refine jS ⟨[V 2 (pt 0 9),V 3 (pt 1 2),V 4 (pt 2 4),V 5 (pt 3 9),V 81 (bv x56)],[W 0 9 [bs [],nilS,.s (.int .u8 0),bs [],bv false,bs [],bv false,bs [],nilS],W 1 2 [iv 0,iv 0],W 2 4 [bs x1,iv x57,iv x12,iv x13],W 3 9 [bs x8,.osl 4 0 (List.length x10) 1,.s (.int .u8 x24),bs x25,bv x41,bs x42,bv false,bs [],.osl 5 0 (List.length x43) 1],(4,.rows 1 (List.map cS x10)),(5,.rows 1 (List.map cS x43))],9⟩ ?_
  refine jIf ?_ ?_
  ·refine jc_reg ?_
   refine jG 0 1 ⟨[V 2 (pt 0 9),V 3 (pt 1 2),V 4 (pt 2 4),V 5 (pt 3 9),V 82 (pt 2 4)],[W 0 9 [bs [],nilS,.s (.int .u8 0),bs [],bv false,bs [],bv false,bs [],nilS],W 1 2 [iv 0,iv 0],W 2 4 [bs x1,iv x57,iv x12,iv x13],W 3 9 [bs x8,.osl 4 0 (List.length x10) 1,.s (.int .u8 x24),bs x25,bv x41,bs x42,bv false,bs [],.osl 5 0 (List.length x43) 1],(4,.rows 1 (List.map cS x10)),(5,.rows 1 (List.map cS x43))],9⟩ ?_
   refine jr_callM 1 [(0,some 2)] [(2,some 0)] (fun r:Str × Int=>[W 0 9 [bs [],nilS,.s (.int .u8 0),bs [],bv false,bs [],bv false,bs [],nilS],W 1 2 [iv 0,iv 0],W 2 4 [bs x1,iv r.2,iv x12,iv x13],W 3 9 [bs x8,.osl 4 0 (List.length x10) 1,.s (.int .u8 x24),bs x25,bv x41,bs x42,bv false,bs [],.osl 5 0 (List.length x43) 1],(4,.rows 1 (List.map cS x10)),(5,.rows 1 (List.map cS x43))]) (fun r:Str × Int=>bs r.1) 9 (pep_reader_number_ok x1 x57 x12 x13) (pc (hC 2) allp_nil) (fun r=>(pc (.inl ⟨rfl,rfl⟩) (pc (.inl ⟨rfl,rfl⟩) (pc (.inr (hC 0)) (pc (.inl ⟨rfl,rfl⟩) (pc (.inl ⟨rfl,rfl⟩) (pc (.inl ⟨rfl,rfl⟩) allp_nil))))))) ?_
   rintro⟨x58,x59⟩ hm9
   refine jG 2 4 ⟨[V 2 (pt 0 9),V 3 (pt 1 2),V 4 (pt 2 4),V 5 (pt 3 9)],[W 0 9 [bs [],nilS,.s (.int .u8 0),bs [],bv false,bs [],bv false,bs [],nilS],W 1 2 [iv 0,iv 0],W 2 4 [bs x1,iv x59,iv x12,iv x13],W 3 9 [bs x8,.osl 4 0 (List.length x10) 1,.s (.int .u8 x24),bs x25,bv x41,bs x42,bv true,bs x58,.osl 5 0 (List.length x43) 1],(4,.rows 1 (List.map cS x10)),(5,.rows 1 (List.map cS x43))],9⟩ ?_
   refine jr_nil rfl ?_
   exact jx_mid rfl (wkR [(0,some 0),(1,some 1),(2,some 2),(3,some 3),(4,some 4),(5,some 5)] (fix_nil _) (pc (hC 0) (pc (hC 1) (pc (hC 2) (pc (hC 3) (pc (hL 4 (noid_map ni_S _)) (pc (hL 5 (noid_map ni_S _)) allp_nil)))))))
  refine jc_skip ?_
  exact jx_mid rfl (wkR [(0,some 0),(1,some 1),(2,some 2),(3,some 3),(4,some 4),(5,some 5)] (fix_nil _) (pc (hC 0) (pc (hC 1) (pc (hC 2) (pc (hC 3) (pc (hL 4 (noid_map ni_S _)) (pc (hL 5 (noid_map ni_S _)) allp_nil)))))))
 rintro⟨x52,x53,x54⟩
 refine jx_seqN ?_
 refine jc_seq ?_
 refine jc_bind (fun (x64,x65,x66,x67)=>⟨[V 2 (pt 0 9),V 3 (pt 1 2),V 4 (pt 2 4),V 5 (pt 3 9)],[W 0 9 [bs [],nilS,.s (.int .u8 0),bs [],bv false,bs [],bv false,bs [],nilS],W 1 2 [iv 0,iv 0],W 2 4 [bs x1,iv x64,iv x65,iv x66],W 3 9 [bs x8,.osl 4 0 (List.length x10) 1,.s (.int .u8 x24),bs x25,bv x41,bs x42,bv x53,bs x54,.osl 5 0 (List.length x67) 1],(4,.rows 1 (List.map cS x10)),(5,.rows 1 (List.map cS x67))],6⟩) (fun (x64,x65,x66,x67)=>.normal) ?_ ?_
 ·refine jS ⟨[V 2 (pt 0 9),V 3 (pt 1 2),V 4 (pt 2 4),V 5 (pt 3 9),V 91 (bv (x12 == 0))],[W 0 9 [bs [],nilS,.s (.int .u8 0),bs [],bv false,bs [],bv false,bs [],nilS],W 1 2 [iv 0,iv 0],W 2 4 [bs x1,iv x52,iv x12,iv x13],W 3 9 [bs x8,.osl 4 0 (List.length x10) 1,.s (.int .u8 x24),bs x25,bv x41,bs x42,bv x53,bs x54,.osl 5 0 (List.length x43) 1],(4,.rows 1 (List.map cS x10)),(5,.rows 1 (List.map cS x43))],6⟩ ?_
  refine jIf ?_ ?_
  ·refine jc_reg ?_
   refine jG 0 1 ⟨[V 2 (pt 0 9),V 3 (pt 1 2),V 4 (pt 2 4),V 5 (pt 3 9),V 92 (pt 2 4)],[W 0 9 [bs [],nilS,.s (.int .u8 0),bs [],bv false,bs [],bv false,bs [],nilS],W 1 2 [iv 0,iv 0],W 2 4 [bs x1,iv x52,iv x12,iv x13],W 3 9 [bs x8,.osl 4 0 (List.length x10) 1,.s (.int .u8 x24),bs x25,bv x41,bs x42,bv x53,bs x54,.osl 5 0 (List.length x43) 1],(4,.rows 1 (List.map cS x10)),(5,.rows 1 (List.map cS x43))],6⟩ ?_
   refine jr_callM 1 [(0,some 2)] [(2,some 0),(6,some 1)] (fun r:List Str × Int × Int × Int=>[W 0 9 [bs [],nilS,.s (.int .u8 0),bs [],bv false,bs [],bv false,bs [],nilS],W 1 2 [iv 0,iv 0],W 2 4 [bs x1,iv r.2.1,iv r.2.2.1,iv r.2.2.2],W 3 9 [bs x8,.osl 4 0 (List.length x10) 1,.s (.int .u8 x24),bs x25,bv x41,bs x42,bv x53,bs x54,.osl 5 0 (List.length x43) 1],(4,.rows 1 (List.map cS x10)),(5,.rows 1 (List.map cS x43)),(6,.rows 1 (List.map cS r.1))]) (fun r:List Str × Int × Int × Int=>.osl 6 0 (List.length r.1) 1) 7 (pep_reader_local_ok x1 x52 x12 x13) (pc (hC 2) allp_nil) (fun r=>(pc (.inl ⟨rfl,rfl⟩) (pc (.inl ⟨rfl,rfl⟩) (pc (.inr (hC 0)) (pc (.inl ⟨rfl,rfl⟩) (pc (.inl ⟨rfl,rfl⟩) (pc (.inl ⟨rfl,rfl⟩) (pc (.inr (hL 1 (noid_map ni_S _))) allp_nil)))))))) ?_
   rintro⟨x68,x69,x70,x71⟩ hm12
   refine jG 2 2 ⟨[V 2 (pt 0 9),V 3 (pt 1 2),V 4 (pt 2 4),V 5 (pt 3 9)],[W 0 9 [bs [],nilS,.s (.int .u8 0),bs [],bv false,bs [],bv false,bs [],nilS],W 1 2 [iv 0,iv 0],W 2 4 [bs x1,iv x69,iv x70,iv x71],W 3 9 [bs x8,.osl 4 0 (List.length x10) 1,.s (.int .u8 x24),bs x25,bv x41,bs x42,bv x53,bs x54,.osl 6 0 (List.length x68) 1],(4,.rows 1 (List.map cS x10)),(6,.rows 1 (List.map cS x68))],7⟩ ?_
   refine jr_nil rfl ?_
   exact jx_mid rfl (wkR [(0,some 0),(1,some 1),(2,some 2),(3,some 3),(4,some 4),(5,some 6)] (fix_nil _) (pc (hC 0) (pc (hC 1) (pc (hC 2) (pc (hC 3) (pc (hL 4 (noid_map ni_S _)) (pc (hL 6 (noid_map ni_S _)) allp_nil)))))))
  refine jc_skip ?_
  exact jx_mid rfl (wkR [(0,some 0),(1,some 1),(2,some 2),(3,some 3),(4,some 4),(5,some 5)] (fix_nil _) (pc (hC 0) (pc (hC 1) (pc (hC 2) (pc (hC 3) (pc (hL 4 (noid_map ni_S _)) (pc (hL 5 (noid_map ni_S _)) allp_nil)))))))
 rintro⟨x64,x65,x66,x67⟩
 refine jx_seqN ?_
 refine jc_seq ?_
 refine jc_bind (fun (x72,x73)=>⟨[V 2 (pt 0 9),V 3 (pt 1 2),V 4 (pt 2 4),V 5 (pt 3 9)],[W 0 9 [bs [],nilS,.s (.int .u8 0),bs [],bv false,bs [],bv false,bs [],nilS],W 1 2 [iv 0,iv 0],W 2 4 [bs x1,iv x64,iv x72,iv x73],W 3 9 [bs x8,.osl 4 0 (List.length x10) 1,.s (.int .u8 x24),bs x25,bv x41,bs x42,bv x53,bs x54,.osl 5 0 (List.length x67) 1],(4,.rows 1 (List.map cS x10)),(5,.rows 1 (List.map cS x67))],6⟩) (fun (x72,x73)=>.normal) ?_ ?_
 ·refine jS ⟨[V 2 (pt 0 9),V 3 (pt 1 2),V 4 (pt 2 4),V 5 (pt 3 9),V 112 (bv ((x65 == 0) && (decide (x64 < (List.length x1:Int)))))],[W 0 9 [bs [],nilS,.s (.int .u8 0),bs [],bv false,bs [],bv false,bs [],nilS],W 1 2 [iv 0,iv 0],W 2 4 [bs x1,iv x64,iv x65,iv x66],W 3 9 [bs x8,.osl 4 0 (List.length x10) 1,.s (.int .u8 x24),bs x25,bv x41,bs x42,bv x53,bs x54,.osl 5 0 (List.length x67) 1],(4,.rows 1 (List.map cS x10)),(5,.rows 1 (List.map cS x67))],6⟩ ?_
  refine jIf ?_ ?_
  ·refine jT ⟨[V 2 (pt 0 9),V 3 (pt 1 2),V 4 (pt 2 4),V 5 (pt 3 9)],[W 0 9 [bs [],nilS,.s (.int .u8 0),bs [],bv false,bs [],bv false,bs [],nilS],W 1 2 [iv 0,iv 0],W 2 4 [bs x1,iv x64,iv 10,iv x64],W 3 9 [bs x8,.osl 4 0 (List.length x10) 1,.s (.int .u8 x24),bs x25,bv x41,bs x42,bv x53,bs x54,.osl 5 0 (List.length x67) 1],(4,.rows 1 (List.map cS x10)),(5,.rows 1 (List.map cS x67))],6⟩ ?_
   exact jx_mid rfl (wkR [(0,some 0),(1,some 1),(2,some 2),(3,some 3),(4,some 4),(5,some 5)] (fix_nil _) (pc (hC 0) (pc (hC 1) (pc (hC 2) (pc (hC 3) (pc (hL 4 (noid_map ni_S _)) (pc (hL 5 (noid_map ni_S _)) allp_nil)))))))
  refine jc_skip ?_
  exact jx_mid rfl (wkR [(0,some 0),(1,some 1),(2,some 2),(3,some 3),(4,some 4),(5,some 5)] (fix_nil _) (pc (hC 0) (pc (hC 1) (pc (hC 2) (pc (hC 3) (pc (hL 4 (noid_map ni_S _)) (pc (hL 5 (noid_map ni_S _)) allp_nil)))))))
 rintro⟨x72,x73⟩
 refine jx_seqN ?_
 refine jc_seq ?_
 refine jS ⟨[V 2 (pt 0 9),V 3 (pt 1 2),V 4 (pt 2 4),V 5 (pt 3 9),V 126 (bv (x72 != 0))],[W 0 9 [bs [],nilS,.s (.int .u8 0),bs [],bv false,bs [],bv false,bs [],nilS],W 1 2 [iv 0,iv 0],W 2 4 [bs x1,iv x64,iv x72,iv x73],W 3 9 [bs x8,.osl 4 0 (List.length x10) 1,.s (.int .u8 x24),bs x25,bv x41,bs x42,bv x53,bs x54,.osl 5 0 (List.length x67) 1],(4,.rows 1 (List.map cS x10)),(5,.rows 1 (List.map cS x67))],6⟩ ?_
 refine jIf ?_ ?_
 ·refine jc_seq ?_
  refine jc_full pep_Parse_r26 [(130,2)] ?_
  refine jG 0 7 ⟨[V 2 (pt 0 9),V 3 (pt 1 2),V 130 (.ptr 2 0 4 2)],[W 0 9 [bs [],nilS,.s (.int .u8 0),bs [],bv false,bs [],bv false,bs [],nilS],W 1 2 [iv x72,iv x73],W 2 4 [bs x1,iv x64,iv x72,iv x73]],6⟩ ?_
  refine jr_nil rfl ?_
  refine jx_full ?_
  refine jx_seqN ?_
  refine jc_ret ?_
  refine jx_seqR ?_
  exact jx_retF (.inr rfl) (v:=.tup [.agg [bs [],nilS,.s (.int .u8 0),bs [],bv false,bs [],bv false,bs [],nilS],.agg [iv x72,iv x73]]) (by kernel_rfl) (snapc_tup (snapL_cons (snapc_agg (snapL_cons rfl (snapL_cons rfl (snapL_cons rfl (snapL_cons rfl (snapL_cons rfl (snapL_cons rfl (snapL_cons rfl (snapL_cons rfl (snapL_cons rfl (snapL_nil _))))))))))) (snapL_cons rfl (snapL_nil _)))) (fle_tup (all2_cons (fle_agg (all2_cons (fle_refl _) (all2_cons (fle_nil _) (all2_cons (fle_refl _) (all2_cons (fle_refl _) (all2_cons (fle_refl _) (all2_cons (fle_refl _) (all2_cons (fle_refl _) (all2_cons (fle_refl _) (all2_cons (fle_nil _) all2_nil)))))))))) (all2_cons (fle_refl _) all2_nil)))
 refine jc_skip ?_
 refine jx_seqN ?_
 refine jS ⟨[V 2 (pt 0 9),V 3 (pt 1 2)],[W 0 9 [bs x8,.osl 4 0 (List.length x10) 1,.s (.int .u8 x24),bs x25,bv x41,bs x42,bv x53,bs x54,.osl 5 0 (List.length x67) 1],W 1 2 [iv 0,iv 0],(4,.rows 1 (List.map cS x10)),(5,.rows 1 (List.map cS x67))],6⟩ ?_
 refine jc_ret ?_
 exact jx_retF (.inr rfl) (v:=.tup [.agg [bs x8,.osl 4 0 (List.length x10) 1,.s (.int .u8 x24),bs x25,bv x41,bs x42,bv x53,bs x54,.osl 5 0 (List.length x67) 1],.agg [iv 0,iv 0]]) (by kernel_rfl) (snapc_tup (snapL_cons (snapc_agg (snapL_cons rfl (snapL_cons (snapc_own fz_S (by kernel_rfl)) (snapL_cons rfl (snapL_cons rfl (snapL_cons rfl (snapL_cons rfl (snapL_cons rfl (snapL_cons rfl (snapL_cons (snapc_own fz_S (by kernel_rfl)) (snapL_nil _))))))))))) (snapL_cons rfl (snapL_nil _)))) (fle_tup (all2_cons (fle_agg (all2_cons (fle_refl _) (all2_cons (fle_refl _) (all2_cons (fle_refl _) (all2_cons (fle_refl _) (all2_cons (fle_refl _) (all2_cons (fle_refl _) (all2_cons (fle_refl _) (all2_cons (fle_refl _) (all2_cons (fle_refl _) all2_nil)))))))))) (all2_cons (fle_refl _) all2_nil))))
abbrev pep_number_r1:List LO:=[lo 4 (.assign (.const (.bool false))) 4]
abbrev pep_number_r2:List LO:=[lm 5 1 4,lo 6 (.unOp .not 4 (.tmp 5)) 4]
abbrev pep_number_r3:List LO:=[lm 7 0 9,lo 8 (.binOp .eql 9 (.tmp 7) (.const (.string ⟨#[]⟩)) 9) 4,lo 4 (.assign (.tmp 8)) 4]
abbrev pep_number_r4:List LO:=[lm 9 0 9,lo 10 (.binOp .neq 9 (.tmp 9) (.const (.string ⟨#[]⟩)) 9) 4,lm 11 10 4,lmg 12 0 9 11 true,lg 13 (.call ⟨.value (.func 87),#[.tmp 12,.const (.int .i64 0),.const (.int .i64 1)],#[9,3,3]⟩) 3 11 true,lmg 14 0 9 11 true,lg 15 (.call ⟨.builtin .len,#[.tmp 14],#[9]⟩) 3 11 true,lg 16 (.binOp .eql 3 (.tmp 13) (.tmp 15) 3) 4 11 true,lo 17 (.pick (.tmp 11) (.tmp 16) (.const (.bool false))) 4,lm 18 17 4,lmg 19 0 9 18 true,lg 20 (.call ⟨.value (.func 96),#[.tmp 19],#[9]⟩) 9 18 true,lmg 21 0 9 18 true,lg 22 (.binOp .eql 9 (.tmp 20) (.tmp 21) 9) 4 18 true,lo 23 (.pick (.tmp 18) (.tmp 22) (.const (.bool false))) 4,lo 4 (.assign (.tmp 23)) 4]
abbrev pep_number_c:LC:=.seq (.reg false pep_number_r1) (.seq (.seq (.reg false pep_number_r2) (.cond (.tmp 6) (.seq (.reg false pep_number_r3) .ret) .skip)) (.seq (.reg false pep_number_r4) .ret))
theorem pep_number_k:FnOk E 56 24 [.tmp 4] pep_number_c:=⟨⟨Go.Proofs.Tryz.f56,by kernel_rfl,by kernel_rfl,by kernel_rfl,by kernel_rfl,by kernel_rfl⟩,rfl,rfl⟩
noncomputable def pep_number (a0:Str) (a1:Bool):Option (Bool):=(if (!a1)=true then some (a0 == []) else Option.bind (if (!(a0 == []))=true then Option.bind (scan_Run a0 0 1) (fun x3=>some (x3 == (List.length a0:Int))) else some false:Option (Bool)) (fun x2=>Option.bind (if x2=true then Option.bind (scan_Trim a0) (fun x6=>some (x6 == a0)) else some false:Option (Bool)) (fun x5=>some x5)))
theorem pep_number_ok (a0:Str) (a1:Bool):Ct E 56 [bs a0,bv a1] (pep_number a0 a1) (fun r:Bool=>bv r):=ct_intro (N:=24) (L:=pep_number_c) pep_number_k rfl (Nat.le_of_ble_eq_true rfl) (by kernel_rfl) (by
 unfold pep_number
 refine jS ⟨[V 0 (bs a0),V 1 (bv a1)],[],0⟩ ?_
 refine jc_seq ?_
 refine jS ⟨[V 0 (bs a0),V 6 (bv (!a1))],[],0⟩ ?_
 refine jIf ?_ ?_
 ·refine jS ⟨[V 4 (bv (a0 == []))],[],0⟩ ?_
  refine jc_ret ?_
  refine jx_seqR ?_
  exact jx_retF (.inr rfl) (v:=bv (a0 == [])) (by kernel_rfl) rfl (fle_refl _)
 refine jc_skip ?_
 refine jx_seqN ?_
 refine jR ?_
 refine jG 0 3 ⟨[V 0 (bs a0),V 11 (bv (!(a0 == [])))],[],0⟩ ?_
 refine jr_bind 3 6 (fun x2=>⟨[V 0 (bs a0),V 17 (bv x2)],[],0⟩) ?_ ?_
 ·refine jSp 11 ?_ ?_
  ·refine jG 0 1 ⟨[V 0 (bs a0),(11,.lit true),V 12 (bs a0)],[],0⟩ ?_
   refine jK 1 (scan_Run_ok a0 0 1) ?_
   intro x3 h3
   refine jG 2 4 ⟨[V 0 (bs a0),V 17 (bv (x3 == (List.length a0:Int)))],[],0⟩ ?_
   refine jr_nil rfl ?_
   exact jx_mid rfl (wkR [] (fix_nil _) allp_nil)
  refine jG 0 6 ⟨[V 0 (bs a0),V 17 (bv false)],[],0⟩ ?_
  refine jr_nil rfl ?_
  exact jx_mid rfl (wkR [] (fix_nil _) allp_nil)
 intro x2
 refine jG 9 1 ⟨[V 0 (bs a0),V 18 (bv x2)],[],0⟩ ?_
 refine jr_bind 10 5 (fun x5=>⟨[V 23 (bv x5)],[],0⟩) ?_ ?_
 ·refine jSp 18 ?_ ?_
  ·refine jG 0 1 ⟨[V 0 (bs a0),(18,.lit true),V 19 (bs a0)],[],0⟩ ?_
   refine jK 1 (scan_Trim_ok a0) ?_
   intro x6 h6
   refine jG 2 3 ⟨[V 23 (bv (x6 == a0))],[],0⟩ ?_
   refine jr_nil rfl ?_
   exact jx_mid rfl (wkR [] (fix_nil _) allp_nil)
  refine jG 0 5 ⟨[V 23 (bv false)],[],0⟩ ?_
  refine jr_nil rfl ?_
  exact jx_mid rfl (wkR [] (fix_nil _) allp_nil)
 intro x5
 refine jG 15 1 ⟨[V 4 (bv x5)],[],0⟩ ?_
 refine jN ?_
 refine jc_ret ?_
 exact jx_retF (.inr rfl) (v:=bv x5) (by kernel_rfl) rfl (fle_refl _))
end Go.Vm

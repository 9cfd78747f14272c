/- The law RupBack, a part of its proof: what the functions that it reaches compute. -/
import Derived.Test.YtgkpnkfbhhfonaaDoorDx854d873f
import Derived.Test.YtgkpnkfbhhfonaaDoorW29RupBack
set_option linter.unusedVariables false
set_option linter.unusedSimpArgs false
set_option linter.unusedVariables false
namespace Go.Vm
open Go
abbrev c_L3 (x:List Int):List AV:=[.fsl 1 (List.map cI x)]
theorem ni_L3 (x:List Int):NoIds (c_L3 x):=noids_cons (noid_fsl _ _) noids_nil
theorem fz_L3 (x:List Int):Frz (c_L3 x):=frz_fsl frz_nil
structure S_api_Fault where
  Err:Int
  At:Int
  deriving DecidableEq,Inhabited
set_option maxRecDepth 100000
set_option maxHeartbeats 0
set_option linter.unusedSimpArgs false
abbrev cmp_isNaN_int_r1:List LO:=[lo 2 (.assign (.const (.bool false))) 4]
abbrev cmp_isNaN_int_r2:List LO:=[lm 3 0 3,lm 4 0 3,lo 5 (.binOp .neq 3 (.tmp 3) (.tmp 4) 3) 4,lo 2 (.assign (.tmp 5)) 4]
abbrev cmp_isNaN_int_c:LC:=.seq (.reg false cmp_isNaN_int_r1) (.seq (.reg false cmp_isNaN_int_r2) .ret)
theorem cmp_isNaN_int_k:FnOk E 57 6 [.tmp 2] cmp_isNaN_int_c:=⟨⟨Go.Proofs.Tryd.f57,by kernel_rfl,by kernel_rfl,by kernel_rfl,by kernel_rfl,by kernel_rfl⟩,rfl,rfl⟩
noncomputable def cmp_isNaN_int (a0:Int):Option (Bool):=some (a0 != a0)
theorem cmp_isNaN_int_ok (a0:Int):Ct E 57 [iv a0] (cmp_isNaN_int a0) (fun r:Bool=>bv r):=ct_intro (N:=6) (L:=cmp_isNaN_int_c) cmp_isNaN_int_k rfl (Nat.le_of_ble_eq_true rfl) (by kernel_rfl) (by
 unfold cmp_isNaN_int
 refine jS ⟨[V 0 (iv a0)],[],0⟩ ?_
 refine jS ⟨[V 2 (bv (a0 != a0))],[],0⟩ ?_
 refine jc_ret ?_
 exact jx_retF (.inr rfl) (v:=bv (a0 != a0)) (by kernel_rfl) rfl (fle_refl _))
abbrev cmp_Compare_int_r1:List LO:=[lo 4 (.assign (.const (.int .i64 0))) 3]
abbrev cmp_Compare_int_r2:List LO:=[lm 7 0 3,lo 8 (.call ⟨.value (.func 57),#[.tmp 7],#[3]⟩) 4,lo 5 (.assign (.tmp 8)) 4]
abbrev cmp_Compare_int_r3:List LO:=[lm 9 1 3,lo 10 (.call ⟨.value (.func 57),#[.tmp 9],#[3]⟩) 4,lo 6 (.assign (.tmp 10)) 4]
abbrev cmp_Compare_int_r4:List LO:=[lm 11 5 4]
abbrev cmp_Compare_int_r5:List LO:=[lm 12 6 4]
abbrev cmp_Compare_int_r6:List LO:=[lo 4 (.assign (.const (.int .i64 0))) 3]
abbrev cmp_Compare_int_r7:List LO:=[lo 4 (.assign (.const (.int .i64 (-1)))) 3]
abbrev cmp_Compare_int_r8:List LO:=[lm 13 6 4]
abbrev cmp_Compare_int_r9:List LO:=[lo 4 (.assign (.const (.int .i64 1))) 3]
abbrev cmp_Compare_int_r10:List LO:=[lm 14 0 3,lm 15 1 3,lo 16 (.binOp .lss 3 (.tmp 14) (.tmp 15) 3) 4]
abbrev cmp_Compare_int_r11:List LO:=[lo 4 (.assign (.const (.int .i64 (-1)))) 3]
abbrev cmp_Compare_int_r12:List LO:=[lm 17 0 3,lm 18 1 3,lo 19 (.binOp .gtr 3 (.tmp 17) (.tmp 18) 3) 4]
abbrev cmp_Compare_int_r13:List LO:=[lo 4 (.assign (.const (.int .i64 1))) 3]
abbrev cmp_Compare_int_r14:List LO:=[lo 4 (.assign (.const (.int .i64 0))) 3]
abbrev cmp_Compare_int_c:LC:=.seq (.reg false cmp_Compare_int_r1) (.seq (.reg false cmp_Compare_int_r2) (.seq (.reg false cmp_Compare_int_r3) (.seq (.seq (.reg false cmp_Compare_int_r4) (.cond (.tmp 11) (.seq (.seq (.reg false cmp_Compare_int_r5) (.cond (.tmp 12) (.seq (.reg false cmp_Compare_int_r6) .ret) .skip)) (.seq (.reg false cmp_Compare_int_r7) .ret)) .skip)) (.seq (.seq (.reg false cmp_Compare_int_r8) (.cond (.tmp 13) (.seq (.reg false cmp_Compare_int_r9) .ret) .skip)) (.seq (.seq (.reg false cmp_Compare_int_r10) (.cond (.tmp 16) (.seq (.reg false cmp_Compare_int_r11) .ret) .skip)) (.seq (.seq (.reg false cmp_Compare_int_r12) (.cond (.tmp 19) (.seq (.reg false cmp_Compare_int_r13) .ret) .skip)) (.seq (.reg false cmp_Compare_int_r14) .ret)))))))
theorem cmp_Compare_int_k:FnOk E 41 20 [.tmp 4] cmp_Compare_int_c:=⟨⟨Go.Proofs.Tryd.f41,by kernel_rfl,by kernel_rfl,by kernel_rfl,by kernel_rfl,by kernel_rfl⟩,rfl,rfl⟩
noncomputable def cmp_Compare_int (a0:Int) (a1:Int):Option (Int):=Option.bind (cmp_isNaN_int a0) (fun x1=>Option.bind (cmp_isNaN_int a1) (fun x2=>(if x1=true then (if x2=true then some 0 else some (-1)) else (if x2=true then some 1 else (if (decide (a0 < a1))=true then some (-1) else (if (decide (a0 > a1))=true then some 1 else some 0))))))
theorem cmp_Compare_int_ok (a0:Int) (a1:Int):Ct E 41 [iv a0,iv a1] (cmp_Compare_int a0 a1) (fun r:Int=>iv r):=ct_intro (N:=20) (L:=cmp_Compare_int_c) cmp_Compare_int_k rfl (Nat.le_of_ble_eq_true rfl) (by kernel_rfl) (by
 unfold cmp_Compare_int
 refine jS ⟨[V 0 (iv a0),V 1 (iv a1)],[],0⟩ ?_
 refine jR ?_
 refine jG 0 1 ⟨[V 0 (iv a0),V 1 (iv a1),V 7 (iv a0)],[],0⟩ ?_
 refine jK 1 (cmp_isNaN_int_ok a0) ?_
 intro x1 h1
 refine jG 2 1 ⟨[V 0 (iv a0),V 1 (iv a1),V 5 (bv x1)],[],0⟩ ?_
 refine jN ?_
 refine jR ?_
 refine jG 0 1 ⟨[V 0 (iv a0),V 1 (iv a1),V 5 (bv x1),V 9 (iv a1)],[],0⟩ ?_
 refine jK 1 (cmp_isNaN_int_ok a1) ?_
 intro x2 h2
 refine jG 2 1 ⟨[V 0 (iv a0),V 1 (iv a1),V 5 (bv x1),V 6 (bv x2)],[],0⟩ ?_
 refine jN ?_
 refine jc_seq ?_
 refine jS ⟨[V 0 (iv a0),V 1 (iv a1),V 6 (bv x2),V 11 (bv x1)],[],0⟩ ?_
 refine jIf ?_ ?_
 ·refine jc_seq ?_
  refine jS ⟨[V 12 (bv x2)],[],0⟩ ?_
  refine jIf ?_ ?_
  ·refine jS ⟨[V 4 (iv 0)],[],0⟩ ?_
   refine jc_ret ?_
   refine jx_seqR ?_
   refine jx_seqR ?_
   exact jx_retF (.inr rfl) (v:=iv 0) (by kernel_rfl) rfl (fle_refl _)
  refine jc_skip ?_
  refine jx_seqN ?_
  refine jS ⟨[V 4 (iv (-1))],[],0⟩ ?_
  refine jc_ret ?_
  refine jx_seqR ?_
  exact jx_retF (.inr rfl) (v:=iv (-1)) (by kernel_rfl) rfl (fle_refl _)
 refine jc_skip ?_
 refine jx_seqN ?_
 refine jc_seq ?_
 refine jS ⟨[V 0 (iv a0),V 1 (iv a1),V 13 (bv x2)],[],0⟩ ?_
 refine jIf ?_ ?_
 ·refine jS ⟨[V 4 (iv 1)],[],0⟩ ?_
  refine jc_ret ?_
  refine jx_seqR ?_
  exact jx_retF (.inr rfl) (v:=iv 1) (by kernel_rfl) rfl (fle_refl _)
 refine jc_skip ?_
 refine jx_seqN ?_
 refine jc_seq ?_
 refine jS ⟨[V 0 (iv a0),V 1 (iv a1),V 16 (bv (decide (a0 < a1)))],[],0⟩ ?_
 refine jIf ?_ ?_
 ·refine jS ⟨[V 4 (iv (-1))],[],0⟩ ?_
  refine jc_ret ?_
  refine jx_seqR ?_
  exact jx_retF (.inr rfl) (v:=iv (-1)) (by kernel_rfl) rfl (fle_refl _)
 refine jc_skip ?_
 refine jx_seqN ?_
 refine jc_seq ?_
 refine jS ⟨[V 19 (bv (decide (a0 > a1)))],[],0⟩ ?_
 refine jIf ?_ ?_
 ·refine jS ⟨[V 4 (iv 1)],[],0⟩ ?_
  refine jc_ret ?_
  refine jx_seqR ?_
  exact jx_retF (.inr rfl) (v:=iv 1) (by kernel_rfl) rfl (fle_refl _)
 refine jc_skip ?_
 refine jx_seqN ?_
 refine jS ⟨[V 4 (iv 0)],[],0⟩ ?_
 refine jc_ret ?_
 exact jx_retF (.inr rfl) (v:=iv 0) (by kernel_rfl) rfl (fle_refl _))
abbrev cmp_Or_int_r1:List LO:=[lo 2 (.assign (.const (.int .i64 0))) 3]
abbrev cmp_Or_int_r2:List LO:=[lo 3 (.assign (.const (.int .i64 0))) 3]
abbrev cmp_Or_int_r3:List LO:=[lm 6 0 29,lo 7 (.call ⟨.builtin .len,#[.tmp 6],#[29]⟩) 3,lo 8 (.move (.const (.int .i64 0))) 3]
abbrev cmp_Or_int_r4:List LO:=[lo 9 (.binOp .lss 3 (.tmp 8) (.tmp 7) 3) 0]
abbrev cmp_Or_int_r5:List LO:=[lo 10 (.indexAddr 29 (.tmp 6) (.tmp 8)) 0,lo 11 (.load 3 (.tmp 10)) 3,lo 5 (.assign (.tmp 11)) 3]
abbrev cmp_Or_int_r6:List LO:=[lm 12 5 3,lm 13 3 3,lo 14 (.binOp .neq 3 (.tmp 12) (.tmp 13) 3) 4]
abbrev cmp_Or_int_r7:List LO:=[lm 15 5 3,lo 2 (.assign (.tmp 15)) 3]
abbrev cmp_Or_int_r8:List LO:=[lo 16 (.binOp .add 3 (.tmp 8) (.const (.int .i64 1)) 3) 3,lm 8 16 3]
abbrev cmp_Or_int_r9:List LO:=[lm 17 3 3,lo 2 (.assign (.tmp 17)) 3]
abbrev cmp_Or_int_c:LC:=.seq (.reg false cmp_Or_int_r1) (.seq (.reg false cmp_Or_int_r2) (.seq (.seq (.reg false cmp_Or_int_r3) (.block 0 (.loop (.seq (.reg false cmp_Or_int_r4) (.seq (.cond (.tmp 9) .skip (.exit 0)) (.seq (.block 1 (.seq (.reg false cmp_Or_int_r5) (.seq (.reg false cmp_Or_int_r6) (.cond (.tmp 14) (.seq (.reg false cmp_Or_int_r7) .ret) .skip)))) (.reg false cmp_Or_int_r8))))))) (.seq (.reg false cmp_Or_int_r9) .ret)))
theorem cmp_Or_int_k:FnOk E 40 18 [.tmp 2] cmp_Or_int_c:=⟨⟨Go.Proofs.Tryd.f40,by kernel_rfl,by kernel_rfl,by kernel_rfl,by kernel_rfl,by kernel_rfl⟩,rfl,rfl⟩
noncomputable def cmp_Or_int_l1 (a0:(List Int)):Int→Option (Step (Int) ((Int) ⊕ (Unit))):=fun x2=>(if (decide (x2 < (List.length a0:Int)))=true then Option.bind (ixl a0 x2) (fun x6=>(if (x6 != 0)=true then some (Step.done (Sum.inl x6)) else some (Step.next (w64 (x2 + 1))))) else some (Step.done (Sum.inr ())))
noncomputable def cmp_Or_int (a0:(List Int)):Option (Int):=Option.bind (loopC (cmp_Or_int_l1 a0) 0) (fun y=>match y with | Sum.inl x5=>some x5 | Sum.inr _=>some 0)
theorem cmp_Or_int_ok (a0:(List Int)):Ct E 40 [.fsl 1 (List.map cI a0)] (cmp_Or_int a0) (fun r:Int=>iv r):=ct_intro (N:=18) (L:=cmp_Or_int_c) cmp_Or_int_k rfl (Nat.le_of_ble_eq_true rfl) (by kernel_rfl) (by
 unfold cmp_Or_int
 refine jS ⟨[V 0 (.fsl 1 (List.map cI a0))],[],0⟩ ?_
 refine jS ⟨[V 0 (.fsl 1 (List.map cI a0)),V 3 (iv 0)],[],0⟩ ?_
 refine jc_seq ?_
 refine jR ?_
 refine jG 0 3 ⟨[V 3 (iv 0),V 6 (.fsl 1 (List.map cI a0)),V 7 (iv (List.length (List.map cI a0):Int)),V 8 (iv 0)],[],0⟩ ?_
 simp only[List.length_map]
 refine jN ?_
 refine jc_block ?_
 refine jc_bind (fun y=>match y with | Sum.inl x5=>⟨[V 2 (iv x5)],[],0⟩ | Sum.inr _=>⟨[V 3 (iv 0)],[],0⟩) (fun y=>match y with | Sum.inl x5=>.ret | Sum.inr _=>(.exit 0)) (jc_loop (fun x2=>⟨[V 3 (iv 0),V 6 (.fsl 1 (List.map cI a0)),V 7 (iv (List.length a0:Int)),V 8 (iv x2)],[],0⟩) (wkR [] (fix_nil _) allp_nil) ?_) ?_
 ·intro x2
  unfold cmp_Or_int_l1
  refine jS ⟨[V 3 (iv 0),V 6 (.fsl 1 (List.map cI a0)),V 7 (iv (List.length a0:Int)),V 8 (iv x2),V 9 (bv (decide (x2 < (List.length a0:Int))))],[],0⟩ ?_
  refine jc_seq ?_
  refine jIf ?_ ?_
  ·refine jc_skip ?_
   refine jx_seqN ?_
   refine jc_seq ?_
   refine jc_block ?_
   refine jR ?_
   refine jr_part (i:=0) (mo:=ixl a0 x2) rfl rfl rfl rfl (fun _ hc=>aop_ixf (c:=cI) (sz:=1) (e:=3) (kk:=.i64) (by kernel_rfl) (by kernel_rfl) (by kernel_rfl) (by kernel_rfl) hc) (fun _=>rfl) ?_
   intro x6 h6
   refine jG 1 2 ⟨[V 3 (iv 0),V 5 (iv x6),V 6 (.fsl 1 (List.map cI a0)),V 7 (iv (List.length a0:Int)),V 8 (iv x2)],[],0⟩ ?_
   refine jN ?_
   refine jS ⟨[V 3 (iv 0),V 5 (iv x6),V 6 (.fsl 1 (List.map cI a0)),V 7 (iv (List.length a0:Int)),V 8 (iv x2),V 14 (bv (x6 != 0))],[],0⟩ ?_
   refine jIf ?_ ?_
   ·refine jS ⟨[V 2 (iv x6)],[],0⟩ ?_
    refine jc_ret ?_
    refine jx_blkR ?_
    refine jx_seqR ?_
    exact jx_done rfl nofun (wkR [] (fix_nil _) allp_nil)
   refine jc_skip ?_
   refine jx_blkN ?_
   refine jx_seqN ?_
   refine jT ⟨[V 3 (iv 0),V 6 (.fsl 1 (List.map cI a0)),V 7 (iv (List.length a0:Int)),V 8 (iv (w64 (x2 + 1)))],[],0⟩ ?_
   exact jx_next (wkR [] (fix_nil _) allp_nil)
  refine jc_exit ?_
  refine jx_seqE ?_
  exact jx_done rfl nofun (wkR [] (fix_nil _) allp_nil)
 rintro (x5 | _)
 ·refine jx_blkR ?_
  refine jx_seqR ?_
  exact jx_retF (.inr rfl) (v:=iv x5) (by kernel_rfl) rfl (fle_refl _)
 refine jx_blkE ?_
 refine jx_seqN ?_
 refine jS ⟨[V 2 (iv 0)],[],0⟩ ?_
 refine jc_ret ?_
 exact jx_retF (.inr rfl) (v:=iv 0) (by kernel_rfl) rfl (fle_refl _))
abbrev strings_trimLeftByte_r1:List LO:=[lo 4 (.assign (.const (.string ⟨#[]⟩))) 9]
abbrev strings_trimLeftByte_r2:List LO:=[lm 5 0 9,lo 6 (.call ⟨.builtin .len,#[.tmp 5],#[9]⟩) 3,lo 7 (.binOp .gtr 3 (.tmp 6) (.const (.int .i64 0)) 3) 4,lm 8 7 4,lmg 9 0 9 8 true,lg 10 (.index 9 (.tmp 9) (.const (.int .i64 0))) 5 8 true,lmg 11 1 5 8 true,lg 12 (.binOp .eql 5 (.tmp 10) (.tmp 11) 5) 4 8 true,lo 13 (.pick (.tmp 8) (.tmp 12) (.const (.bool false))) 4]
abbrev strings_trimLeftByte_r3:List LO:=[lm 14 0 9,lo 15 (.slice 9 (.tmp 14) (some (.const (.int .i64 1))) none none) 9,lo 0 (.assign (.tmp 15)) 9]
abbrev strings_trimLeftByte_r4:List LO:=[lm 16 0 9,lo 4 (.assign (.tmp 16)) 9]
abbrev strings_trimLeftByte_c:LC:=.seq (.reg false strings_trimLeftByte_r1) (.seq (.block 0 (.loop (.seq (.seq (.reg false strings_trimLeftByte_r2) (.cond (.tmp 13) .skip (.exit 0))) (.block 1 (.reg false strings_trimLeftByte_r3))))) (.seq (.reg false strings_trimLeftByte_r4) .ret))
theorem strings_trimLeftByte_k:FnOk E 69 17 [.tmp 4] strings_trimLeftByte_c:=⟨⟨Go.Proofs.Tryd.f69,by kernel_rfl,by kernel_rfl,by kernel_rfl,by kernel_rfl,by kernel_rfl⟩,rfl,rfl⟩
noncomputable def strings_trimLeftByte_l1 (a1:Int):Str→Option (Step (Str) (Str)):=fun x4=>Option.bind (if (decide ((List.length x4:Int) > 0))=true then Option.bind (idx x4 0) (fun x12=>some (x12 == a1)) else some false:Option (Bool)) (fun x11=>(if x11=true then Option.bind (subl x4 1 (List.length x4:Int)) (fun x13=>some (Step.next x13)) else some (Step.done x4)))
noncomputable def strings_trimLeftByte (a0:Str) (a1:Int):Option (Str):=Option.bind (loopC (strings_trimLeftByte_l1 a1) a0) (fun x9=>some x9)
theorem strings_trimLeftByte_ok (a0:Str) (a1:Int):Ct E 69 [bs a0,.s (.int .u8 a1)] (strings_trimLeftByte a0 a1) (fun r:Str=>bs r):=ct_intro (N:=17) (L:=strings_trimLeftByte_c) strings_trimLeftByte_k rfl (Nat.le_of_ble_eq_true rfl) (by kernel_rfl) (by
 unfold strings_trimLeftByte
 refine jS ⟨[V 0 (bs a0),V 1 (.s (.int .u8 a1))],[],0⟩ ?_
 refine jc_seq ?_
 refine jc_block ?_
 refine jc_bind (fun x9=>⟨[V 0 (bs x9)],[],0⟩) (fun x9=>(.exit 0)) (jc_loop (fun x4=>⟨[V 0 (bs x4),V 1 (.s (.int .u8 a1))],[],0⟩) (wkR [] (fix_nil _) allp_nil) ?_) ?_
 ·intro x4
  unfold strings_trimLeftByte_l1
  refine jc_seq ?_
  refine jR ?_
  refine jG 0 4 ⟨[V 0 (bs x4),V 1 (.s (.int .u8 a1)),V 8 (bv (decide ((List.length x4:Int) > 0)))],[],0⟩ ?_
  refine jr_bind 4 5 (fun x11=>⟨[V 0 (bs x4),V 1 (.s (.int .u8 a1)),V 13 (bv x11)],[],0⟩) ?_ ?_
  ·refine jSp 8 ?_ ?_
   ·refine jG 0 1 ⟨[V 0 (bs x4),V 1 (.s (.int .u8 a1)),(8,.lit true),V 9 (bs x4)],[],0⟩ ?_
    refine jr_part (i:=1) (mo:=idx x4 0) rfl rfl rfl rfl (fun _ hc=>aop_index (kk:=.i64) (by kernel_rfl) (by kernel_rfl) (by kernel_rfl) hc) (fun _=>rfl) ?_
    intro x12 h12
    refine jG 2 3 ⟨[V 0 (bs x4),V 1 (.s (.int .u8 a1)),V 13 (bv (x12 == a1))],[],0⟩ ?_
    refine jr_nil rfl ?_
    exact jx_mid rfl (wkR [] (fix_nil _) allp_nil)
   refine jG 0 5 ⟨[V 0 (bs x4),V 1 (.s (.int .u8 a1)),V 13 (bv false)],[],0⟩ ?_
   refine jr_nil rfl ?_
   exact jx_mid rfl (wkR [] (fix_nil _) allp_nil)
  intro x11
  refine jN ?_
  refine jIf ?_ ?_
  ·refine jc_skip ?_
   refine jx_seqN ?_
   refine jc_block ?_
   refine jc_reg ?_
   refine jG 0 1 ⟨[V 1 (.s (.int .u8 a1)),V 14 (bs x4)],[],0⟩ ?_
   refine jr_part (i:=1) (mo:=subl x4 1 (List.length x4:Int)) rfl rfl rfl rfl (fun _ hc=>aop_subs (by kernel_rfl) (by kernel_rfl) (by kernel_rfl) (by kernel_rfl) hc) (fun _=>rfl) ?_
   intro x13 h13
   refine jG 2 1 ⟨[V 0 (bs x13),V 1 (.s (.int .u8 a1))],[],0⟩ ?_
   refine jr_nil rfl ?_
   refine jx_blkN ?_
   exact jx_next (wkR [] (fix_nil _) allp_nil)
  refine jc_exit ?_
  refine jx_seqE ?_
  exact jx_done rfl nofun (wkR [] (fix_nil _) allp_nil)
 intro x9
 refine jx_blkE ?_
 refine jx_seqN ?_
 refine jS ⟨[V 4 (bs x9)],[],0⟩ ?_
 refine jc_ret ?_
 exact jx_retF (.inr rfl) (v:=bs x9) (by kernel_rfl) rfl (fle_refl _))
abbrev strings_TrimLeft_s05d1_r1:List LO:=[lo 4 (.assign (.const (.string ⟨#[]⟩))) 9]
abbrev strings_TrimLeft_s05d1_r2:List LO:=[lm 7 0 9,lo 8 (.binOp .eql 9 (.tmp 7) (.const (.string ⟨#[]⟩)) 9) 4,lm 9 8 4,lmg 10 1 9 9 false,lg 11 (.binOp .eql 9 (.tmp 10) (.const (.string ⟨#[]⟩)) 9) 4 9 false,lo 12 (.pick (.tmp 9) (.const (.bool true)) (.tmp 11)) 4]
abbrev strings_TrimLeft_s05d1_r3:List LO:=[lm 13 0 9,lo 4 (.assign (.tmp 13)) 9]
abbrev strings_TrimLeft_s05d1_r4:List LO:=[lm 14 1 9,lo 15 (.call ⟨.builtin .len,#[.tmp 14],#[9]⟩) 3,lo 16 (.binOp .eql 3 (.tmp 15) (.const (.int .i64 1)) 3) 4,lm 17 16 4,lmg 18 1 9 17 true,lg 19 (.index 9 (.tmp 18) (.const (.int .i64 0))) 5 17 true,lg 20 (.binOp .lss 5 (.tmp 19) (.const (.int .u8 128)) 5) 4 17 true,lo 21 (.pick (.tmp 17) (.tmp 20) (.const (.bool false))) 4]
abbrev strings_TrimLeft_s05d1_r5:List LO:=[lm 22 0 9,lm 23 1 9,lo 24 (.index 9 (.tmp 23) (.const (.int .i64 0))) 5,lo 25 (.call ⟨.value (.func 69),#[.tmp 22,.tmp 24],#[9,5]⟩) 9,lo 4 (.assign (.tmp 25)) 9]
abbrev strings_TrimLeft_s05d1_r6:List LO:=[lm 27 1 9,lo 28 (.call ⟨.value (.func 70),#[.tmp 27],#[9]⟩) 97,lm 26 28 97,lo 29 (.extract (.tmp 26) 0) 96,lo 30 (.extract (.tmp 26) 1) 4,lo 5 (.alloc 96) 0,ln (.store 96 (.tmp 5) (.tmp 29)) 0,lo 6 (.assign (.tmp 30)) 4]
abbrev strings_TrimLeft_s05d1_r7:List LO:=[lm 31 6 4]
abbrev strings_TrimLeft_s05d1_r8:List LO:=[lm 32 0 9,lo 33 (.call ⟨.value (.func 71),#[.tmp 32,.tmp 5],#[9,100]⟩) 9,lo 4 (.assign (.tmp 33)) 9]
abbrev strings_TrimLeft_s05d1_r9:List LO:=[lm 34 0 9,lm 35 1 9,lo 36 (.call ⟨.value (.func 72),#[.tmp 34,.tmp 35],#[9,9]⟩) 9,lo 4 (.assign (.tmp 36)) 9]
abbrev strings_TrimLeft_s05d1_c:LC:=.seq (.reg false strings_TrimLeft_s05d1_r1) (.seq (.seq (.reg false strings_TrimLeft_s05d1_r2) (.cond (.tmp 12) (.seq (.reg false strings_TrimLeft_s05d1_r3) .ret) .skip)) (.seq (.seq (.reg false strings_TrimLeft_s05d1_r4) (.cond (.tmp 21) (.seq (.reg false strings_TrimLeft_s05d1_r5) .ret) .skip)) (.seq (.seq (.reg false strings_TrimLeft_s05d1_r6) (.seq (.reg false strings_TrimLeft_s05d1_r7) (.cond (.tmp 31) (.seq (.reg false strings_TrimLeft_s05d1_r8) .ret) .skip))) (.seq (.reg false strings_TrimLeft_s05d1_r9) .ret))))
theorem strings_TrimLeft_s05d1_k:FnOk E 56 37 [.tmp 4] strings_TrimLeft_s05d1_c:=⟨⟨Go.Proofs.Tryd.f56,by kernel_rfl,by kernel_rfl,by kernel_rfl,by kernel_rfl,by kernel_rfl⟩,rfl,rfl⟩
noncomputable def strings_TrimLeft_s05d1 (a0:Str):Option (Str):=(if ((a0 == []) && true)=true then some a0 else Option.bind (strings_trimLeftByte a0 48) (fun x1=>some x1))
theorem strings_TrimLeft_s05d1_ok (a0:Str):Ct E 56 [bs a0,bs [48]] (strings_TrimLeft_s05d1 a0) (fun r:Str=>bs r):=ct_intro (N:=37) (L:=strings_TrimLeft_s05d1_c) strings_TrimLeft_s05d1_k rfl (Nat.le_of_ble_eq_true rfl) (by kernel_rfl) (by
 unfold strings_TrimLeft_s05d1
 refine jS ⟨[V 0 (bs a0),V 1 (bs [48])],[],0⟩ ?_
 refine jc_seq ?_
 refine jS ⟨[V 0 (bs a0),V 1 (bs [48]),V 12 (bv ((a0 == []) && true))],[],0⟩ ?_
 refine jIf ?_ ?_
 ·refine jS ⟨[V 4 (bs a0)],[],0⟩ ?_
  refine jc_ret ?_
  refine jx_seqR ?_
  exact jx_retF (.inr rfl) (v:=bs a0) (by kernel_rfl) rfl (fle_refl _)
 refine jc_skip ?_
 refine jx_seqN ?_
 refine jc_seq ?_
 refine jR ?_
 refine jG 0 4 ⟨[V 0 (bs a0),V 1 (bs [48]),V 17 (bv true)],[],0⟩ ?_
 refine jr_lit (g:=17) (b:=true) (by kernel_rfl) ?_
 refine jG 4 1 ⟨[V 0 (bs a0),V 1 (bs [48]),(17,.lit true),V 18 (bs [48])],[],0⟩ ?_
 refine jr_one (i:=5) (v:=.s (.int .u8 48)) (us:=[]) rfl rfl rfl rfl (aop_index (s:=[48]) (j:=0) (c:=48) (kk:=.i64) (by kernel_rfl) (by kernel_rfl) (by kernel_rfl) rfl) rfl ?_
 refine jG 6 2 ⟨[V 0 (bs a0),V 1 (bs [48]),V 21 (bv true)],[],0⟩ ?_
 refine jN ?_
 refine jc_condK (c:=true) (by kernel_rfl) ?_
 refine jR ?_
 refine jG 0 2 ⟨[V 22 (bs a0),V 23 (bs [48])],[],0⟩ ?_
 refine jr_one (i:=2) (v:=.s (.int .u8 48)) (us:=[]) rfl rfl rfl rfl (aop_index (s:=[48]) (j:=0) (c:=48) (kk:=.i64) (by kernel_rfl) (by kernel_rfl) (by kernel_rfl) rfl) rfl ?_
 refine jK 3 (strings_trimLeftByte_ok a0 48) ?_
 intro x1 h1
 refine jG 4 1 ⟨[V 4 (bs x1)],[],0⟩ ?_
 refine jN ?_
 refine jc_ret ?_
 refine jx_seqR ?_
 exact jx_retF (.inr rfl) (v:=bs x1) (by kernel_rfl) rfl (fle_refl _))
abbrev scan_Trim_r1:List LO:=[lo 2 (.assign (.const (.string ⟨#[]⟩))) 9]
abbrev scan_Trim_r2:List LO:=[lm 3 0 9,lo 4 (.call ⟨.value (.func 56),#[.tmp 3,.const (.string ⟨#[48]⟩)],#[9,9]⟩) 9,lo 0 (.assign (.tmp 4)) 9]
abbrev scan_Trim_r3:List LO:=[lm 5 0 9,lo 6 (.binOp .eql 9 (.tmp 5) (.const (.string ⟨#[]⟩)) 9) 4]
abbrev scan_Trim_r4:List LO:=[lo 2 (.assign (.const (.string ⟨#[48]⟩))) 9]
abbrev scan_Trim_r5:List LO:=[lm 7 0 9,lo 2 (.assign (.tmp 7)) 9]
abbrev scan_Trim_c:LC:=.seq (.reg false scan_Trim_r1) (.seq (.reg false scan_Trim_r2) (.seq (.seq (.reg false scan_Trim_r3) (.cond (.tmp 6) (.seq (.reg false scan_Trim_r4) .ret) .skip)) (.seq (.reg false scan_Trim_r5) .ret)))
theorem scan_Trim_k:FnOk E 39 8 [.tmp 2] scan_Trim_c:=⟨⟨Go.Proofs.Tryd.f39,by kernel_rfl,by kernel_rfl,by kernel_rfl,by kernel_rfl,by kernel_rfl⟩,rfl,rfl⟩
noncomputable def scan_Trim (a0:Str):Option (Str):=Option.bind (strings_TrimLeft_s05d1 a0) (fun x1=>(if (x1 == [])=true then some [48] else some x1))
theorem scan_Trim_ok (a0:Str):Ct E 39 [bs a0] (scan_Trim a0) (fun r:Str=>bs r):=ct_intro (N:=8) (L:=scan_Trim_c) scan_Trim_k rfl (Nat.le_of_ble_eq_true rfl) (by kernel_rfl) (by
 unfold scan_Trim
 refine jS ⟨[V 0 (bs a0)],[],0⟩ ?_
 refine jR ?_
 refine jG 0 1 ⟨[V 3 (bs a0)],[],0⟩ ?_
 refine jK 1 (strings_TrimLeft_s05d1_ok a0) ?_
 intro x1 h1
 refine jG 2 1 ⟨[V 0 (bs x1)],[],0⟩ ?_
 refine jN ?_
 refine jc_seq ?_
 refine jS ⟨[V 0 (bs x1),V 6 (bv (x1 == []))],[],0⟩ ?_
 refine jIf ?_ ?_
 ·refine jS ⟨[V 2 (bs [48])],[],0⟩ ?_
  refine jc_ret ?_
  refine jx_seqR ?_
  exact jx_retF (.inr rfl) (v:=bs [48]) (by kernel_rfl) rfl (fle_refl _)
 refine jc_skip ?_
 refine jx_seqN ?_
 refine jS ⟨[V 2 (bs x1)],[],0⟩ ?_
 refine jc_ret ?_
 exact jx_retF (.inr rfl) (v:=bs x1) (by kernel_rfl) rfl (fle_refl _))
abbrev strings_Compare_r1:List LO:=[lo 4 (.assign (.const (.int .i64 0))) 3]
abbrev strings_Compare_r2:List LO:=[lm 5 0 9,lm 6 1 9,lo 7 (.call ⟨.value (.func 58),#[.tmp 5,.tmp 6],#[9,9]⟩) 3,lo 4 (.assign (.tmp 7)) 3]
abbrev strings_Compare_c:LC:=.seq (.reg false strings_Compare_r1) (.seq (.reg false strings_Compare_r2) .ret)
theorem strings_Compare_k:FnOk E 42 8 [.tmp 4] strings_Compare_c:=⟨⟨Go.Proofs.Tryd.f42,by kernel_rfl,by kernel_rfl,by kernel_rfl,by kernel_rfl,by kernel_rfl⟩,rfl,rfl⟩
noncomputable def strings_Compare (a0:Str) (a1:Str):Option (Int):=Option.bind (bytealg_CompareString a0 a1) (fun x1=>some x1)
theorem strings_Compare_ok (a0:Str) (a1:Str):Ct E 42 [bs a0,bs a1] (strings_Compare a0 a1) (fun r:Int=>iv r):=ct_intro (N:=8) (L:=strings_Compare_c) strings_Compare_k rfl (Nat.le_of_ble_eq_true rfl) (by kernel_rfl) (by
 unfold strings_Compare
 refine jS ⟨[V 0 (bs a0),V 1 (bs a1)],[],0⟩ ?_
 refine jR ?_
 refine jG 0 2 ⟨[V 5 (bs a0),V 6 (bs a1)],[],0⟩ ?_
 refine jr_callPF (i:=2) rfl rfl (vs:=[bs a0,bs a1]) (by kernel_rfl) rfl (bytealg_CompareString_ok a0 a1) (fun _=>rfl) ?_
 intro x1 h1
 refine jG 3 1 ⟨[V 4 (iv x1)],[],0⟩ ?_
 refine jN ?_
 refine jc_ret ?_
 exact jx_retF (.inr rfl) (v:=iv x1) (by kernel_rfl) rfl (fle_refl _))
abbrev scan_Cmp_r1:List LO:=[lo 4 (.assign (.const (.int .i64 0))) 3]
abbrev scan_Cmp_r2:List LO:=[lm 5 0 9,lo 6 (.call ⟨.value (.func 39),#[.tmp 5],#[9]⟩) 9,lm 7 1 9,lo 8 (.call ⟨.value (.func 39),#[.tmp 7],#[9]⟩) 9,lo 0 (.assign (.tmp 6)) 9,lo 1 (.assign (.tmp 8)) 9]
abbrev scan_Cmp_r3:List LO:=[lm 9 0 9,lo 10 (.call ⟨.builtin .len,#[.tmp 9],#[9]⟩) 3,lm 11 1 9,lo 12 (.call ⟨.builtin .len,#[.tmp 11],#[9]⟩) 3,lo 13 (.call ⟨.value (.func 41),#[.tmp 10,.tmp 12],#[3,3]⟩) 3,lm 14 0 9,lm 15 1 9,lo 16 (.call ⟨.value (.func 42),#[.tmp 14,.tmp 15],#[9,9]⟩) 3,lo 17 (.buildSlice 29 2 #[(0,.tmp 13),(1,.tmp 16)]) 29,lo 18 (.call ⟨.value (.func 40),#[.tmp 17],#[29]⟩) 3,lo 4 (.assign (.tmp 18)) 3]
abbrev scan_Cmp_c:LC:=.seq (.reg false scan_Cmp_r1) (.seq (.reg false scan_Cmp_r2) (.seq (.reg true scan_Cmp_r3) .ret))
theorem scan_Cmp_k:FnOk E 29 19 [.tmp 4] scan_Cmp_c:=⟨⟨Go.Proofs.Tryd.f29,by kernel_rfl,by kernel_rfl,by kernel_rfl,by kernel_rfl,by kernel_rfl⟩,rfl,rfl⟩
noncomputable def scan_Cmp (a0:Str) (a1:Str):Option (Int):=Option.bind (scan_Trim a0) (fun x1=>Option.bind (scan_Trim a1) (fun x2=>Option.bind (cmp_Compare_int (List.length x1:Int) (List.length x2:Int)) (fun x3=>Option.bind (strings_Compare x1 x2) (fun x4=>Option.bind (cmp_Or_int [x3,x4]) (fun x5=>some x5)))))
theorem scan_Cmp_ok (a0:Str) (a1:Str):Ct E 29 [bs a0,bs a1] (scan_Cmp a0 a1) (fun r:Int=>iv r):=ct_intro (N:=19) (L:=scan_Cmp_c) scan_Cmp_k rfl (Nat.le_of_ble_eq_true rfl) (by kernel_rfl) (by
 unfold scan_Cmp
 refine jS ⟨[V 0 (bs a0),V 1 (bs a1)],[],0⟩ ?_
 refine jR ?_
 refine jG 0 1 ⟨[V 1 (bs a1),V 5 (bs a0)],[],0⟩ ?_
 refine jK 1 (scan_Trim_ok a0) ?_
 intro x1 h1
 refine jG 2 1 ⟨[V 6 (bs x1),V 7 (bs a1)],[],0⟩ ?_
 refine jK 3 (scan_Trim_ok a1) ?_
 intro x2 h2
 refine jG 4 2 ⟨[V 0 (bs x1),V 1 (bs x2)],[],0⟩ ?_
 refine jN ?_
 refine jR ?_
 refine jG 0 4 ⟨[V 0 (bs x1),V 1 (bs x2),V 10 (iv (List.length x1:Int)),V 12 (iv (List.length x2:Int))],[],0⟩ ?_
 refine jK 4 (cmp_Compare_int_ok (List.length x1:Int) (List.length x2:Int)) ?_
 intro x3 h3
 refine jG 5 2 ⟨[V 13 (iv x3),V 14 (bs x1),V 15 (bs x2)],[],0⟩ ?_
 refine jK 7 (strings_Compare_ok x1 x2) ?_
 intro x4 h4
 refine jG 8 1 ⟨[V 17 (.fsl 1 (List.map cI [x3,x4]))],[],0⟩ ?_
 refine jK 9 (cmp_Or_int_ok [x3,x4]) ?_
 intro x5 h5
 refine jG 10 1 ⟨[V 4 (iv x5)],[],0⟩ ?_
 refine jN ?_
 refine jc_ret ?_
 exact jx_retF (.inr rfl) (v:=iv x5) (by kernel_rfl) rfl (fle_refl _))
abbrev scan_Is_r1:List LO:=[lo 4 (.assign (.const (.bool false))) 4]
abbrev scan_Is_r2:List LO:=[lm 9 0 5,lo 10 (.binOp .geq 5 (.tmp 9) (.const (.int .u8 48)) 5) 4,lm 11 10 4,lmg 12 0 5 11 true,lg 13 (.binOp .leq 5 (.tmp 12) (.const (.int .u8 57)) 5) 4 11 true,lo 14 (.pick (.tmp 11) (.tmp 13) (.const (.bool false))) 4,lm 15 0 5,lo 16 (.binOp .geq 5 (.tmp 15) (.const (.int .u8 97)) 5) 4,lm 17 16 4,lmg 18 0 5 17 true,lg 19 (.binOp .leq 5 (.tmp 18) (.const (.int .u8 122)) 5) 4 17 true,lo 20 (.pick (.tmp 17) (.tmp 19) (.const (.bool false))) 4,lm 21 0 5,lo 22 (.binOp .geq 5 (.tmp 21) (.const (.int .u8 65)) 5) 4,lm 23 22 4,lmg 24 0 5 23 true,lg 25 (.binOp .leq 5 (.tmp 24) (.const (.int .u8 90)) 5) 4 23 true,lo 26 (.pick (.tmp 23) (.tmp 25) (.const (.bool false))) 4,lo 5 (.assign (.tmp 14)) 4,lo 6 (.assign (.tmp 20)) 4,lo 7 (.assign (.tmp 26)) 4]
abbrev scan_Is_r3:List LO:=[lm 27 0 5,lo 28 (.binOp .eql 5 (.tmp 27) (.const (.int .u8 32)) 5) 4,lm 29 28 4,lmg 30 0 5 29 false,lg 31 (.binOp .eql 5 (.tmp 30) (.const (.int .u8 9)) 5) 4 29 false,lo 32 (.pick (.tmp 29) (.const (.bool true)) (.tmp 31)) 4,lo 8 (.assign (.tmp 32)) 4]
abbrev scan_Is_r4:List LO:=[lm 33 1 3]
abbrev scan_Is_r5:List LO:=[lo 35 (.binOp .eql 3 (.tmp 33) (.const (.int .i64 1)) 3) 4,lo 34 (.assign (.tmp 35)) 4]
abbrev scan_Is_r6:List LO:=[lm 36 5 4,lo 4 (.assign (.tmp 36)) 4]
abbrev scan_Is_r7:List LO:=[lo 38 (.binOp .eql 3 (.tmp 33) (.const (.int .i64 2)) 3) 4,lo 37 (.assign (.tmp 38)) 4]
abbrev scan_Is_r8:List LO:=[lm 39 6 4,lo 4 (.assign (.tmp 39)) 4]
abbrev scan_Is_r9:List LO:=[lo 41 (.binOp .eql 3 (.tmp 33) (.const (.int .i64 3)) 3) 4,lo 40 (.assign (.tmp 41)) 4]
abbrev scan_Is_r10:List LO:=[lm 42 7 4,lo 4 (.assign (.tmp 42)) 4]
abbrev scan_Is_r11:List LO:=[lo 44 (.binOp .eql 3 (.tmp 33) (.const (.int .i64 4)) 3) 4,lo 43 (.assign (.tmp 44)) 4]
abbrev scan_Is_r12:List LO:=[lm 45 6 4,lm 46 45 4,lmg 47 7 4 46 false,lo 48 (.pick (.tmp 46) (.const (.bool true)) (.tmp 47)) 4,lo 4 (.assign (.tmp 48)) 4]
abbrev scan_Is_r13:List LO:=[lo 50 (.binOp .eql 3 (.tmp 33) (.const (.int .i64 5)) 3) 4,lo 49 (.assign (.tmp 50)) 4]
abbrev scan_Is_r14:List LO:=[lm 51 5 4,lm 52 51 4,lmg 53 6 4 52 false,lo 54 (.pick (.tmp 52) (.const (.bool true)) (.tmp 53)) 4,lm 55 54 4,lmg 56 7 4 55 false,lo 57 (.pick (.tmp 55) (.const (.bool true)) (.tmp 56)) 4,lo 4 (.assign (.tmp 57)) 4]
abbrev scan_Is_r15:List LO:=[lo 59 (.binOp .eql 3 (.tmp 33) (.const (.int .i64 6)) 3) 4,lo 58 (.assign (.tmp 59)) 4]
abbrev scan_Is_r16:List LO:=[lm 60 8 4,lo 4 (.assign (.tmp 60)) 4]
abbrev scan_Is_r17:List LO:=[lo 62 (.binOp .eql 3 (.tmp 33) (.const (.int .i64 7)) 3) 4,lo 61 (.assign (.tmp 62)) 4]
abbrev scan_Is_r18:List LO:=[lm 63 8 4,lm 64 63 4,lmg 65 0 5 64 false,lg 66 (.binOp .eql 5 (.tmp 65) (.const (.int .u8 10)) 5) 4 64 false,lo 67 (.pick (.tmp 64) (.const (.bool true)) (.tmp 66)) 4,lm 68 67 4,lmg 69 0 5 68 false,lg 70 (.binOp .eql 5 (.tmp 69) (.const (.int .u8 13)) 5) 4 68 false,lo 71 (.pick (.tmp 68) (.const (.bool true)) (.tmp 70)) 4,lo 4 (.assign (.tmp 71)) 4]
abbrev scan_Is_r19:List LO:=[lo 4 (.assign (.const (.bool false))) 4]
abbrev scan_Is_c:LC:=.seq (.reg false scan_Is_r1) (.seq (.reg false scan_Is_r2) (.seq (.reg false scan_Is_r3) (.seq (.seq (.reg false scan_Is_r4) (.block 0 (.seq (.reg false scan_Is_r5) (.cond (.tmp 34) (.seq (.reg false scan_Is_r6) .ret) (.seq (.reg false scan_Is_r7) (.cond (.tmp 37) (.seq (.reg false scan_Is_r8) .ret) (.seq (.reg false scan_Is_r9) (.cond (.tmp 40) (.seq (.reg false scan_Is_r10) .ret) (.seq (.reg false scan_Is_r11) (.cond (.tmp 43) (.seq (.reg false scan_Is_r12) .ret) (.seq (.reg false scan_Is_r13) (.cond (.tmp 49) (.seq (.reg false scan_Is_r14) .ret) (.seq (.reg false scan_Is_r15) (.cond (.tmp 58) (.seq (.reg false scan_Is_r16) .ret) (.seq (.reg false scan_Is_r17) (.cond (.tmp 61) (.seq (.reg false scan_Is_r18) .ret) .skip)))))))))))))))) (.seq (.reg false scan_Is_r19) .ret))))
theorem scan_Is_k:FnOk E 27 72 [.tmp 4] scan_Is_c:=⟨⟨Go.Proofs.Tryd.f27,by kernel_rfl,by kernel_rfl,by kernel_rfl,by kernel_rfl,by kernel_rfl⟩,rfl,rfl⟩
noncomputable def scan_Is (a0:Int) (a1:Int):Option (Bool):=(if (a1 == 1)=true then some ((decide (a0≥48)) && (decide (a0≤57))) else (if (a1 == 2)=true then some ((decide (a0≥97)) && (decide (a0≤122))) else (if (a1 == 3)=true then some ((decide (a0≥65)) && (decide (a0≤90))) else (if (a1 == 4)=true then some (((decide (a0≥97)) && (decide (a0≤122))) || ((decide (a0≥65)) && (decide (a0≤90)))) else (if (a1 == 5)=true then some ((((decide (a0≥48)) && (decide (a0≤57))) || ((decide (a0≥97)) && (decide (a0≤122)))) || ((decide (a0≥65)) && (decide (a0≤90)))) else (if (a1 == 6)=true then some ((a0 == 32) || (a0 == 9)) else (if (a1 == 7)=true then some ((((a0 == 32) || (a0 == 9)) || (a0 == 10)) || (a0 == 13)) else some false)))))))
theorem scan_Is_ok (a0:Int) (a1:Int):Ct E 27 [.s (.int .u8 a0),iv a1] (scan_Is a0 a1) (fun r:Bool=>bv r):=ct_intro (N:=72) (L:=scan_Is_c) scan_Is_k rfl (Nat.le_of_ble_eq_true rfl) (by kernel_rfl) (by
 unfold scan_Is
 refine jS ⟨[V 0 (.s (.int .u8 a0)),V 1 (iv a1)],[],0⟩ ?_
 refine jS ⟨[V 0 (.s (.int .u8 a0)),V 1 (iv a1),V 5 (bv ((decide (a0≥48)) && (decide (a0≤57)))),V 6 (bv ((decide (a0≥97)) && (decide (a0≤122)))),V 7 (bv ((decide (a0≥65)) && (decide (a0≤90))))],[],0⟩ ?_
 refine jS ⟨[V 0 (.s (.int .u8 a0)),V 1 (iv a1),V 5 (bv ((decide (a0≥48)) && (decide (a0≤57)))),V 6 (bv ((decide (a0≥97)) && (decide (a0≤122)))),V 7 (bv ((decide (a0≥65)) && (decide (a0≤90)))),V 8 (bv ((a0 == 32) || (a0 == 9)))],[],0⟩ ?_
 refine jc_seq ?_
 refine jS ⟨[V 0 (.s (.int .u8 a0)),V 5 (bv ((decide (a0≥48)) && (decide (a0≤57)))),V 6 (bv ((decide (a0≥97)) && (decide (a0≤122)))),V 7 (bv ((decide (a0≥65)) && (decide (a0≤90)))),V 8 (bv ((a0 == 32) || (a0 == 9))),V 33 (iv a1)],[],0⟩ ?_
 refine jc_block ?_
 refine jS ⟨[V 0 (.s (.int .u8 a0)),V 5 (bv ((decide (a0≥48)) && (decide (a0≤57)))),V 6 (bv ((decide (a0≥97)) && (decide (a0≤122)))),V 7 (bv ((decide (a0≥65)) && (decide (a0≤90)))),V 8 (bv ((a0 == 32) || (a0 == 9))),V 33 (iv a1),V 34 (bv (a1 == 1))],[],0⟩ ?_
 refine jIf ?_ ?_
 ·refine jS ⟨[V 4 (bv ((decide (a0≥48)) && (decide (a0≤57))))],[],0⟩ ?_
  refine jc_ret ?_
  refine jx_blkR ?_
  refine jx_seqR ?_
  exact jx_retF (.inr rfl) (v:=bv ((decide (a0≥48)) && (decide (a0≤57)))) (by kernel_rfl) rfl (fle_refl _)
 refine jS ⟨[V 0 (.s (.int .u8 a0)),V 5 (bv ((decide (a0≥48)) && (decide (a0≤57)))),V 6 (bv ((decide (a0≥97)) && (decide (a0≤122)))),V 7 (bv ((decide (a0≥65)) && (decide (a0≤90)))),V 8 (bv ((a0 == 32) || (a0 == 9))),V 33 (iv a1),V 37 (bv (a1 == 2))],[],0⟩ ?_
 refine jIf ?_ ?_
 ·refine jS ⟨[V 4 (bv ((decide (a0≥97)) && (decide (a0≤122))))],[],0⟩ ?_
  refine jc_ret ?_
  refine jx_blkR ?_
  refine jx_seqR ?_
  exact jx_retF (.inr rfl) (v:=bv ((decide (a0≥97)) && (decide (a0≤122)))) (by kernel_rfl) rfl (fle_refl _)
 refine jS ⟨[V 0 (.s (.int .u8 a0)),V 5 (bv ((decide (a0≥48)) && (decide (a0≤57)))),V 6 (bv ((decide (a0≥97)) && (decide (a0≤122)))),V 7 (bv ((decide (a0≥65)) && (decide (a0≤90)))),V 8 (bv ((a0 == 32) || (a0 == 9))),V 33 (iv a1),V 40 (bv (a1 == 3))],[],0⟩ ?_
 refine jIf ?_ ?_
 ·refine jS ⟨[V 4 (bv ((decide (a0≥65)) && (decide (a0≤90))))],[],0⟩ ?_
  refine jc_ret ?_
  refine jx_blkR ?_
  refine jx_seqR ?_
  exact jx_retF (.inr rfl) (v:=bv ((decide (a0≥65)) && (decide (a0≤90)))) (by kernel_rfl) rfl (fle_refl _)
 refine jS ⟨[V 0 (.s (.int .u8 a0)),V 5 (bv ((decide (a0≥48)) && (decide (a0≤57)))),V 6 (bv ((decide (a0≥97)) && (decide (a0≤122)))),V 7 (bv ((decide (a0≥65)) && (decide (a0≤90)))),V 8 (bv ((a0 == 32) || (a0 == 9))),V 33 (iv a1),V 43 (bv (a1 == 4))],[],0⟩ ?_
 refine jIf ?_ ?_
 ·refine jS ⟨[V 4 (bv (((decide (a0≥97)) && (decide (a0≤122))) || ((decide (a0≥65)) && (decide (a0≤90)))))],[],0⟩ ?_
  refine jc_ret ?_
  refine jx_blkR ?_
  refine jx_seqR ?_
  exact jx_retF (.inr rfl) (v:=bv (((decide (a0≥97)) && (decide (a0≤122))) || ((decide (a0≥65)) && (decide (a0≤90))))) (by kernel_rfl) rfl (fle_refl _)
 refine jS ⟨[V 0 (.s (.int .u8 a0)),V 5 (bv ((decide (a0≥48)) && (decide (a0≤57)))),V 6 (bv ((decide (a0≥97)) && (decide (a0≤122)))),V 7 (bv ((decide (a0≥65)) && (decide (a0≤90)))),V 8 (bv ((a0 == 32) || (a0 == 9))),V 33 (iv a1),V 49 (bv (a1 == 5))],[],0⟩ ?_
 refine jIf ?_ ?_
 ·refine jS ⟨[V 4 (bv ((((decide (a0≥48)) && (decide (a0≤57))) || ((decide (a0≥97)) && (decide (a0≤122)))) || ((decide (a0≥65)) && (decide (a0≤90)))))],[],0⟩ ?_
  refine jc_ret ?_
  refine jx_blkR ?_
  refine jx_seqR ?_
  exact jx_retF (.inr rfl) (v:=bv ((((decide (a0≥48)) && (decide (a0≤57))) || ((decide (a0≥97)) && (decide (a0≤122)))) || ((decide (a0≥65)) && (decide (a0≤90))))) (by kernel_rfl) rfl (fle_refl _)
 refine jS ⟨[V 0 (.s (.int .u8 a0)),V 8 (bv ((a0 == 32) || (a0 == 9))),V 33 (iv a1),V 58 (bv (a1 == 6))],[],0⟩ ?_
 refine jIf ?_ ?_
 ·refine jS ⟨[V 4 (bv ((a0 == 32) || (a0 == 9)))],[],0⟩ ?_
  refine jc_ret ?_
  refine jx_blkR ?_
  refine jx_seqR ?_
  exact jx_retF (.inr rfl) (v:=bv ((a0 == 32) || (a0 == 9))) (by kernel_rfl) rfl (fle_refl _)
 refine jS ⟨[V 0 (.s (.int .u8 a0)),V 8 (bv ((a0 == 32) || (a0 == 9))),V 61 (bv (a1 == 7))],[],0⟩ ?_
 refine jIf ?_ ?_
 ·refine jS ⟨[V 4 (bv ((((a0 == 32) || (a0 == 9)) || (a0 == 10)) || (a0 == 13)))],[],0⟩ ?_
  refine jc_ret ?_
  refine jx_blkR ?_
  refine jx_seqR ?_
  exact jx_retF (.inr rfl) (v:=bv ((((a0 == 32) || (a0 == 9)) || (a0 == 10)) || (a0 == 13))) (by kernel_rfl) rfl (fle_refl _)
 refine jc_skip ?_
 refine jx_blkN ?_
 refine jx_seqN ?_
 refine jS ⟨[V 4 (bv false)],[],0⟩ ?_
 refine jc_ret ?_
 exact jx_retF (.inr rfl) (v:=bv false) (by kernel_rfl) rfl (fle_refl _))
abbrev scan_Run_r1:List LO:=[lo 6 (.assign (.const (.int .i64 0))) 3]
abbrev scan_Run_r2:List LO:=[lm 8 1 3,lo 9 (.binOp .lss 3 (.tmp 8) (.const (.int .i64 0)) 3) 4,lm 10 9 4,lmg 11 1 3 10 false,lmg 12 0 9 10 false,lg 13 (.call ⟨.builtin .len,#[.tmp 12],#[9]⟩) 3 10 false,lg 14 (.binOp .gtr 3 (.tmp 11) (.tmp 13) 3) 4 10 false,lo 15 (.pick (.tmp 10) (.const (.bool true)) (.tmp 14)) 4]
abbrev scan_Run_r3:List LO:=[lm 16 1 3,lo 6 (.assign (.tmp 16)) 3]
abbrev scan_Run_r4:List LO:=[lm 17 0 9,lo 18 (.call ⟨.builtin .len,#[.tmp 17],#[9]⟩) 3,lm 19 1 3,lo 20 (.binOp .sub 3 (.tmp 18) (.tmp 19) 3) 3,lo 21 (.move (.const (.int .i64 0))) 3]
abbrev scan_Run_r5:List LO:=[lo 22 (.binOp .lss 3 (.tmp 21) (.tmp 20) 3) 4]
abbrev scan_Run_r6:List LO:=[lm 23 21 3,lo 7 (.assign (.tmp 23)) 3]
abbrev scan_Run_r7:List LO:=[lm 24 0 9,lm 25 1 3,lm 26 7 3,lo 27 (.binOp .add 3 (.tmp 25) (.tmp 26) 3) 3,lo 28 (.index 9 (.tmp 24) (.tmp 27)) 5,lm 29 2 3,lo 30 (.call ⟨.value (.func 27),#[.tmp 28,.tmp 29],#[5,3]⟩) 4,lo 31 (.unOp .not 4 (.tmp 30)) 4]
abbrev scan_Run_r8:List LO:=[lm 32 1 3,lm 33 7 3,lo 34 (.binOp .add 3 (.tmp 32) (.tmp 33) 3) 3,lo 6 (.assign (.tmp 34)) 3]
abbrev scan_Run_r9:List LO:=[lo 35 (.binOp .add 3 (.tmp 21) (.const (.int .i64 1)) 3) 3,lm 21 35 3]
abbrev scan_Run_r10:List LO:=[lm 36 0 9,lo 37 (.call ⟨.builtin .len,#[.tmp 36],#[9]⟩) 3,lo 6 (.assign (.tmp 37)) 3]
abbrev scan_Run_c:LC:=.seq (.reg false scan_Run_r1) (.seq (.seq (.reg false scan_Run_r2) (.cond (.tmp 15) (.seq (.reg false scan_Run_r3) .ret) .skip)) (.seq (.seq (.reg false scan_Run_r4) (.block 0 (.loop (.seq (.reg false scan_Run_r5) (.seq (.cond (.tmp 22) .skip (.exit 0)) (.seq (.block 1 (.seq (.reg false scan_Run_r6) (.seq (.reg false scan_Run_r7) (.cond (.tmp 31) (.seq (.reg false scan_Run_r8) .ret) .skip)))) (.reg false scan_Run_r9))))))) (.seq (.reg false scan_Run_r10) .ret)))
theorem scan_Run_k:FnOk E 17 38 [.tmp 6] scan_Run_c:=⟨⟨Go.Proofs.Tryd.f17,by kernel_rfl,by kernel_rfl,by kernel_rfl,by kernel_rfl,by kernel_rfl⟩,rfl,rfl⟩
noncomputable def scan_Run_l1 (a0:Str) (a1:Int) (a2:Int):Int→Option (Step (Int) ((Int) ⊕ (Unit))):=fun x3=>(if (decide (x3 < (w64 ((List.length a0:Int) - a1))))=true then Option.bind (idx a0 (w64 (a1 + x3))) (fun x8=>Option.bind (scan_Is x8 a2) (fun x9=>(if (!x9)=true then some (Step.done (Sum.inl (w64 (a1 + x3)))) else some (Step.next (w64 (x3 + 1)))))) else some (Step.done (Sum.inr ())))
noncomputable def scan_Run (a0:Str) (a1:Int) (a2:Int):Option (Int):=(if ((decide (a1 < 0)) || (decide (a1 > (List.length a0:Int))))=true then some a1 else Option.bind (loopC (scan_Run_l1 a0 a1 a2) 0) (fun y=>match y with | Sum.inl x7=>some x7 | Sum.inr _=>some (List.length a0:Int)))
theorem scan_Run_ok (a0:Str) (a1:Int) (a2:Int):Ct E 17 [bs a0,iv a1,iv a2] (scan_Run a0 a1 a2) (fun r:Int=>iv r):=ct_intro (N:=38) (L:=scan_Run_c) scan_Run_k rfl (Nat.le_of_ble_eq_true rfl) (by kernel_rfl) (by
 unfold scan_Run
 refine jS ⟨[V 0 (bs a0),V 1 (iv a1),V 2 (iv a2)],[],0⟩ ?_
 refine jc_seq ?_
 refine jS ⟨[V 0 (bs a0),V 1 (iv a1),V 2 (iv a2),V 15 (bv ((decide (a1 < 0)) || (decide (a1 > (List.length a0:Int)))))],[],0⟩ ?_
 refine jIf ?_ ?_
 ·refine jS ⟨[V 6 (iv a1)],[],0⟩ ?_
  refine jc_ret ?_
  refine jx_seqR ?_
  exact jx_retF (.inr rfl) (v:=iv a1) (by kernel_rfl) rfl (fle_refl _)
 refine jc_skip ?_
 refine jx_seqN ?_
 refine jc_seq ?_
 refine jS ⟨[V 0 (bs a0),V 1 (iv a1),V 2 (iv a2),V 20 (iv (w64 ((List.length a0:Int) - a1))),V 21 (iv 0)],[],0⟩ ?_
 refine jc_block ?_
 refine jc_bind (fun y=>match y with | Sum.inl x7=>⟨[V 6 (iv x7)],[],0⟩ | Sum.inr _=>⟨[V 0 (bs a0)],[],0⟩) (fun y=>match y with | Sum.inl x7=>.ret | Sum.inr _=>(.exit 0)) (jc_loop (fun x3=>⟨[V 0 (bs a0),V 1 (iv a1),V 2 (iv a2),V 20 (iv (w64 ((List.length a0:Int) - a1))),V 21 (iv x3)],[],0⟩) (wkR [] (fix_nil _) allp_nil) ?_) ?_
 ·intro x3
  unfold scan_Run_l1
  refine jS ⟨[V 0 (bs a0),V 1 (iv a1),V 2 (iv a2),V 20 (iv (w64 ((List.length a0:Int) - a1))),V 21 (iv x3),V 22 (bv (decide (x3 < (w64 ((List.length a0:Int) - a1)))))],[],0⟩ ?_
  refine jc_seq ?_
  refine jIf ?_ ?_
  ·refine jc_skip ?_
   refine jx_seqN ?_
   refine jc_seq ?_
   refine jc_block ?_
   refine jS ⟨[V 0 (bs a0),V 1 (iv a1),V 2 (iv a2),V 7 (iv x3),V 20 (iv (w64 ((List.length a0:Int) - a1))),V 21 (iv x3)],[],0⟩ ?_
   refine jR ?_
   refine jG 0 4 ⟨[V 0 (bs a0),V 1 (iv a1),V 2 (iv a2),V 7 (iv x3),V 20 (iv (w64 ((List.length a0:Int) - a1))),V 21 (iv x3),V 24 (bs a0),V 27 (iv (w64 (a1 + x3)))],[],0⟩ ?_
   refine jr_part (i:=4) (mo:=idx a0 (w64 (a1 + x3))) rfl rfl rfl rfl (fun _ hc=>aop_index (kk:=.i64) (by kernel_rfl) (by kernel_rfl) (by kernel_rfl) hc) (fun _=>rfl) ?_
   intro x8 h8
   refine jG 5 1 ⟨[V 0 (bs a0),V 1 (iv a1),V 2 (iv a2),V 7 (iv x3),V 20 (iv (w64 ((List.length a0:Int) - a1))),V 21 (iv x3),V 28 (.s (.int .u8 x8)),V 29 (iv a2)],[],0⟩ ?_
   refine jK 6 (scan_Is_ok x8 a2) ?_
   intro x9 h9
   refine jG 7 1 ⟨[V 0 (bs a0),V 1 (iv a1),V 2 (iv a2),V 7 (iv x3),V 20 (iv (w64 ((List.length a0:Int) - a1))),V 21 (iv x3),V 31 (bv (!x9))],[],0⟩ ?_
   refine jN ?_
   refine jIf ?_ ?_
   ·refine jS ⟨[V 6 (iv (w64 (a1 + x3)))],[],0⟩ ?_
    refine jc_ret ?_
    refine jx_blkR ?_
    refine jx_seqR ?_
    exact jx_done rfl nofun (wkR [] (fix_nil _) allp_nil)
   refine jc_skip ?_
   refine jx_blkN ?_
   refine jx_seqN ?_
   refine jT ⟨[V 0 (bs a0),V 1 (iv a1),V 2 (iv a2),V 20 (iv (w64 ((List.length a0:Int) - a1))),V 21 (iv (w64 (x3 + 1)))],[],0⟩ ?_
   exact jx_next (wkR [] (fix_nil _) allp_nil)
  refine jc_exit ?_
  refine jx_seqE ?_
  exact jx_done rfl nofun (wkR [] (fix_nil _) allp_nil)
 rintro (x7 | _)
 ·refine jx_blkR ?_
  refine jx_seqR ?_
  exact jx_retF (.inr rfl) (v:=iv x7) (by kernel_rfl) rfl (fle_refl _)
 refine jx_blkE ?_
 refine jx_seqN ?_
 refine jS ⟨[V 6 (iv (List.length a0:Int))],[],0⟩ ?_
 refine jc_ret ?_
 exact jx_retF (.inr rfl) (v:=iv (List.length a0:Int)) (by kernel_rfl) rfl (fle_refl _))
abbrev istrconv_AppendInt_m3f57_r1:List LO:=[lo 6 (.assign (.const (.slice none 0 0))) 52]
abbrev istrconv_AppendInt_m3f57_r2:List LO:=[lm 8 1 2,lo 9 (.convert 2 75 (.tmp 8)) 75,lo 7 (.assign (.tmp 9)) 75]
abbrev istrconv_AppendInt_m3f57_r3:List LO:=[lm 10 1 2,lo 11 (.binOp .lss 2 (.tmp 10) (.const (.int .i64 0)) 2) 4]
abbrev istrconv_AppendInt_m3f57_r4:List LO:=[lm 12 0 52,lo 13 (.buildSlice 52 1 #[(0,.const (.int .u8 45))]) 52,lo 14 (.call ⟨.builtin .append,#[.tmp 12,.tmp 13],#[52,52]⟩) 52,lo 0 (.assign (.tmp 14)) 52]
abbrev istrconv_AppendInt_m3f57_r5:List LO:=[lm 15 7 75,lo 16 (.unOp .neg 75 (.tmp 15)) 75,lo 7 (.assign (.tmp 16)) 75]
abbrev istrconv_AppendInt_m3f57_r6:List LO:=[lm 17 0 52,lm 18 7 75,lm 19 2 3,lo 20 (.call ⟨.value (.func 51),#[.tmp 17,.tmp 18,.tmp 19],#[52,75,3]⟩) 52,lo 6 (.assign (.tmp 20)) 52]
abbrev istrconv_AppendInt_m3f57_c:LC:=.seq (.reg false istrconv_AppendInt_m3f57_r1) (.seq (.reg false istrconv_AppendInt_m3f57_r2) (.seq (.seq (.reg false istrconv_AppendInt_m3f57_r3) (.cond (.tmp 11) (.seq (.reg false istrconv_AppendInt_m3f57_r4) (.reg false istrconv_AppendInt_m3f57_r5)) .skip)) (.seq (.reg false istrconv_AppendInt_m3f57_r6) .ret)))
theorem istrconv_AppendInt_m3f57_k:FnOk E 35 21 [.tmp 6] istrconv_AppendInt_m3f57_c:=⟨⟨Go.Proofs.Tryd.f35,by kernel_rfl,by kernel_rfl,by kernel_rfl,by kernel_rfl,by kernel_rfl⟩,rfl,rfl⟩
abbrev istrconv_AppendInt_m3f57_T (a0:List Int) (a1:Int) (a2:Int) (r:List Int):CS:=⟨[V 6 (.osl 1 0 (List.length r) 1)],[(1,.rows 1 (List.map cB r))],2⟩
noncomputable def istrconv_AppendInt_m3f57 (a0:List Int) (a1:Int) (a2:Int):Option (List Int):=Option.bind ((if (decide (a1 < 0))=true then Option.bind (app 1 a0 [45]) (fun x9=>some (x9,(IntKind.wrap .u64 (0 - (IntKind.wrap .u64 (a1)))))) else some (a0,(IntKind.wrap .u64 (a1)))):Option (List Int × Int)) (fun (x7,x8)=>Option.bind (strconv_AppendUint x7 x8 a2) (fun x10=>some x10))
theorem istrconv_AppendInt_m3f57_ok (a0:List Int) (a1:Int) (a2:Int):CtM E 35 [.osl 0 0 (List.length a0) 1,iv a1,iv a2] [(0,.rows 1 (List.map cB a0))] 1 (istrconv_AppendInt_m3f57 a0 a1 a2) (fun r:List Int=>.osl 1 0 (List.length r) 1) (fun r:List Int=>[(1,.rows 1 (List.map cB r))]) 2:=ctm_intro (N:=21) (L:=istrconv_AppendInt_m3f57_c) istrconv_AppendInt_m3f57_k rfl (Nat.le_of_ble_eq_true rfl) (fun F hF=>by
 unfold istrconv_AppendInt_m3f57
 refine jS ⟨[V 0 (.osl 0 0 (List.length a0) 1),V 1 (iv a1),V 2 (iv a2)],[(0,.rows 1 (List.map cB a0))],1⟩ ?_
 refine jS ⟨[V 0 (.osl 0 0 (List.length a0) 1),V 1 (iv a1),V 2 (iv a2),V 7 (.s (.int .u64 (IntKind.wrap .u64 (a1))))],[(0,.rows 1 (List.map cB a0))],2⟩ ?_
 refine jc_seq ?_
 refine jc_bind (fun (x7,x8)=>⟨[V 0 (.osl 1 0 (List.length x7) 1),V 2 (iv a2),V 7 (.s (.int .u64 x8))],[(1,.rows 1 (List.map cB x7))],2⟩) (fun (x7,x8)=>.normal) ?_ ?_
 ·refine jS ⟨[V 0 (.osl 0 0 (List.length a0) 1),V 2 (iv a2),V 7 (.s (.int .u64 (IntKind.wrap .u64 (a1)))),V 11 (bv (decide (a1 < 0)))],[(0,.rows 1 (List.map cB a0))],2⟩ ?_
  refine jIf ?_ ?_
  ·refine jR ?_
   refine jG 0 2 ⟨[V 2 (iv a2),V 7 (.s (.int .u64 (IntKind.wrap .u64 (a1)))),V 12 (.osl 0 0 (List.length a0) 1),V 13 (.osl 2 0 (List.length [45]) 1)],[(0,.rows 1 (List.map cB a0)),(2,.rows 1 (List.map cB [45]))],3⟩ ?_
   refine jr_part (i:=2) (mo:=app 1 a0 [45]) rfl rfl rfl rfl (fun _ hc=>aop_app (u:=.osl 0 0 (List.length a0) 1) (w:=.osl 2 0 (List.length [45]) 1) (e:=5) (td:=.slice 5) (by kernel_rfl) (by kernel_rfl) (by kernel_rfl) (by kernel_rfl) (.inl ⟨_,rfl⟩) (appendOf_own (c:=cB) (sz:=1) (b:=1) (id:=0) (by kernel_rfl) (by kernel_rfl) (rows_own (by kernel_rfl)) (List.cons_ne_nil _ _) hc)) (fun _=>rfl) ?_
   intro x9 h9
   refine jG 3 1 ⟨[V 0 (.osl 3 0 (List.length x9) 1),V 2 (iv a2),V 7 (.s (.int .u64 (IntKind.wrap .u64 (a1))))],[(3,.rows 1 (List.map cB x9))],4⟩ ?_
   refine jN ?_
   refine jT ⟨[V 0 (.osl 3 0 (List.length x9) 1),V 2 (iv a2),V 7 (.s (.int .u64 (IntKind.wrap .u64 (0 - (IntKind.wrap .u64 (a1))))))],[(3,.rows 1 (List.map cB x9))],4⟩ ?_
   exact jx_mid rfl (wkR [(0,some 0),(1,some 3)] (fix_of hF (k:=1) rfl) (pc (hL 3 (noid_map ni_B _)) allp_nil))
  refine jc_skip ?_
  exact jx_mid rfl (wkR [(0,some 0),(1,some 0)] (fix_of hF (k:=1) rfl) (pc (hL 0 (noid_map ni_B _)) allp_nil))
 rintro⟨x7,x8⟩
 refine jx_seqN ?_
 refine jR ?_
 refine jG 0 3 ⟨[V 17 (.osl 1 0 (List.length x7) 1),V 18 (.s (.int .u64 x8)),V 19 (iv a2)],[(1,.rows 1 (List.map cB x7))],2⟩ ?_
 refine jr_callM 3 [(0,some 1)] [(2,some 1)] (fun r:List Int=>[(2,.rows 1 (List.map cB r))]) (fun r:List Int=>.osl 2 0 (List.length r) 1) 3 (strconv_AppendUint_ok x7 x8 a2) (pc (hL 1 (noid_map ni_B _)) allp_nil) (fun r=>(pc (.inr (hL 1 (noid_map ni_B _))) allp_nil)) ?_
 rintro x10 hm2
 refine jG 4 1 ⟨[V 6 (.osl 2 0 (List.length x10) 1)],[(2,.rows 1 (List.map cB x10))],3⟩ ?_
 refine jN ?_
 refine jc_ret ?_
 exact jx_retM (istrconv_AppendInt_m3f57_T a0 a1 a2 x10) (.inr rfl) (wkR [(0,some 0),(1,some 2)] (fix_of hF (k:=1) rfl) (pc (hL 2 (noid_map ni_B _)) allp_nil)))
abbrev strconv_AppendInt_m3f57_r1:List LO:=[lo 6 (.assign (.const (.slice none 0 0))) 52]
abbrev strconv_AppendInt_m3f57_r2:List LO:=[lm 7 0 52,lm 8 1 2,lm 9 2 3,lo 10 (.call ⟨.value (.func 35),#[.tmp 7,.tmp 8,.tmp 9],#[52,2,3]⟩) 52,lo 6 (.assign (.tmp 10)) 52]
abbrev strconv_AppendInt_m3f57_c:LC:=.seq (.reg false strconv_AppendInt_m3f57_r1) (.seq (.reg false strconv_AppendInt_m3f57_r2) .ret)
theorem strconv_AppendInt_m3f57_k:FnOk E 22 11 [.tmp 6] strconv_AppendInt_m3f57_c:=⟨⟨Go.Proofs.Tryd.f22,by kernel_rfl,by kernel_rfl,by kernel_rfl,by kernel_rfl,by kernel_rfl⟩,rfl,rfl⟩
abbrev strconv_AppendInt_m3f57_T (a0:List Int) (a1:Int) (a2:Int) (r:List Int):CS:=⟨[V 6 (.osl 1 0 (List.length r) 1)],[(1,.rows 1 (List.map cB r))],2⟩
noncomputable def strconv_AppendInt_m3f57 (a0:List Int) (a1:Int) (a2:Int):Option (List Int):=Option.bind (istrconv_AppendInt_m3f57 a0 a1 a2) (fun x3=>some x3)
theorem strconv_AppendInt_m3f57_ok (a0:List Int) (a1:Int) (a2:Int):CtM E 22 [.osl 0 0 (List.length a0) 1,iv a1,iv a2] [(0,.rows 1 (List.map cB a0))] 1 (strconv_AppendInt_m3f57 a0 a1 a2) (fun r:List Int=>.osl 1 0 (List.length r) 1) (fun r:List Int=>[(1,.rows 1 (List.map cB r))]) 2:=ctm_intro (N:=11) (L:=strconv_AppendInt_m3f57_c) strconv_AppendInt_m3f57_k rfl (Nat.le_of_ble_eq_true rfl) (fun F hF=>by
 unfold strconv_AppendInt_m3f57
 refine jS ⟨[V 0 (.osl 0 0 (List.length a0) 1),V 1 (iv a1),V 2 (iv a2)],[(0,.rows 1 (List.map cB a0))],1⟩ ?_
 refine jR ?_
 refine jG 0 3 ⟨[V 7 (.osl 0 0 (List.length a0) 1),V 8 (iv a1),V 9 (iv a2)],[(0,.rows 1 (List.map cB a0))],1⟩ ?_
 refine jr_callM 3 [(0,some 0)] [(1,some 1)] (fun r:List Int=>[(1,.rows 1 (List.map cB r))]) (fun r:List Int=>.osl 1 0 (List.length r) 1) 2 (istrconv_AppendInt_m3f57_ok a0 a1 a2) (pc (hL 0 (noid_map ni_B _)) allp_nil) (fun r=>(pc (.inr (hL 1 (noid_map ni_B _))) allp_nil)) ?_
 rintro x3 hm2
 refine jG 4 1 ⟨[V 6 (.osl 1 0 (List.length x3) 1)],[(1,.rows 1 (List.map cB x3))],2⟩ ?_
 refine jN ?_
 refine jc_ret ?_
 exact jx_retM (strconv_AppendInt_m3f57_T a0 a1 a2 x3) (.inr rfl) (wkR [(0,some 0),(1,some 1)] (fix_of hF (k:=1) rfl) (pc (hL 1 (noid_map ni_B _)) allp_nil)))
abbrev rup_Text_r1:List LO:=[lo 2 (.assign (.const (.string ⟨#[]⟩))) 9]
abbrev rup_Text_r2:List LO:=[lo 3 (.assign (.const (.slice none 0 0))) 52]
abbrev rup_Text_r3:List LO:=[lm 8 0 22,lo 9 (.call ⟨.builtin .len,#[.tmp 8],#[22]⟩) 3,lo 10 (.move (.const (.int .i64 0))) 3]
abbrev rup_Text_r4:List LO:=[lo 11 (.binOp .lss 3 (.tmp 10) (.tmp 9) 3) 0]
abbrev rup_Text_r5:List LO:=[lo 12 (.indexAddr 22 (.tmp 8) (.tmp 10)) 0,lo 13 (.load 29 (.tmp 12)) 29,lo 5 (.assign (.tmp 13)) 29]
abbrev rup_Text_r6:List LO:=[lm 14 5 29,lo 15 (.call ⟨.builtin .len,#[.tmp 14],#[29]⟩) 3,lo 16 (.move (.const (.int .i64 0))) 3]
abbrev rup_Text_r7:List LO:=[lo 17 (.binOp .lss 3 (.tmp 16) (.tmp 15) 3) 0]
abbrev rup_Text_r8:List LO:=[lo 18 (.indexAddr 29 (.tmp 14) (.tmp 16)) 0,lo 19 (.load 3 (.tmp 18)) 3,lo 7 (.assign (.tmp 19)) 3]
abbrev rup_Text_r9:List LO:=[lm 20 3 52,lm 21 7 3,lo 22 (.call ⟨.value (.func 22),#[.tmp 20,.tmp 21,.const (.int .i64 10)],#[52,2,3]⟩) 52,lo 23 (.buildSlice 52 1 #[(0,.const (.int .u8 32))]) 52,lo 24 (.call ⟨.builtin .append,#[.tmp 22,.tmp 23],#[52,52]⟩) 52,lo 3 (.assign (.tmp 24)) 52]
abbrev rup_Text_r10:List LO:=[lo 25 (.binOp .add 3 (.tmp 16) (.const (.int .i64 1)) 3) 3,lm 16 25 3]
abbrev rup_Text_r11:List LO:=[lm 26 3 52,lo 27 (.call ⟨.builtin .append,#[.tmp 26,.const (.string ⟨#[48,10]⟩)],#[52,9]⟩) 52,lo 3 (.assign (.tmp 27)) 52]
abbrev rup_Text_r12:List LO:=[lo 28 (.binOp .add 3 (.tmp 10) (.const (.int .i64 1)) 3) 3,lm 10 28 3]
abbrev rup_Text_r13:List LO:=[lm 29 3 52,lo 30 (.convert 52 9 (.tmp 29)) 9,lo 2 (.assign (.tmp 30)) 9]
abbrev rup_Text_c:LC:=.seq (.reg false rup_Text_r1) (.seq (.reg false rup_Text_r2) (.seq (.seq (.reg false rup_Text_r3) (.block 0 (.loop (.seq (.reg false rup_Text_r4) (.seq (.cond (.tmp 11) .skip (.exit 0)) (.seq (.block 1 (.seq (.reg false rup_Text_r5) (.seq (.seq (.reg false rup_Text_r6) (.block 2 (.loop (.seq (.reg false rup_Text_r7) (.seq (.cond (.tmp 17) .skip (.exit 2)) (.seq (.block 3 (.seq (.reg false rup_Text_r8) (.reg false rup_Text_r9))) (.reg false rup_Text_r10))))))) (.reg false rup_Text_r11)))) (.reg false rup_Text_r12))))))) (.seq (.reg false rup_Text_r13) .ret)))
theorem rup_Text_k:FnOk E 9 31 [.tmp 2] rup_Text_c:=⟨⟨Go.Proofs.Tryd.f9,by kernel_rfl,by kernel_rfl,by kernel_rfl,by kernel_rfl,by kernel_rfl⟩,rfl,rfl⟩
noncomputable def rup_Text_l1 (x32:(List Int)):(List Int × Int)→Option (Step (List Int × Int) (List Int)):=fun (x36,x37)=>(if (decide (x37 < (List.length x32:Int)))=true then Option.bind (ixl x32 x37) (fun x44=>Option.bind (strconv_AppendInt_m3f57 x36 x44 10) (fun x45=>Option.bind (app 1 x45 [32]) (fun x46=>some (Step.next (x46,(w64 (x37 + 1))))))) else some (Step.done x36))
noncomputable def rup_Text_l2 (a0:(List (List Int))):(List Int × Int)→Option (Step (List Int × Int) (List Int)):=fun (x14,x15)=>(if (decide (x15 < (List.length a0:Int)))=true then Option.bind (ixl a0 x15) (fun x32=>Option.bind (loopC (rup_Text_l1 x32) (x14,0)) (fun x43=>Option.bind (app 1 x43 [48,10]) (fun x47=>some (Step.next (x47,(w64 (x15 + 1))))))) else some (Step.done x14))
noncomputable def rup_Text (a0:(List (List Int))):Option (Str):=Option.bind (loopC (rup_Text_l2 a0) ([],0)) (fun x31=>some (ofb x31))
theorem rup_Text_ok (a0:(List (List Int))):Ct E 9 [.fsl 1 (List.map c_L3 a0)] (rup_Text a0) (fun r:Str=>bs r):=ct_intro (N:=31) (L:=rup_Text_c) rup_Text_k rfl (Nat.le_of_ble_eq_true rfl) (by kernel_rfl) (by
 unfold rup_Text
 refine jS ⟨[V 0 (.fsl 1 (List.map c_L3 a0))],[],0⟩ ?_
 refine jS ⟨[V 0 (.fsl 1 (List.map c_L3 a0)),V 3 (nilS)],[],0⟩ ?_
 refine jc_seq ?_
 refine jR ?_
 refine jG 0 3 ⟨[V 3 (nilS),V 8 (.fsl 1 (List.map c_L3 a0)),V 9 (iv (List.length (List.map c_L3 a0):Int)),V 10 (iv 0)],[],0⟩ ?_
 simp only[List.length_map]
 refine jN ?_
 refine jc_block ?_
 refine jc_bind (fun x31=>⟨[V 3 (.osl 0 0 (List.length x31) 1)],[(0,.rows 1 (List.map cB x31))],1⟩) (fun x31=>(.exit 0)) (jc_loop (fun (x14,x15)=>⟨[V 3 (.osl 0 0 (List.length x14) 1),V 8 (.fsl 1 (List.map c_L3 a0)),V 9 (iv (List.length a0:Int)),V 10 (iv x15)],[(0,.rows 1 (List.map cB x14))],1⟩) (wkR [(0,none)] (fix_nil _) (pc hZ allp_nil)) ?_) ?_
 ·rintro⟨x14,x15⟩
  unfold rup_Text_l2
  refine jS ⟨[V 3 (.osl 0 0 (List.length x14) 1),V 8 (.fsl 1 (List.map c_L3 a0)),V 9 (iv (List.length a0:Int)),V 10 (iv x15),V 11 (bv (decide (x15 < (List.length a0:Int))))],[(0,.rows 1 (List.map cB x14))],1⟩ ?_
  refine jc_seq ?_
  refine jIf ?_ ?_
  ·refine jc_skip ?_
   refine jx_seqN ?_
   refine jc_seq ?_
   refine jc_block ?_
   refine jR ?_
   refine jr_part (i:=0) (mo:=ixl a0 x15) rfl rfl rfl rfl (fun _ hc=>aop_ixf (c:=c_L3) (sz:=1) (e:=29) (kk:=.i64) (by kernel_rfl) (by kernel_rfl) (by kernel_rfl) (by kernel_rfl) hc) (fun _=>rfl) ?_
   intro x32 h32
   refine jG 1 2 ⟨[V 3 (.osl 0 0 (List.length x14) 1),V 5 (.fsl 1 (List.map cI x32)),V 8 (.fsl 1 (List.map c_L3 a0)),V 9 (iv (List.length a0:Int)),V 10 (iv x15)],[(0,.rows 1 (List.map cB x14))],1⟩ ?_
   refine jN ?_
   refine jc_seq ?_
   refine jR ?_
   refine jG 0 3 ⟨[V 3 (.osl 0 0 (List.length x14) 1),V 8 (.fsl 1 (List.map c_L3 a0)),V 9 (iv (List.length a0:Int)),V 10 (iv x15),V 14 (.fsl 1 (List.map cI x32)),V 15 (iv (List.length (List.map cI x32):Int)),V 16 (iv 0)],[(0,.rows 1 (List.map cB x14))],1⟩ ?_
   simp only[List.length_map]
   refine jN ?_
   refine jc_block ?_
   refine jc_bind (fun x43=>⟨[V 3 (.osl 0 0 (List.length x43) 1),V 8 (.fsl 1 (List.map c_L3 a0)),V 9 (iv (List.length a0:Int)),V 10 (iv x15)],[(0,.rows 1 (List.map cB x43))],1⟩) (fun x43=>(.exit 2)) (jc_loop (fun (x36,x37)=>⟨[V 3 (.osl 0 0 (List.length x36) 1),V 8 (.fsl 1 (List.map c_L3 a0)),V 9 (iv (List.length a0:Int)),V 10 (iv x15),V 14 (.fsl 1 (List.map cI x32)),V 15 (iv (List.length x32:Int)),V 16 (iv x37)],[(0,.rows 1 (List.map cB x36))],1⟩) (wkR [(0,some 0)] (fix_nil _) (pc (hL 0 (noid_map ni_B _)) allp_nil)) ?_) ?_
   ·rintro⟨x36,x37⟩
    unfold rup_Text_l1
    refine jS ⟨[V 3 (.osl 0 0 (List.length x36) 1),V 8 (.fsl 1 (List.map c_L3 a0)),V 9 (iv (List.length a0:Int)),V 10 (iv x15),V 14 (.fsl 1 (List.map cI x32)),V 15 (iv (List.length x32:Int)),V 16 (iv x37),V 17 (bv (decide (x37 < (List.length x32:Int))))],[(0,.rows 1 (List.map cB x36))],1⟩ ?_
    refine jc_seq ?_
    refine jIf ?_ ?_
    ·refine jc_skip ?_
     refine jx_seqN ?_
     refine jc_seq ?_
     refine jc_block ?_
     refine jR ?_
     refine jr_part (i:=0) (mo:=ixl x32 x37) rfl rfl rfl rfl (fun _ hc=>aop_ixf (c:=cI) (sz:=1) (e:=3) (kk:=.i64) (by kernel_rfl) (by kernel_rfl) (by kernel_rfl) (by kernel_rfl) hc) (fun _=>rfl) ?_
     intro x44 h44
     refine jG 1 2 ⟨[V 3 (.osl 0 0 (List.length x36) 1),V 7 (iv x44),V 8 (.fsl 1 (List.map c_L3 a0)),V 9 (iv (List.length a0:Int)),V 10 (iv x15),V 14 (.fsl 1 (List.map cI x32)),V 15 (iv (List.length x32:Int)),V 16 (iv x37)],[(0,.rows 1 (List.map cB x36))],1⟩ ?_
     refine jN ?_
     refine jc_reg ?_
     refine jG 0 2 ⟨[V 8 (.fsl 1 (List.map c_L3 a0)),V 9 (iv (List.length a0:Int)),V 10 (iv x15),V 14 (.fsl 1 (List.map cI x32)),V 15 (iv (List.length x32:Int)),V 16 (iv x37),V 20 (.osl 0 0 (List.length x36) 1),V 21 (iv x44)],[(0,.rows 1 (List.map cB x36))],1⟩ ?_
     refine jr_callM 2 [(0,some 0)] [(1,some 1)] (fun r:List Int=>[(1,.rows 1 (List.map cB r))]) (fun r:List Int=>.osl 1 0 (List.length r) 1) 2 (strconv_AppendInt_m3f57_ok x36 x44 10) (pc (hL 0 (noid_map ni_B _)) allp_nil) (fun r=>(pc (.inr (hL 1 (noid_map ni_B _))) allp_nil)) ?_
     rintro x45 hm7
     refine jG 3 1 ⟨[V 8 (.fsl 1 (List.map c_L3 a0)),V 9 (iv (List.length a0:Int)),V 10 (iv x15),V 14 (.fsl 1 (List.map cI x32)),V 15 (iv (List.length x32:Int)),V 16 (iv x37),V 22 (.osl 1 0 (List.length x45) 1),V 23 (.osl 2 0 (List.length [32]) 1)],[(1,.rows 1 (List.map cB x45)),(2,.rows 1 (List.map cB [32]))],3⟩ ?_
     refine jr_part (i:=4) (mo:=app 1 x45 [32]) rfl rfl rfl rfl (fun _ hc=>aop_app (u:=.osl 1 0 (List.length x45) 1) (w:=.osl 2 0 (List.length [32]) 1) (e:=5) (td:=.slice 5) (by kernel_rfl) (by kernel_rfl) (by kernel_rfl) (by kernel_rfl) (.inl ⟨_,rfl⟩) (appendOf_own (c:=cB) (sz:=1) (b:=1) (id:=1) (by kernel_rfl) (by kernel_rfl) (rows_own (by kernel_rfl)) (List.cons_ne_nil _ _) hc)) (fun _=>rfl) ?_
     intro x46 h46
     refine jG 5 1 ⟨[V 3 (.osl 3 0 (List.length x46) 1),V 8 (.fsl 1 (List.map c_L3 a0)),V 9 (iv (List.length a0:Int)),V 10 (iv x15),V 14 (.fsl 1 (List.map cI x32)),V 15 (iv (List.length x32:Int)),V 16 (iv x37)],[(3,.rows 1 (List.map cB x46))],4⟩ ?_
     refine jr_nil rfl ?_
     refine jx_blkN ?_
     refine jx_seqN ?_
     refine jT ⟨[V 3 (.osl 3 0 (List.length x46) 1),V 8 (.fsl 1 (List.map c_L3 a0)),V 9 (iv (List.length a0:Int)),V 10 (iv x15),V 14 (.fsl 1 (List.map cI x32)),V 15 (iv (List.length x32:Int)),V 16 (iv (w64 (x37 + 1)))],[(3,.rows 1 (List.map cB x46))],4⟩ ?_
     exact jx_next (wkR [(0,some 3)] (fix_nil _) (pc (hL 3 (noid_map ni_B _)) allp_nil))
    refine jc_exit ?_
    refine jx_seqE ?_
    exact jx_done rfl nofun (wkR [(0,some 0)] (fix_nil _) (pc (hL 0 (noid_map ni_B _)) allp_nil))
   intro x43
   refine jx_blkE ?_
   refine jx_seqN ?_
   refine jc_reg ?_
   refine jG 0 1 ⟨[V 8 (.fsl 1 (List.map c_L3 a0)),V 9 (iv (List.length a0:Int)),V 10 (iv x15),V 26 (.osl 0 0 (List.length x43) 1)],[(0,.rows 1 (List.map cB x43))],1⟩ ?_
   refine jr_part (i:=1) (mo:=app 1 x43 [48,10]) rfl rfl rfl rfl (fun _ hc=>aop_app (u:=.osl 0 0 (List.length x43) 1) (w:=bs [48,10]) (e:=5) (td:=.string) (by kernel_rfl) (by kernel_rfl) (by kernel_rfl) (by kernel_rfl) (.inr rfl) (appendOf_own (c:=cB) (sz:=1) (b:=1) (id:=0) (by kernel_rfl) (by kernel_rfl) (show rowsOf _ 1 (bs [48,10])=some (List.map cB ([48,10]:List Int)) by kernel_rfl) (List.cons_ne_nil _ _) hc)) (fun _=>rfl) ?_
   intro x47 h47
   refine jG 2 1 ⟨[V 3 (.osl 1 0 (List.length x47) 1),V 8 (.fsl 1 (List.map c_L3 a0)),V 9 (iv (List.length a0:Int)),V 10 (iv x15)],[(1,.rows 1 (List.map cB x47))],2⟩ ?_
   refine jr_nil rfl ?_
   refine jx_blkN ?_
   refine jx_seqN ?_
   refine jT ⟨[V 3 (.osl 1 0 (List.length x47) 1),V 8 (.fsl 1 (List.map c_L3 a0)),V 9 (iv (List.length a0:Int)),V 10 (iv (w64 (x15 + 1)))],[(1,.rows 1 (List.map cB x47))],2⟩ ?_
   exact jx_next (wkR [(0,some 1)] (fix_nil _) (pc (hL 1 (noid_map ni_B _)) allp_nil))
  refine jc_exit ?_
  refine jx_seqE ?_
  exact jx_done rfl nofun (wkR [(0,some 0)] (fix_nil _) (pc (hL 0 (noid_map ni_B _)) allp_nil))
 intro x31
 refine jx_blkE ?_
 refine jx_seqN ?_
 refine jR ?_
 refine jG 0 1 ⟨[V 29 (.osl 0 0 (List.length x31) 1)],[(0,.rows 1 (List.map cB x31))],1⟩ ?_
 refine jr_one (i:=1) rfl rfl rfl rfl (aop_ofb_o (e:=5) (id:=0) (l:=x31) (by kernel_rfl) (by kernel_rfl) (by kernel_rfl) (by kernel_rfl) (by kernel_rfl)) rfl ?_
 refine jG 2 1 ⟨[V 2 (bs (ofb x31))],[],2⟩ ?_
 refine jN ?_
 refine jc_ret ?_
 exact jx_retF (.inr rfl) (v:=bs (ofb x31)) (by kernel_rfl) rfl (fle_refl _))
abbrev rup_reader_stuck_r1:List LO:=[lm 2 0 41,lm 3 0 41,lo 4 (.nilCheck (.tmp 3)) 0,lo 5 (.fieldAddr 43 (.tmp 4) 1) 0,lo 6 (.load 3 (.tmp 5)) 3,lo 7 (.build 25 #[(0,.const (.int .i64 10)),(1,.tmp 6)]) 25,lo 8 (.nilCheck (.tmp 2)) 0,lo 9 (.fieldAddr 43 (.tmp 8) 2) 0,ln (.store 25 (.tmp 9) (.tmp 7)) 0]
abbrev rup_reader_stuck_r2:List LO:=[lm 10 0 41,lo 11 (.nilCheck (.tmp 10)) 0,lo 12 (.fieldAddr 43 (.tmp 11) 1) 0,lo 13 (.load 3 (.tmp 12)) 3,lm 14 0 41,lo 15 (.nilCheck (.tmp 14)) 0,lo 16 (.fieldAddr 43 (.tmp 15) 0) 0,lo 17 (.load 9 (.tmp 16)) 9,lo 18 (.call ⟨.builtin .len,#[.tmp 17],#[9]⟩) 3,lo 19 (.binOp .geq 3 (.tmp 13) (.tmp 18) 3) 4]
abbrev rup_reader_stuck_r3:List LO:=[lm 20 0 41,lm 21 0 41,lo 22 (.nilCheck (.tmp 21)) 0,lo 23 (.fieldAddr 43 (.tmp 22) 0) 0,lo 24 (.load 9 (.tmp 23)) 9,lo 25 (.call ⟨.builtin .len,#[.tmp 24],#[9]⟩) 3,lo 26 (.build 25 #[(0,.const (.int .i64 11)),(1,.tmp 25)]) 25,lo 27 (.nilCheck (.tmp 20)) 0,lo 28 (.fieldAddr 43 (.tmp 27) 2) 0,ln (.store 25 (.tmp 28) (.tmp 26)) 0]
abbrev rup_reader_stuck_c:LC:=.seq (.reg false rup_reader_stuck_r1) (.seq (.reg true rup_reader_stuck_r2) (.cond (.tmp 19) (.reg false rup_reader_stuck_r3) .skip))
theorem rup_reader_stuck_k:FnOk E 28 29 [] rup_reader_stuck_c:=⟨⟨Go.Proofs.Tryd.f28,by kernel_rfl,by kernel_rfl,by kernel_rfl,by kernel_rfl,by kernel_rfl⟩,rfl,rfl⟩
abbrev rup_reader_stuck_T (a0:Str) (a1:Int) (a2:Int) (a3:Int) (r:Int × Int):CS:=⟨[],[W 0 4 [bs a0,iv a1,iv r.1,iv r.2]],1⟩
noncomputable def rup_reader_stuck (a0:Str) (a1:Int) (a2:Int) (a3:Int):Option (Int × Int):=(if (decide (a1≥(List.length a0:Int)))=true then some (11,(List.length a0:Int)) else some (10,a1))
theorem rup_reader_stuck_ok (a0:Str) (a1:Int) (a2:Int) (a3:Int):CtM E 28 [pt 0 4] [W 0 4 [bs a0,iv a1,iv a2,iv a3]] 1 (rup_reader_stuck a0 a1 a2 a3) (fun r:Int × Int=>.tup []) (fun r:Int × Int=>[W 0 4 [bs a0,iv a1,iv r.1,iv r.2]]) 1:=ctm_intro (N:=29) (L:=rup_reader_stuck_c) rup_reader_stuck_k rfl (Nat.le_of_ble_eq_true rfl) (fun F hF=>by
 unfold rup_reader_stuck
 refine jS ⟨[V 0 (pt 0 4)],[W 0 4 [bs a0,iv a1,iv 10,iv a1]],1⟩ ?_
 refine jS ⟨[V 0 (pt 0 4),V 19 (bv (decide (a1≥(List.length a0:Int))))],[W 0 4 [bs a0,iv a1,iv 10,iv a1]],1⟩ ?_
 refine jIf ?_ ?_
 ·refine jT ⟨[],[W 0 4 [bs a0,iv a1,iv 11,iv (List.length a0:Int)]],1⟩ ?_
  exact jx_retM (rup_reader_stuck_T a0 a1 a2 a3 (11,(List.length a0:Int))) (.inl rfl) (wkR [(0,some 0)] (fix_of hF (k:=1) rfl) (pc (hC 0) allp_nil))
 refine jc_skip ?_
 exact jx_retM (rup_reader_stuck_T a0 a1 a2 a3 (10,a1)) (.inl rfl) (wkR [(0,some 0)] (fix_of hF (k:=1) rfl) (pc (hC 0) allp_nil)))
abbrev rup_reader_number_r1:List LO:=[lo 2 (.assign (.const (.int .i64 0))) 3]
abbrev rup_reader_number_r2:List LO:=[lm 8 0 41,lo 9 (.nilCheck (.tmp 8)) 0,lo 10 (.fieldAddr 43 (.tmp 9) 1) 0,lo 11 (.load 3 (.tmp 10)) 3,lo 3 (.assign (.tmp 11)) 3]
abbrev rup_reader_number_r3:List LO:=[lm 12 0 41,lo 13 (.nilCheck (.tmp 12)) 0,lo 14 (.fieldAddr 43 (.tmp 13) 0) 0,lo 15 (.load 9 (.tmp 14)) 9,lm 16 0 41,lo 17 (.nilCheck (.tmp 16)) 0,lo 18 (.fieldAddr 43 (.tmp 17) 1) 0,lo 19 (.load 3 (.tmp 18)) 3,lo 20 (.index 9 (.tmp 15) (.tmp 19)) 5,lo 21 (.binOp .eql 5 (.tmp 20) (.const (.int .u8 45)) 5) 4]
abbrev rup_reader_number_r4:List LO:=[lm 22 0 41,lo 23 (.nilCheck (.tmp 22)) 0,lo 24 (.fieldAddr 43 (.tmp 23) 1) 0,lo 25 (.load 3 (.tmp 24)) 3,lo 26 (.binOp .add 3 (.tmp 25) (.const (.int .i64 1)) 3) 3,lo 27 (.nilCheck (.tmp 22)) 0,lo 28 (.fieldAddr 43 (.tmp 27) 1) 0,ln (.store 3 (.tmp 28) (.tmp 26)) 0]
abbrev rup_reader_number_r5:List LO:=[lm 29 0 41,lo 30 (.nilCheck (.tmp 29)) 0,lo 31 (.fieldAddr 43 (.tmp 30) 0) 0,lo 32 (.load 9 (.tmp 31)) 9,lm 33 0 41,lo 34 (.nilCheck (.tmp 33)) 0,lo 35 (.fieldAddr 43 (.tmp 34) 1) 0,lo 36 (.load 3 (.tmp 35)) 3,lo 37 (.call ⟨.value (.func 17),#[.tmp 32,.tmp 36,.const (.int .i64 1)],#[9,3,3]⟩) 3,lo 4 (.assign (.tmp 37)) 3]
abbrev rup_reader_number_r6:List LO:=[lm 38 0 41,lo 39 (.nilCheck (.tmp 38)) 0,lo 40 (.fieldAddr 43 (.tmp 39) 0) 0,lo 41 (.load 9 (.tmp 40)) 9,lm 42 0 41,lo 43 (.nilCheck (.tmp 42)) 0,lo 44 (.fieldAddr 43 (.tmp 43) 1) 0,lo 45 (.load 3 (.tmp 44)) 3,lm 46 4 3,lo 47 (.slice 9 (.tmp 41) (some (.tmp 45)) (some (.tmp 46)) none) 9,lo 5 (.assign (.tmp 47)) 9]
abbrev rup_reader_number_r7:List LO:=[lm 49 5 9,lo 50 (.binOp .eql 9 (.tmp 49) (.const (.string ⟨#[]⟩)) 9) 4,lm 51 50 4,lmg 52 0 41 51 false,lg 53 (.nilCheck (.tmp 52)) 0 51 false,lg 54 (.fieldAddr 43 (.tmp 53) 1) 0 51 false,lg 55 (.load 3 (.tmp 54)) 3 51 false,lmg 56 3 3 51 false,lg 57 (.binOp .gtr 3 (.tmp 55) (.tmp 56) 3) 4 51 false,lmg 58 57 4 51 false,lmg 59 5 9 58 true,lg 60 (.index 9 (.tmp 59) (.const (.int .i64 0))) 5 58 true,lg 61 (.binOp .eql 5 (.tmp 60) (.const (.int .u8 48)) 5) 4 58 true,lg 62 (.pick (.tmp 58) (.tmp 61) (.const (.bool false))) 4 51 false,lo 63 (.pick (.tmp 51) (.const (.bool true)) (.tmp 62)) 4,lo 48 (.assign (.tmp 63)) 4]
abbrev rup_reader_number_r8:List LO:=[lm 64 0 41,lo 65 (.call ⟨.value (.func 28),#[.tmp 64],#[41]⟩) 0]
abbrev rup_reader_number_r9:List LO:=[lm 67 5 9,lo 68 (.index 9 (.tmp 67) (.const (.int .i64 0))) 5,lo 69 (.binOp .eql 5 (.tmp 68) (.const (.int .u8 48)) 5) 4,lm 70 69 4,lmg 71 5 9 70 true,lg 72 (.call ⟨.builtin .len,#[.tmp 71],#[9]⟩) 3 70 true,lg 73 (.binOp .gtr 3 (.tmp 72) (.const (.int .i64 1)) 3) 4 70 true,lo 74 (.pick (.tmp 70) (.tmp 73) (.const (.bool false))) 4,lo 66 (.assign (.tmp 74)) 4]
abbrev rup_reader_number_r10:List LO:=[lm 75 0 41,lo 76 (.nilCheck (.tmp 75)) 0,lo 77 (.fieldAddr 43 (.tmp 76) 1) 0,lo 78 (.load 3 (.tmp 77)) 3,lo 79 (.binOp .add 3 (.tmp 78) (.const (.int .i64 1)) 3) 3,lo 80 (.nilCheck (.tmp 75)) 0,lo 81 (.fieldAddr 43 (.tmp 80) 1) 0,ln (.store 3 (.tmp 81) (.tmp 79)) 0]
abbrev rup_reader_number_r11:List LO:=[lm 82 0 41,lo 83 (.call ⟨.value (.func 28),#[.tmp 82],#[41]⟩) 0]
abbrev rup_reader_number_r12:List LO:=[lm 85 4 3,lm 86 0 41,lo 87 (.nilCheck (.tmp 86)) 0,lo 88 (.fieldAddr 43 (.tmp 87) 0) 0,lo 89 (.load 9 (.tmp 88)) 9,lo 90 (.call ⟨.builtin .len,#[.tmp 89],#[9]⟩) 3,lo 91 (.binOp .lss 3 (.tmp 85) (.tmp 90) 3) 4,lm 92 91 4,lmg 93 0 41 92 true,lg 94 (.nilCheck (.tmp 93)) 0 92 true,lg 95 (.fieldAddr 43 (.tmp 94) 0) 0 92 true,lg 96 (.load 9 (.tmp 95)) 9 92 true,lmg 97 4 3 92 true,lg 98 (.index 9 (.tmp 96) (.tmp 97)) 5 92 true,lg 99 (.call ⟨.value (.func 27),#[.tmp 98,.const (.int .i64 7)],#[5,3]⟩) 4 92 true,lg 100 (.unOp .not 4 (.tmp 99)) 4 92 true,lo 101 (.pick (.tmp 92) (.tmp 100) (.const (.bool false))) 4,lo 84 (.assign (.tmp 101)) 4]
abbrev rup_reader_number_r13:List LO:=[lm 102 0 41,lm 103 4 3,lo 104 (.nilCheck (.tmp 102)) 0,lo 105 (.fieldAddr 43 (.tmp 104) 1) 0,ln (.store 3 (.tmp 105) (.tmp 103)) 0]
abbrev rup_reader_number_r14:List LO:=[lm 106 0 41,lo 107 (.call ⟨.value (.func 28),#[.tmp 106],#[41]⟩) 0]
abbrev rup_reader_number_r15:List LO:=[lm 109 5 9,lo 110 (.call ⟨.value (.func 30),#[.const (.int .i64 4096)],#[3]⟩) 9,lo 111 (.call ⟨.value (.func 29),#[.tmp 109,.tmp 110],#[9,9]⟩) 3,lo 112 (.binOp .gtr 3 (.tmp 111) (.const (.int .i64 0)) 3) 4,lo 108 (.assign (.tmp 112)) 4]
abbrev rup_reader_number_r16:List LO:=[lm 113 0 41,lm 114 3 3,lo 115 (.build 25 #[(0,.const (.int .i64 30)),(1,.tmp 114)]) 25,lo 116 (.nilCheck (.tmp 113)) 0,lo 117 (.fieldAddr 43 (.tmp 116) 2) 0,ln (.store 25 (.tmp 117) (.tmp 115)) 0]
abbrev rup_reader_number_r17:List LO:=[lm 118 0 41,lm 119 4 3,lo 120 (.nilCheck (.tmp 118)) 0,lo 121 (.fieldAddr 43 (.tmp 120) 1) 0,ln (.store 3 (.tmp 121) (.tmp 119)) 0]
abbrev rup_reader_number_r18:List LO:=[lm 123 0 41,lo 124 (.nilCheck (.tmp 123)) 0,lo 125 (.fieldAddr 43 (.tmp 124) 0) 0,lo 126 (.load 9 (.tmp 125)) 9,lm 127 3 3,lm 128 4 3,lo 129 (.slice 9 (.tmp 126) (some (.tmp 127)) (some (.tmp 128)) none) 9,lo 130 (.call ⟨.value (.func 21),#[.tmp 129],#[9]⟩) 50,lm 122 130 50,lo 131 (.extract (.tmp 122) 0) 3,lo 132 (.extract (.tmp 122) 1) 49,lo 6 (.assign (.tmp 131)) 3,lo 7 (.assign (.tmp 132)) 49]
abbrev rup_reader_number_r19:List LO:=[lm 133 6 3,lo 2 (.assign (.tmp 133)) 3]
abbrev rup_reader_number_c:LC:=.seq (.reg false rup_reader_number_r1) (.seq (.reg false rup_reader_number_r2) (.seq (.seq (.reg true rup_reader_number_r3) (.cond (.tmp 21) (.reg false rup_reader_number_r4) .skip)) (.seq (.reg true rup_reader_number_r5) (.seq (.reg true rup_reader_number_r6) (.seq (.block 0 (.seq (.reg false rup_reader_number_r7) (.cond (.tmp 48) (.reg false rup_reader_number_r8) (.seq (.reg false rup_reader_number_r9) (.cond (.tmp 66) (.seq (.reg false rup_reader_number_r10) (.reg false rup_reader_number_r11)) (.seq (.reg false rup_reader_number_r12) (.cond (.tmp 84) (.seq (.reg false rup_reader_number_r13) (.reg false rup_reader_number_r14)) (.seq (.reg false rup_reader_number_r15) (.cond (.tmp 108) (.reg false rup_reader_number_r16) .skip))))))))) (.seq (.reg false rup_reader_number_r17) (.seq (.reg false rup_reader_number_r18) (.seq (.reg false rup_reader_number_r19) .ret))))))))
theorem rup_reader_number_k:FnOk E 18 134 [.tmp 2] rup_reader_number_c:=⟨⟨Go.Proofs.Tryd.f18,by kernel_rfl,by kernel_rfl,by kernel_rfl,by kernel_rfl,by kernel_rfl⟩,rfl,rfl⟩
abbrev rup_reader_number_T (a0:Str) (a1:Int) (a2:Int) (a3:Int) (r:Int × Int × Int × Int):CS:=⟨[V 2 (iv r.1)],[W 0 4 [bs a0,iv r.2.1,iv r.2.2.1,iv r.2.2.2]],1⟩
noncomputable def rup_reader_number (a0:Str) (a1:Int) (a2:Int) (a3:Int):Option (Int × Int × Int × Int):=Option.bind (Option.bind (idx a0 a1) (fun x31=>(if (x31 == 45)=true then some (w64 (a1 + 1)) else some a1)):Option (Int)) (fun x30=>Option.bind (scan_Run a0 x30 1) (fun x32=>Option.bind (subl a0 x30 x32) (fun x33=>Option.bind (Option.bind (if (x33 == [])=true then some true else Option.bind (if (decide (x30 > a1))=true then Option.bind (idx x33 0) (fun x57=>some (x57 == 48)) else some false:Option (Bool)) (fun x56=>some (false || x56)):Option (Bool)) (fun x54=>(if x54=true then Option.bind (rup_reader_stuck a0 x30 a2 a3) (fun (x58,x59)=>some (x30,x58,x59)) else Option.bind (idx x33 0) (fun x60=>(if ((x60 == 48) && (decide ((List.length x33:Int) > 1)))=true then Option.bind (rup_reader_stuck a0 (w64 (x30 + 1)) a2 a3) (fun (x61,x62)=>some ((w64 (x30 + 1)),x61,x62)) else Option.bind (if (decide (x32 < (List.length a0:Int)))=true then Option.bind (idx a0 x32) (fun x66=>Option.bind (scan_Is x66 7) (fun x67=>some (!x67))) else some false:Option (Bool)) (fun x65=>(if x65=true then Option.bind (rup_reader_stuck a0 x32 a2 a3) (fun (x68,x69)=>some (x32,x68,x69)) else Option.bind (strconv_Itoa 4096) (fun x70=>Option.bind (scan_Cmp x33 x70) (fun x71=>(if (decide (x71 > 0))=true then some (x30,30,a1) else some (x30,a2,a3)))))))))):Option (Int × Int × Int)) (fun (x49,x50,x51)=>Option.bind (subl a0 a1 x32) (fun x72=>Option.bind (strconv_Atoi x72) (fun x73=>some (x73,x32,x50,x51)))))))
theorem rup_reader_number_ok (a0:Str) (a1:Int) (a2:Int) (a3:Int):CtM E 18 [pt 0 4] [W 0 4 [bs a0,iv a1,iv a2,iv a3]] 1 (rup_reader_number a0 a1 a2 a3) (fun r:Int × Int × Int × Int=>iv r.1) (fun r:Int × Int × Int × Int=>[W 0 4 [bs a0,iv r.2.1,iv r.2.2.1,iv r.2.2.2]]) 1:=ctm_intro (N:=134) (L:=rup_reader_number_c) rup_reader_number_k rfl (Nat.le_of_ble_eq_true rfl) (fun F hF=>by
 unfold rup_reader_number
 refine jS ⟨[V 0 (pt 0 4)],[W 0 4 [bs a0,iv a1,iv a2,iv a3]],1⟩ ?_
 refine jS ⟨[V 0 (pt 0 4),V 3 (iv a1)],[W 0 4 [bs a0,iv a1,iv a2,iv a3]],1⟩ ?_
 refine jc_seq ?_
 refine jc_bind (fun x30=>⟨[V 0 (pt 0 4),V 3 (iv a1)],[W 0 4 [bs a0,iv x30,iv a2,iv a3]],1⟩) (fun x30=>.normal) ?_ ?_
 ·refine jR ?_
  refine jG 0 8 ⟨[V 0 (pt 0 4),V 3 (iv a1),V 15 (bs a0),V 19 (iv a1)],[W 0 4 [bs a0,iv a1,iv a2,iv a3]],1⟩ ?_
  refine jr_part (i:=8) (mo:=idx a0 a1) rfl rfl rfl rfl (fun _ hc=>aop_index (kk:=.i64) (by kernel_rfl) (by kernel_rfl) (by kernel_rfl) hc) (fun _=>rfl) ?_
  intro x31 h31
  refine jG 9 1 ⟨[V 0 (pt 0 4),V 3 (iv a1),V 21 (bv (x31 == 45))],[W 0 4 [bs a0,iv a1,iv a2,iv a3]],1⟩ ?_
  refine jN ?_
  refine jIf ?_ ?_
  ·refine jT ⟨[V 0 (pt 0 4),V 3 (iv a1)],[W 0 4 [bs a0,iv (w64 (a1 + 1)),iv a2,iv a3]],1⟩ ?_
   exact jx_mid rfl (wkR [(0,some 0)] (fix_of hF (k:=1) rfl) (pc (hC 0) allp_nil))
  refine jc_skip ?_
  exact jx_mid rfl (wkR [(0,some 0)] (fix_of hF (k:=1) rfl) (pc (hC 0) allp_nil))
 intro x30
 refine jx_seqN ?_
 refine jR ?_
 refine jG 0 8 ⟨[V 0 (pt 0 4),V 3 (iv a1),V 32 (bs a0),V 36 (iv x30)],[W 0 4 [bs a0,iv x30,iv a2,iv a3]],1⟩ ?_
 refine jK 8 (scan_Run_ok a0 x30 1) ?_
 intro x32 h32
 refine jG 9 1 ⟨[V 0 (pt 0 4),V 3 (iv a1),V 4 (iv x32)],[W 0 4 [bs a0,iv x30,iv a2,iv a3]],1⟩ ?_
 refine jN ?_
 refine jR ?_
 refine jG 0 9 ⟨[V 0 (pt 0 4),V 3 (iv a1),V 4 (iv x32),V 41 (bs a0),V 45 (iv x30),V 46 (iv x32)],[W 0 4 [bs a0,iv x30,iv a2,iv a3]],1⟩ ?_
 refine jr_part (i:=9) (mo:=subl a0 x30 x32) rfl rfl rfl rfl (fun _ hc=>aop_subs (by kernel_rfl) (by kernel_rfl) (by kernel_rfl) (by kernel_rfl) hc) (fun _=>rfl) ?_
 intro x33 h33
 refine jG 10 1 ⟨[V 0 (pt 0 4),V 3 (iv a1),V 4 (iv x32),V 5 (bs x33)],[W 0 4 [bs a0,iv x30,iv a2,iv a3]],1⟩ ?_
 refine jN ?_
 refine jc_seq ?_
 refine jc_bind (fun (x49,x50,x51)=>⟨[V 0 (pt 0 4),V 3 (iv a1),V 4 (iv x32)],[W 0 4 [bs a0,iv x49,iv x50,iv x51]],1⟩) (fun (x49,x50,x51)=>.normal) ?_ ?_
 ·refine jc_block ?_
  refine jR ?_
  refine jG 0 3 ⟨[V 0 (pt 0 4),V 3 (iv a1),V 4 (iv x32),V 5 (bs x33),V 51 (bv (x33 == []))],[W 0 4 [bs a0,iv x30,iv a2,iv a3]],1⟩ ?_
  refine jr_bind 3 12 (fun x54=>⟨[V 0 (pt 0 4),V 3 (iv a1),V 4 (iv x32),V 5 (bs x33),V 63 (bv x54)],[W 0 4 [bs a0,iv x30,iv a2,iv a3]],1⟩) ?_ ?_
  ·refine jSp 51 ?_ ?_
   ·refine jG 0 12 ⟨[V 0 (pt 0 4),V 3 (iv a1),V 4 (iv x32),V 5 (bs x33),V 63 (bv true)],[W 0 4 [bs a0,iv x30,iv a2,iv a3]],1⟩ ?_
    refine jr_nil rfl ?_
    exact jx_mid rfl (wkR [(0,some 0)] (fix_of hF (k:=1) rfl) (pc (hC 0) allp_nil))
   refine jG 0 7 ⟨[V 0 (pt 0 4),V 3 (iv a1),V 4 (iv x32),V 5 (bs x33),(51,.lit false),V 58 (bv (decide (x30 > a1)))],[W 0 4 [bs a0,iv x30,iv a2,iv a3]],1⟩ ?_
   refine jr_bind 7 4 (fun x56=>⟨[V 0 (pt 0 4),V 3 (iv a1),V 4 (iv x32),V 5 (bs x33),V 51 (bv false),V 62 (bv x56)],[W 0 4 [bs a0,iv x30,iv a2,iv a3]],1⟩) ?_ ?_
   ·refine jSp 58 ?_ ?_
    ·refine jG 0 1 ⟨[V 0 (pt 0 4),V 3 (iv a1),V 4 (iv x32),V 5 (bs x33),(51,.lit false),(58,.lit true),V 59 (bs x33)],[W 0 4 [bs a0,iv x30,iv a2,iv a3]],1⟩ ?_
     refine jr_part (i:=1) (mo:=idx x33 0) rfl rfl rfl rfl (fun _ hc=>aop_index (kk:=.i64) (by kernel_rfl) (by kernel_rfl) (by kernel_rfl) hc) (fun _=>rfl) ?_
     intro x57 h57
     refine jG 2 2 ⟨[V 0 (pt 0 4),V 3 (iv a1),V 4 (iv x32),V 5 (bs x33),(51,.lit false),V 62 (bv (x57 == 48))],[W 0 4 [bs a0,iv x30,iv a2,iv a3]],1⟩ ?_
     refine jr_nil rfl ?_
     exact jx_mid rfl (wkR [(0,some 0)] (fix_of hF (k:=1) rfl) (pc (hC 0) allp_nil))
    refine jG 0 4 ⟨[V 0 (pt 0 4),V 3 (iv a1),V 4 (iv x32),V 5 (bs x33),(51,.lit false),V 62 (bv false)],[W 0 4 [bs a0,iv x30,iv a2,iv a3]],1⟩ ?_
    refine jr_nil rfl ?_
    exact jx_mid rfl (wkR [(0,some 0)] (fix_of hF (k:=1) rfl) (pc (hC 0) allp_nil))
   intro x56
   refine jG 11 1 ⟨[V 0 (pt 0 4),V 3 (iv a1),V 4 (iv x32),V 5 (bs x33),V 63 (bv (false || x56))],[W 0 4 [bs a0,iv x30,iv a2,iv a3]],1⟩ ?_
   refine jr_nil rfl ?_
   exact jx_mid rfl (wkR [(0,some 0)] (fix_of hF (k:=1) rfl) (pc (hC 0) allp_nil))
  intro x54
  refine jG 15 1 ⟨[V 0 (pt 0 4),V 3 (iv a1),V 4 (iv x32),V 5 (bs x33),V 48 (bv x54)],[W 0 4 [bs a0,iv x30,iv a2,iv a3]],1⟩ ?_
  refine jN ?_
  refine jIf ?_ ?_
  ·refine jc_reg ?_
   refine jG 0 1 ⟨[V 0 (pt 0 4),V 3 (iv a1),V 4 (iv x32),V 64 (pt 0 4)],[W 0 4 [bs a0,iv x30,iv a2,iv a3]],1⟩ ?_
   refine jr_callM 1 [(0,some 0)] [(0,some 0)] (fun r:Int × Int=>[W 0 4 [bs a0,iv x30,iv r.1,iv r.2]]) (fun r:Int × Int=>.tup []) 1 (rup_reader_stuck_ok a0 x30 a2 a3) (pc (hC 0) allp_nil) (fun r=>(pc (.inr (hC 0)) allp_nil)) ?_
   rintro⟨x58,x59⟩ hm7
   refine jr_nil rfl ?_
   refine jx_blkN ?_
   exact jx_mid rfl (wkR [(0,some 0)] (fix_of hF (k:=1) rfl) (pc (hC 0) allp_nil))
  refine jR ?_
  refine jG 0 1 ⟨[V 0 (pt 0 4),V 3 (iv a1),V 4 (iv x32),V 5 (bs x33),V 67 (bs x33)],[W 0 4 [bs a0,iv x30,iv a2,iv a3]],1⟩ ?_
  refine jr_part (i:=1) (mo:=idx x33 0) rfl rfl rfl rfl (fun _ hc=>aop_index (kk:=.i64) (by kernel_rfl) (by kernel_rfl) (by kernel_rfl) hc) (fun _=>rfl) ?_
  intro x60 h60
  refine jG 2 7 ⟨[V 0 (pt 0 4),V 3 (iv a1),V 4 (iv x32),V 5 (bs x33),V 66 (bv ((x60 == 48) && (decide ((List.length x33:Int) > 1))))],[W 0 4 [bs a0,iv x30,iv a2,iv a3]],1⟩ ?_
  refine jN ?_
  refine jIf ?_ ?_
  ·refine jS ⟨[V 0 (pt 0 4),V 3 (iv a1),V 4 (iv x32)],[W 0 4 [bs a0,iv (w64 (x30 + 1)),iv a2,iv a3]],1⟩ ?_
   refine jc_reg ?_
   refine jG 0 1 ⟨[V 0 (pt 0 4),V 3 (iv a1),V 4 (iv x32),V 82 (pt 0 4)],[W 0 4 [bs a0,iv (w64 (x30 + 1)),iv a2,iv a3]],1⟩ ?_
   refine jr_callM 1 [(0,some 0)] [(0,some 0)] (fun r:Int × Int=>[W 0 4 [bs a0,iv (w64 (x30 + 1)),iv r.1,iv r.2]]) (fun r:Int × Int=>.tup []) 1 (rup_reader_stuck_ok a0 (w64 (x30 + 1)) a2 a3) (pc (hC 0) allp_nil) (fun r=>(pc (.inr (hC 0)) allp_nil)) ?_
   rintro⟨x61,x62⟩ hm8
   refine jr_nil rfl ?_
   refine jx_blkN ?_
   exact jx_mid rfl (wkR [(0,some 0)] (fix_of hF (k:=1) rfl) (pc (hC 0) allp_nil))
  refine jR ?_
  refine jG 0 8 ⟨[V 0 (pt 0 4),V 3 (iv a1),V 4 (iv x32),V 5 (bs x33),V 92 (bv (decide (x32 < (List.length a0:Int))))],[W 0 4 [bs a0,iv x30,iv a2,iv a3]],1⟩ ?_
  refine jr_bind 8 9 (fun x65=>⟨[V 0 (pt 0 4),V 3 (iv a1),V 4 (iv x32),V 5 (bs x33),V 101 (bv x65)],[W 0 4 [bs a0,iv x30,iv a2,iv a3]],1⟩) ?_ ?_
  ·refine jSp 92 ?_ ?_
   ·refine jG 0 5 ⟨[V 0 (pt 0 4),V 3 (iv a1),V 4 (iv x32),V 5 (bs x33),(92,.lit true),V 96 (bs a0),V 97 (iv x32)],[W 0 4 [bs a0,iv x30,iv a2,iv a3]],1⟩ ?_
    refine jr_part (i:=5) (mo:=idx a0 x32) rfl rfl rfl rfl (fun _ hc=>aop_index (kk:=.i64) (by kernel_rfl) (by kernel_rfl) (by kernel_rfl) hc) (fun _=>rfl) ?_
    intro x66 h66
    refine jK 6 (scan_Is_ok x66 7) ?_
    intro x67 h67
    refine jG 7 2 ⟨[V 0 (pt 0 4),V 3 (iv a1),V 4 (iv x32),V 5 (bs x33),V 101 (bv (!x67))],[W 0 4 [bs a0,iv x30,iv a2,iv a3]],1⟩ ?_
    refine jr_nil rfl ?_
    exact jx_mid rfl (wkR [(0,some 0)] (fix_of hF (k:=1) rfl) (pc (hC 0) allp_nil))
   refine jG 0 9 ⟨[V 0 (pt 0 4),V 3 (iv a1),V 4 (iv x32),V 5 (bs x33),V 101 (bv false)],[W 0 4 [bs a0,iv x30,iv a2,iv a3]],1⟩ ?_
   refine jr_nil rfl ?_
   exact jx_mid rfl (wkR [(0,some 0)] (fix_of hF (k:=1) rfl) (pc (hC 0) allp_nil))
  intro x65
  refine jG 17 1 ⟨[V 0 (pt 0 4),V 3 (iv a1),V 4 (iv x32),V 5 (bs x33),V 84 (bv x65)],[W 0 4 [bs a0,iv x30,iv a2,iv a3]],1⟩ ?_
  refine jN ?_
  refine jIf ?_ ?_
  ·refine jS ⟨[V 0 (pt 0 4),V 3 (iv a1),V 4 (iv x32)],[W 0 4 [bs a0,iv x32,iv a2,iv a3]],1⟩ ?_
   refine jc_reg ?_
   refine jG 0 1 ⟨[V 0 (pt 0 4),V 3 (iv a1),V 4 (iv x32),V 106 (pt 0 4)],[W 0 4 [bs a0,iv x32,iv a2,iv a3]],1⟩ ?_
   refine jr_callM 1 [(0,some 0)] [(0,some 0)] (fun r:Int × Int=>[W 0 4 [bs a0,iv x32,iv r.1,iv r.2]]) (fun r:Int × Int=>.tup []) 1 (rup_reader_stuck_ok a0 x32 a2 a3) (pc (hC 0) allp_nil) (fun r=>(pc (.inr (hC 0)) allp_nil)) ?_
   rintro⟨x68,x69⟩ hm9
   refine jr_nil rfl ?_
   refine jx_blkN ?_
   exact jx_mid rfl (wkR [(0,some 0)] (fix_of hF (k:=1) rfl) (pc (hC 0) allp_nil))
  refine jR ?_
  refine jG 0 1 ⟨[V 0 (pt 0 4),V 3 (iv a1),V 4 (iv x32),V 109 (bs x33)],[W 0 4 [bs a0,iv x30,iv a2,iv a3]],1⟩ ?_
  refine jr_callPF (i:=1) rfl rfl (vs:=[iv 4096]) (by kernel_rfl) rfl (strconv_Itoa_ok 4096) (fun _=>rfl) ?_
  intro x70 h70
  refine jK 2 (scan_Cmp_ok x33 x70) ?_
  intro x71 h71
  refine jG 3 2 ⟨[V 0 (pt 0 4),V 3 (iv a1),V 4 (iv x32),V 108 (bv (decide (x71 > 0)))],[W 0 4 [bs a0,iv x30,iv a2,iv a3]],1⟩ ?_
  refine jN ?_
  refine jIf ?_ ?_
  ·refine jT ⟨[V 0 (pt 0 4),V 3 (iv a1),V 4 (iv x32)],[W 0 4 [bs a0,iv x30,iv 30,iv a1]],1⟩ ?_
   refine jx_blkN ?_
   exact jx_mid rfl (wkR [(0,some 0)] (fix_of hF (k:=1) rfl) (pc (hC 0) allp_nil))
  refine jc_skip ?_
  refine jx_blkN ?_
  exact jx_mid rfl (wkR [(0,some 0)] (fix_of hF (k:=1) rfl) (pc (hC 0) allp_nil))
 rintro⟨x49,x50,x51⟩
 refine jx_seqN ?_
 refine jS ⟨[V 0 (pt 0 4),V 3 (iv a1),V 4 (iv x32)],[W 0 4 [bs a0,iv x32,iv x50,iv x51]],1⟩ ?_
 refine jR ?_
 refine jG 0 6 ⟨[V 126 (bs a0),V 127 (iv a1),V 128 (iv x32)],[W 0 4 [bs a0,iv x32,iv x50,iv x51]],1⟩ ?_
 refine jr_part (i:=6) (mo:=subl a0 a1 x32) rfl rfl rfl rfl (fun _ hc=>aop_subs (by kernel_rfl) (by kernel_rfl) (by kernel_rfl) (by kernel_rfl) hc) (fun _=>rfl) ?_
 intro x72 h72
 refine jr_callPF (i:=7) rfl rfl (vs:=[bs x72]) (by kernel_rfl) rfl (strconv_Atoi_ok x72) (fun _=>rfl) ?_
 intro x73 h73
 refine jG 8 5 ⟨[V 6 (iv x73)],[W 0 4 [bs a0,iv x32,iv x50,iv x51]],1⟩ ?_
 refine jN ?_
 refine jS ⟨[V 2 (iv x73)],[W 0 4 [bs a0,iv x32,iv x50,iv x51]],1⟩ ?_
 refine jc_ret ?_
 exact jx_retM (rup_reader_number_T a0 a1 a2 a3 (x73,x32,x50,x51)) (.inr rfl) (wkR [(0,some 0)] (fix_of hF (k:=1) rfl) (pc (hC 0) allp_nil)))
abbrev rup_Parse_r1:List LO:=[lo 2 (.assign (.const (.slice none 0 0))) 22,lo 3 (.alloc 25) 0]
abbrev rup_Parse_r2:List LO:=[lm 8 0 9,lo 9 (.call ⟨.builtin .len,#[.tmp 8],#[9]⟩) 3,lo 10 (.binOp .gtr 3 (.tmp 9) (.const (.int .i64 65536)) 3) 4]
abbrev rup_Parse_r3:List LO:=[lo 11 (.build 25 #[(0,.const (.int .i64 12)),(1,.const (.int .i64 65536))]) 25,lo 2 (.assign (.const (.slice none 0 0))) 22,ln (.store 25 (.tmp 3) (.tmp 11)) 0]
abbrev rup_Parse_r4:List LO:=[lm 12 0 9,lo 13 (.build 43 #[(0,.tmp 12)]) 43,lo 14 (.box 43 (.tmp 13)) 41,lo 4 (.assign (.tmp 14)) 41]
abbrev rup_Parse_r5:List LO:=[lo 5 (.assign (.const (.slice none 0 0))) 22]
abbrev rup_Parse_r6:List LO:=[lo 6 (.assign (.const (.slice none 0 0))) 29]
abbrev rup_Parse_r7:List LO:=[lm 15 4 41,lm 16 0 9,lo 17 (.call ⟨.value (.func 17),#[.tmp 16,.const (.int .i64 0),.const (.int .i64 7)],#[9,3,3]⟩) 3,lo 18 (.nilCheck (.tmp 15)) 0,lo 19 (.fieldAddr 43 (.tmp 18) 1) 0,ln (.store 3 (.tmp 19) (.tmp 17)) 0]
abbrev rup_Parse_r8:List LO:=[lm 20 4 41,lo 21 (.nilCheck (.tmp 20)) 0,lo 22 (.fieldAddr 43 (.tmp 21) 1) 0,lo 23 (.load 3 (.tmp 22)) 3,lm 24 0 9,lo 25 (.call ⟨.builtin .len,#[.tmp 24],#[9]⟩) 3,lo 26 (.binOp .lss 3 (.tmp 23) (.tmp 25) 3) 4]
abbrev rup_Parse_r9:List LO:=[lm 36 4 41,lo 37 (.call ⟨.value (.func 18),#[.tmp 36],#[41]⟩) 3,lo 7 (.assign (.tmp 37)) 3]
abbrev rup_Parse_r10:List LO:=[lm 43 4 41,lo 44 (.nilCheck (.tmp 43)) 0,lo 45 (.fieldAddr 43 (.tmp 44) 2) 0,lo 46 (.fieldAddr 25 (.tmp 45) 0) 0,lo 47 (.load 23 (.tmp 46)) 23,lo 48 (.binOp .neq 23 (.tmp 47) (.const (.int .i64 0)) 23) 4,lo 42 (.assign (.tmp 48)) 4]
abbrev rup_Parse_r11:List LO:=[lm 49 4 41,lo 50 (.nilCheck (.tmp 49)) 0,lo 51 (.fieldAddr 43 (.tmp 50) 2) 0,lo 52 (.load 25 (.tmp 51)) 25,lo 2 (.assign (.const (.slice none 0 0))) 22,ln (.store 25 (.tmp 3) (.tmp 52)) 0]
abbrev rup_Parse_r12:List LO:=[lm 54 7 3,lo 55 (.binOp .eql 3 (.tmp 54) (.const (.int .i64 0)) 3) 4,lo 53 (.assign (.tmp 55)) 4]
abbrev rup_Parse_r13:List LO:=[lm 56 5 22,lm 57 6 29,lo 58 (.buildSlice 22 1 #[(0,.tmp 57)]) 22,lo 59 (.call ⟨.builtin .append,#[.tmp 56,.tmp 58],#[22,22]⟩) 22,lo 5 (.assign (.tmp 59)) 22]
abbrev rup_Parse_r14:List LO:=[lo 6 (.assign (.const (.slice none 0 0))) 29]
abbrev rup_Parse_r15:List LO:=[lm 38 6 29,lm 39 7 3,lo 40 (.buildSlice 29 1 #[(0,.tmp 39)]) 29,lo 41 (.call ⟨.builtin .append,#[.tmp 38,.tmp 40],#[29,29]⟩) 29,lo 6 (.assign (.tmp 41)) 29]
abbrev rup_Parse_r16:List LO:=[lm 27 4 41,lm 28 0 9,lm 29 4 41,lo 30 (.nilCheck (.tmp 29)) 0,lo 31 (.fieldAddr 43 (.tmp 30) 1) 0,lo 32 (.load 3 (.tmp 31)) 3,lo 33 (.call ⟨.value (.func 17),#[.tmp 28,.tmp 32,.const (.int .i64 7)],#[9,3,3]⟩) 3,lo 34 (.nilCheck (.tmp 27)) 0,lo 35 (.fieldAddr 43 (.tmp 34) 1) 0,ln (.store 3 (.tmp 35) (.tmp 33)) 0]
abbrev rup_Parse_r17:List LO:=[lm 60 6 29,lo 61 (.call ⟨.builtin .len,#[.tmp 60],#[29]⟩) 3,lo 62 (.binOp .gtr 3 (.tmp 61) (.const (.int .i64 0)) 3) 4]
abbrev rup_Parse_r18:List LO:=[lm 63 0 9,lo 64 (.call ⟨.builtin .len,#[.tmp 63],#[9]⟩) 3,lo 65 (.build 25 #[(0,.const (.int .i64 11)),(1,.tmp 64)]) 25,lo 2 (.assign (.const (.slice none 0 0))) 22,ln (.store 25 (.tmp 3) (.tmp 65)) 0]
abbrev rup_Parse_r19:List LO:=[lm 66 5 22,lo 67 (.build 25 #[]) 25,lo 2 (.assign (.tmp 66)) 22,ln (.store 25 (.tmp 3) (.tmp 67)) 0]
abbrev rup_Parse_c:LC:=.seq (.reg false rup_Parse_r1) (.seq (.seq (.reg false rup_Parse_r2) (.cond (.tmp 10) (.seq (.reg false rup_Parse_r3) .ret) .skip)) (.seq (.reg false rup_Parse_r4) (.seq (.reg false rup_Parse_r5) (.seq (.reg false rup_Parse_r6) (.seq (.seq (.reg false rup_Parse_r7) (.block 0 (.loop (.seq (.seq (.reg false rup_Parse_r8) (.cond (.tmp 26) .skip (.exit 0))) (.seq (.block 1 (.seq (.reg false rup_Parse_r9) (.block 2 (.seq (.reg false rup_Parse_r10) (.cond (.tmp 42) (.seq (.reg true rup_Parse_r11) .ret) (.seq (.reg false rup_Parse_r12) (.cond (.tmp 53) (.seq (.reg false rup_Parse_r13) (.reg false rup_Parse_r14)) (.reg false rup_Parse_r15)))))))) (.reg false rup_Parse_r16)))))) (.seq (.seq (.reg false rup_Parse_r17) (.cond (.tmp 62) (.seq (.reg false rup_Parse_r18) .ret) .skip)) (.seq (.reg false rup_Parse_r19) .ret)))))))
theorem rup_Parse_k:FnOk E 6 68 [.tmp 2,.cell 3 25] rup_Parse_c:=⟨⟨Go.Proofs.Tryd.f6,by kernel_rfl,by kernel_rfl,by kernel_rfl,by kernel_rfl,by kernel_rfl⟩,rfl,rfl⟩
noncomputable def rup_Parse_l1 (a0:Str):(Int × Int × Int × List (List Int) × List Int)→Option (Step (Int × Int × Int × List (List Int) × List Int) ((Int × Int) ⊕ (List (List Int) × List Int))):=fun (x16,x17,x18,x19,x20)=>(if (decide (x16 < (List.length a0:Int)))=true then Option.bind (Option.bind (rup_reader_number a0 x16 x17 x18) (fun (x57,x58,x59,x60)=>(if (x59 != 0)=true then some (Sum.inl (x59,x60)) else (if (x57 == 0)=true then Option.bind (app 24 x19 [x20]) (fun x61=>some (Sum.inr (x58,x59,x60,x61,[]))) else Option.bind (app 8 x20 [x57]) (fun x62=>some (Sum.inr (x58,x59,x60,x19,x62)))))):Option ((Int × Int) ⊕ (Int × Int × Int × List (List Int) × List Int))) (fun y=>match y with | Sum.inl (x50,x51)=>some (Step.done (Sum.inl (x50,x51))) | Sum.inr (x52,x53,x54,x55,x56)=>Option.bind (scan_Run a0 x52 7) (fun x63=>some (Step.next (x63,x53,x54,x55,x56)))) else some (Step.done (Sum.inr (x19,x20))))
noncomputable def rup_Parse (a0:Str):Option ((List (List Int)) × S_api_Fault):=(if (decide ((List.length a0:Int) > 65536))=true then some ([],(S_api_Fault.mk 12 65536)) else Option.bind (scan_Run a0 0 7) (fun x1=>Option.bind (loopC (rup_Parse_l1 a0) (x1,0,0,[],[])) (fun y=>match y with | Sum.inl (x40,x41)=>some ([],(S_api_Fault.mk x40 x41)) | Sum.inr (x42,x43)=>(if (decide ((List.length x43:Int) > 0))=true then some ([],(S_api_Fault.mk 11 (List.length a0:Int))) else some (x42,(S_api_Fault.mk 0 0))))))
theorem rup_Parse_ok (a0:Str):Ct E 6 [bs a0] (rup_Parse a0) (fun r:(List (List Int)) × S_api_Fault=>.tup [.fsl 1 (List.map c_L3 r.1),.agg [iv r.2.Err,iv r.2.At]]):=ct_intro (N:=68) (L:=rup_Parse_c) rup_Parse_k rfl (Nat.le_of_ble_eq_true rfl) (by kernel_rfl) (by
 unfold rup_Parse
 refine jS ⟨[V 0 (bs a0),V 3 (pt 0 2)],[W 0 2 [iv 0,iv 0]],1⟩ ?_
 refine jc_seq ?_
 refine jS ⟨[V 0 (bs a0),V 3 (pt 0 2),V 10 (bv (decide ((List.length a0:Int) > 65536)))],[W 0 2 [iv 0,iv 0]],1⟩ ?_
 refine jIf ?_ ?_
 ·refine jS ⟨[V 2 (nilS),V 3 (pt 0 2)],[W 0 2 [iv 12,iv 65536]],1⟩ ?_
  refine jc_ret ?_
  refine jx_seqR ?_
  exact jx_retF (.inr rfl) (v:=.tup [nilS,.agg [iv 12,iv 65536]]) (by kernel_rfl) (snapc_tup (snapL_cons rfl (snapL_cons rfl (snapL_nil _)))) (fle_tup (all2_cons (fle_nil _) (all2_cons (fle_refl _) all2_nil)))
 refine jc_skip ?_
 refine jx_seqN ?_
 refine jS ⟨[V 0 (bs a0),V 3 (pt 0 2),V 4 (pt 1 4)],[W 0 2 [iv 0,iv 0],W 1 4 [bs a0,iv 0,iv 0,iv 0]],2⟩ ?_
 refine jS ⟨[V 0 (bs a0),V 3 (pt 0 2),V 4 (pt 1 4),V 5 (nilS)],[W 0 2 [iv 0,iv 0],W 1 4 [bs a0,iv 0,iv 0,iv 0]],2⟩ ?_
 refine jS ⟨[V 0 (bs a0),V 3 (pt 0 2),V 4 (pt 1 4),V 5 (nilS),V 6 (nilS)],[W 0 2 [iv 0,iv 0],W 1 4 [bs a0,iv 0,iv 0,iv 0]],2⟩ ?_
 refine jc_seq ?_
 refine jR ?_
 refine jG 0 2 ⟨[V 0 (bs a0),V 3 (pt 0 2),V 4 (pt 1 4),V 5 (nilS),V 6 (nilS),V 15 (pt 1 4),V 16 (bs a0)],[W 0 2 [iv 0,iv 0],W 1 4 [bs a0,iv 0,iv 0,iv 0]],2⟩ ?_
 refine jK 2 (scan_Run_ok a0 0 7) ?_
 intro x1 h1
 refine jG 3 3 ⟨[V 0 (bs a0),V 3 (pt 0 2),V 4 (pt 1 4),V 5 (nilS),V 6 (nilS)],[W 0 2 [iv 0,iv 0],W 1 4 [bs a0,iv x1,iv 0,iv 0]],2⟩ ?_
 refine jN ?_
 refine jc_block ?_
 refine jc_bind (fun y=>match y with | Sum.inl (x40,x41)=>⟨[V 2 (nilS),V 3 (pt 0 2)],[W 0 2 [iv x40,iv x41]],1⟩ | Sum.inr (x42,x43)=>⟨[V 0 (bs a0),V 3 (pt 0 2),V 5 (.osl 1 0 (List.length x42) 1),V 6 (.osl 2 0 (List.length x43) 1)],[W 0 2 [iv 0,iv 0],(1,.rows 1 (List.map c_L3 x42)),(2,.rows 1 (List.map cI x43))],3⟩) (fun y=>match y with | Sum.inl (x40,x41)=>.ret | Sum.inr (x42,x43)=>(.exit 0)) (jc_loop (fun (x16,x17,x18,x19,x20)=>⟨[V 0 (bs a0),V 3 (pt 0 2),V 4 (pt 1 4),V 5 (.osl 2 0 (List.length x19) 1),V 6 (.osl 3 0 (List.length x20) 1)],[W 0 2 [iv 0,iv 0],W 1 4 [bs a0,iv x16,iv x17,iv x18],(2,.rows 1 (List.map c_L3 x19)),(3,.rows 1 (List.map cI x20))],4⟩) (wkR [(0,some 0),(1,some 1),(2,none),(3,none)] (fix_nil _) (pc (hC 0) (pc (hC 1) (pc hZ (pc hZ allp_nil))))) ?_) ?_
 ·rintro⟨x16,x17,x18,x19,x20⟩
  unfold rup_Parse_l1
  refine jc_seq ?_
  refine jS ⟨[V 0 (bs a0),V 3 (pt 0 2),V 4 (pt 1 4),V 5 (.osl 2 0 (List.length x19) 1),V 6 (.osl 3 0 (List.length x20) 1),V 26 (bv (decide (x16 < (List.length a0:Int))))],[W 0 2 [iv 0,iv 0],W 1 4 [bs a0,iv x16,iv x17,iv x18],(2,.rows 1 (List.map c_L3 x19)),(3,.rows 1 (List.map cI x20))],4⟩ ?_
  refine jIf ?_ ?_
  ·refine jc_skip ?_
   refine jx_seqN ?_
   refine jc_seq ?_
   refine jc_bind (fun y=>match y with | Sum.inl (x50,x51)=>⟨[V 2 (nilS),V 3 (pt 0 2)],[W 0 2 [iv x50,iv x51]],1⟩ | Sum.inr (x52,x53,x54,x55,x56)=>⟨[V 0 (bs a0),V 3 (pt 0 2),V 4 (pt 1 4),V 5 (.osl 2 0 (List.length x55) 1),V 6 (.osl 3 0 (List.length x56) 1)],[W 0 2 [iv 0,iv 0],W 1 4 [bs a0,iv x52,iv x53,iv x54],(2,.rows 1 (List.map c_L3 x55)),(3,.rows 1 (List.map cI x56))],4⟩) (fun y=>match y with | Sum.inl (x50,x51)=>.ret | Sum.inr (x52,x53,x54,x55,x56)=>.normal) ?_ ?_
   ·refine jc_block ?_
    refine jR ?_
    refine jG 0 1 ⟨[V 0 (bs a0),V 3 (pt 0 2),V 4 (pt 1 4),V 5 (.osl 2 0 (List.length x19) 1),V 6 (.osl 3 0 (List.length x20) 1),V 36 (pt 1 4)],[W 0 2 [iv 0,iv 0],W 1 4 [bs a0,iv x16,iv x17,iv x18],(2,.rows 1 (List.map c_L3 x19)),(3,.rows 1 (List.map cI x20))],4⟩ ?_
    refine jr_callM 1 [(0,some 1)] [(1,some 0)] (fun r:Int × Int × Int × Int=>[W 0 2 [iv 0,iv 0],W 1 4 [bs a0,iv r.2.1,iv r.2.2.1,iv r.2.2.2],(2,.rows 1 (List.map c_L3 x19)),(3,.rows 1 (List.map cI x20))]) (fun r:Int × Int × Int × Int=>iv r.1) 4 (rup_reader_number_ok a0 x16 x17 x18) (pc (hC 1) allp_nil) (fun r=>(pc (.inl ⟨rfl,rfl⟩) (pc (.inr (hC 0)) (pc (.inl ⟨rfl,rfl⟩) (pc (.inl ⟨rfl,rfl⟩) allp_nil))))) ?_
    rintro⟨x57,x58,x59,x60⟩ hm4
    refine jG 2 1 ⟨[V 0 (bs a0),V 3 (pt 0 2),V 4 (pt 1 4),V 5 (.osl 2 0 (List.length x19) 1),V 6 (.osl 3 0 (List.length x20) 1),V 7 (iv x57)],[W 0 2 [iv 0,iv 0],W 1 4 [bs a0,iv x58,iv x59,iv x60],(2,.rows 1 (List.map c_L3 x19)),(3,.rows 1 (List.map cI x20))],4⟩ ?_
    refine jN ?_
    refine jc_block ?_
    refine jS ⟨[V 0 (bs a0),V 3 (pt 0 2),V 4 (pt 1 4),V 5 (.osl 2 0 (List.length x19) 1),V 6 (.osl 3 0 (List.length x20) 1),V 7 (iv x57),V 42 (bv (x59 != 0))],[W 0 2 [iv 0,iv 0],W 1 4 [bs a0,iv x58,iv x59,iv x60],(2,.rows 1 (List.map c_L3 x19)),(3,.rows 1 (List.map cI x20))],4⟩ ?_
    refine jIf ?_ ?_
    ·refine jS ⟨[V 2 (nilS),V 3 (pt 0 2)],[W 0 2 [iv x59,iv x60]],4⟩ ?_
     refine jc_ret ?_
     refine jx_blkR ?_
     refine jx_blkR ?_
     exact jx_mid rfl (wkR [(0,some 0)] (fix_nil _) (pc (hC 0) allp_nil))
    refine jS ⟨[V 0 (bs a0),V 3 (pt 0 2),V 4 (pt 1 4),V 5 (.osl 2 0 (List.length x19) 1),V 6 (.osl 3 0 (List.length x20) 1),V 7 (iv x57),V 53 (bv (x57 == 0))],[W 0 2 [iv 0,iv 0],W 1 4 [bs a0,iv x58,iv x59,iv x60],(2,.rows 1 (List.map c_L3 x19)),(3,.rows 1 (List.map cI x20))],4⟩ ?_
    refine jIf ?_ ?_
    ·refine jR ?_
     refine jG 0 3 ⟨[V 0 (bs a0),V 3 (pt 0 2),V 4 (pt 1 4),V 56 (.osl 2 0 (List.length x19) 1),V 58 (.osl 4 0 1 1)],[W 0 2 [iv 0,iv 0],W 1 4 [bs a0,iv x58,iv x59,iv x60],(2,.rows 1 (List.map c_L3 x19)),(3,.rows 1 (List.map cI x20)),W 4 1 [.osl 3 0 (List.length x20) 1]],5⟩ ?_
     refine jr_part (i:=3) (mo:=app 24 x19 [x20]) rfl rfl rfl rfl (fun _ hc=>aop_appZ (u:=.osl 2 0 (List.length x19) 1) (idy:=4) (off:=0) (len:=1) (sz:=1) (rows:=[[.osl 3 0 (List.length x20) 1]]) (e:=29) (q:=29) (rs:=List.map c_L3 [x20]) (ids:=[3]) (by kernel_rfl) (by kernel_rfl) (by kernel_rfl) (by kernel_rfl) (by kernel_rfl) (by kernel_rfl) (by kernel_rfl) (frz_one (frzL_own (fun _=>rfl) (by kernel_rfl) frzL_nil)) (appendOf_own (c:=c_L3) (sz:=1) (b:=24) (id:=2) (m:=[x20]) (by kernel_rfl) (by kernel_rfl) rows_fsl (List.cons_ne_nil _ _) hc)) (fun _=>rfl) ?_
     intro x61 h61
     refine jG 4 1 ⟨[V 0 (bs a0),V 3 (pt 0 2),V 4 (pt 1 4),V 5 (.osl 5 0 (List.length x61) 1)],[W 0 2 [iv 0,iv 0],W 1 4 [bs a0,iv x58,iv x59,iv x60],(5,.rows 1 (List.map c_L3 x61))],6⟩ ?_
     refine jN ?_
     refine jT ⟨[V 0 (bs a0),V 3 (pt 0 2),V 4 (pt 1 4),V 5 (.osl 5 0 (List.length x61) 1),V 6 (nilS)],[W 0 2 [iv 0,iv 0],W 1 4 [bs a0,iv x58,iv x59,iv x60],(5,.rows 1 (List.map c_L3 x61))],6⟩ ?_
     refine jx_blkN ?_
     refine jx_blkN ?_
     exact jx_mid rfl (wkR [(0,some 0),(1,some 1),(2,some 5),(3,none)] (fix_nil _) (pc (hC 0) (pc (hC 1) (pc (hL 5 (noid_map ni_L3 _)) (pc hZ allp_nil)))))
    refine jc_reg ?_
    refine jG 0 3 ⟨[V 0 (bs a0),V 3 (pt 0 2),V 4 (pt 1 4),V 5 (.osl 2 0 (List.length x19) 1),V 38 (.osl 3 0 (List.length x20) 1),V 40 (.osl 4 0 (List.length [x57]) 1)],[W 0 2 [iv 0,iv 0],W 1 4 [bs a0,iv x58,iv x59,iv x60],(2,.rows 1 (List.map c_L3 x19)),(3,.rows 1 (List.map cI x20)),(4,.rows 1 (List.map cI [x57]))],5⟩ ?_
    refine jr_part (i:=3) (mo:=app 8 x20 [x57]) rfl rfl rfl rfl (fun _ hc=>aop_app (u:=.osl 3 0 (List.length x20) 1) (w:=.osl 4 0 (List.length [x57]) 1) (e:=3) (td:=.slice 3) (by kernel_rfl) (by kernel_rfl) (by kernel_rfl) (by kernel_rfl) (.inl ⟨_,rfl⟩) (appendOf_own (c:=cI) (sz:=1) (b:=8) (id:=3) (by kernel_rfl) (by kernel_rfl) (rows_own (by kernel_rfl)) (List.cons_ne_nil _ _) hc)) (fun _=>rfl) ?_
    intro x62 h62
    refine jG 4 1 ⟨[V 0 (bs a0),V 3 (pt 0 2),V 4 (pt 1 4),V 5 (.osl 2 0 (List.length x19) 1),V 6 (.osl 5 0 (List.length x62) 1)],[W 0 2 [iv 0,iv 0],W 1 4 [bs a0,iv x58,iv x59,iv x60],(2,.rows 1 (List.map c_L3 x19)),(5,.rows 1 (List.map cI x62))],6⟩ ?_
    refine jr_nil rfl ?_
    refine jx_blkN ?_
    refine jx_blkN ?_
    exact jx_mid rfl (wkR [(0,some 0),(1,some 1),(2,some 2),(3,some 5)] (fix_nil _) (pc (hC 0) (pc (hC 1) (pc (hL 2 (noid_map ni_L3 _)) (pc (hL 5 (noid_map ni_I _)) allp_nil)))))
   rintro (⟨x50,x51⟩ | ⟨x52,x53,x54,x55,x56⟩)
   ·refine jx_seqR ?_
    exact jx_done rfl nofun (wkR [(0,some 0)] (fix_nil _) (pc (hC 0) allp_nil))
   refine jx_seqN ?_
   refine jc_reg ?_
   refine jG 0 6 ⟨[V 0 (bs a0),V 3 (pt 0 2),V 4 (pt 1 4),V 5 (.osl 2 0 (List.length x55) 1),V 6 (.osl 3 0 (List.length x56) 1),V 27 (pt 1 4),V 28 (bs a0),V 32 (iv x52)],[W 0 2 [iv 0,iv 0],W 1 4 [bs a0,iv x52,iv x53,iv x54],(2,.rows 1 (List.map c_L3 x55)),(3,.rows 1 (List.map cI x56))],4⟩ ?_
   refine jK 6 (scan_Run_ok a0 x52 7) ?_
   intro x63 h63
   refine jG 7 3 ⟨[V 0 (bs a0),V 3 (pt 0 2),V 4 (pt 1 4),V 5 (.osl 2 0 (List.length x55) 1),V 6 (.osl 3 0 (List.length x56) 1)],[W 0 2 [iv 0,iv 0],W 1 4 [bs a0,iv x63,iv x53,iv x54],(2,.rows 1 (List.map c_L3 x55)),(3,.rows 1 (List.map cI x56))],4⟩ ?_
   refine jr_nil rfl ?_
   exact jx_next (wkR [(0,some 0),(1,some 1),(2,some 2),(3,some 3)] (fix_nil _) (pc (hC 0) (pc (hC 1) (pc (hL 2 (noid_map ni_L3 _)) (pc (hL 3 (noid_map ni_I _)) allp_nil)))))
  refine jc_exit ?_
  refine jx_seqE ?_
  exact jx_done rfl nofun (wkR [(0,some 0),(1,some 2),(2,some 3)] (fix_nil _) (pc (hC 0) (pc (hL 2 (noid_map ni_L3 _)) (pc (hL 3 (noid_map ni_I _)) allp_nil))))
 rintro (⟨x40,x41⟩ | ⟨x42,x43⟩)
 ·refine jx_blkR ?_
  refine jx_seqR ?_
  exact jx_retF (.inr rfl) (v:=.tup [nilS,.agg [iv x40,iv x41]]) (by kernel_rfl) (snapc_tup (snapL_cons rfl (snapL_cons rfl (snapL_nil _)))) (fle_tup (all2_cons (fle_nil _) (all2_cons (fle_refl _) all2_nil)))
 refine jx_blkE ?_
 refine jx_seqN ?_
 refine jc_seq ?_
 refine jS ⟨[V 0 (bs a0),V 3 (pt 0 2),V 5 (.osl 1 0 (List.length x42) 1),V 62 (bv (decide ((List.length x43:Int) > 0)))],[W 0 2 [iv 0,iv 0],(1,.rows 1 (List.map c_L3 x42))],3⟩ ?_
 refine jIf ?_ ?_
 ·refine jS ⟨[V 2 (nilS),V 3 (pt 0 2)],[W 0 2 [iv 11,iv (List.length a0:Int)]],3⟩ ?_
  refine jc_ret ?_
  refine jx_seqR ?_
  exact jx_retF (.inr rfl) (v:=.tup [nilS,.agg [iv 11,iv (List.length a0:Int)]]) (by kernel_rfl) (snapc_tup (snapL_cons rfl (snapL_cons rfl (snapL_nil _)))) (fle_tup (all2_cons (fle_nil _) (all2_cons (fle_refl _) all2_nil)))
 refine jc_skip ?_
 refine jx_seqN ?_
 refine jS ⟨[V 2 (.osl 1 0 (List.length x42) 1),V 3 (pt 0 2)],[W 0 2 [iv 0,iv 0],(1,.rows 1 (List.map c_L3 x42))],3⟩ ?_
 refine jc_ret ?_
 exact jx_retF (.inr rfl) (v:=.tup [.osl 1 0 (List.length x42) 1,.agg [iv 0,iv 0]]) (by kernel_rfl) (snapc_tup (snapL_cons (snapc_own fz_L3 (by kernel_rfl)) (snapL_cons rfl (snapL_nil _)))) (fle_tup (all2_cons (fle_refl _) (all2_cons (fle_refl _) all2_nil))))
abbrev ref29_Lit_r1:List LO:=[lo 2 (.assign (.const (.bool false))) 4]
abbrev ref29_Lit_r2:List LO:=[lm 3 0 3,lo 4 (.binOp .neq 3 (.tmp 3) (.const (.int .i64 0)) 3) 4,lm 5 4 4,lmg 6 0 3 5 true,lg 7 (.binOp .geq 3 (.tmp 6) (.const (.int .i64 (-4096))) 3) 4 5 true,lo 8 (.pick (.tmp 5) (.tmp 7) (.const (.bool false))) 4,lm 9 8 4,lmg 10 0 3 9 true,lg 11 (.binOp .leq 3 (.tmp 10) (.const (.int .i64 4096)) 3) 4 9 true,lo 12 (.pick (.tmp 9) (.tmp 11) (.const (.bool false))) 4,lo 2 (.assign (.tmp 12)) 4]
abbrev ref29_Lit_c:LC:=.seq (.reg false ref29_Lit_r1) (.seq (.reg false ref29_Lit_r2) .ret)
theorem ref29_Lit_k:FnOk E 26 13 [.tmp 2] ref29_Lit_c:=⟨⟨Go.Proofs.Tryd.f26,by kernel_rfl,by kernel_rfl,by kernel_rfl,by kernel_rfl,by kernel_rfl⟩,rfl,rfl⟩
noncomputable def ref29_Lit (a0:Int):Option (Bool):=some (((a0 != 0) && (decide (a0≥(-4096)))) && (decide (a0≤4096)))
theorem ref29_Lit_ok (a0:Int):Ct E 26 [iv a0] (ref29_Lit a0) (fun r:Bool=>bv r):=ct_intro (N:=13) (L:=ref29_Lit_c) ref29_Lit_k rfl (Nat.le_of_ble_eq_true rfl) (by kernel_rfl) (by
 unfold ref29_Lit
 refine jS ⟨[V 0 (iv a0)],[],0⟩ ?_
 refine jS ⟨[V 2 (bv (((a0 != 0) && (decide (a0≥(-4096)))) && (decide (a0≤4096))))],[],0⟩ ?_
 refine jc_ret ?_
 exact jx_retF (.inr rfl) (v:=bv (((a0 != 0) && (decide (a0≥(-4096)))) && (decide (a0≤4096)))) (by kernel_rfl) rfl (fle_refl _))
abbrev ref29_Lits_r1:List LO:=[lo 2 (.assign (.const (.bool false))) 4]
abbrev ref29_Lits_r2:List LO:=[lo 3 (.assign (.const (.int .i64 0))) 3]
abbrev ref29_Lits_r3:List LO:=[lm 4 3 3,lm 5 0 29,lo 6 (.call ⟨.builtin .len,#[.tmp 5],#[29]⟩) 3,lo 7 (.binOp .lss 3 (.tmp 4) (.tmp 6) 3) 4]
abbrev ref29_Lits_r4:List LO:=[lm 10 0 29,lm 11 3 3,lo 12 (.indexAddr 29 (.tmp 10) (.tmp 11)) 0,lo 13 (.load 3 (.tmp 12)) 3,lo 14 (.call ⟨.value (.func 26),#[.tmp 13],#[3]⟩) 4,lo 15 (.unOp .not 4 (.tmp 14)) 4]
abbrev ref29_Lits_r5:List LO:=[lo 2 (.assign (.const (.bool false))) 4]
abbrev ref29_Lits_r6:List LO:=[lm 8 3 3,lo 9 (.binOp .add 3 (.tmp 8) (.const (.int .i64 1)) 3) 3,lo 3 (.assign (.tmp 9)) 3]
abbrev ref29_Lits_r7:List LO:=[lo 2 (.assign (.const (.bool true))) 4]
abbrev ref29_Lits_c:LC:=.seq (.reg false ref29_Lits_r1) (.seq (.seq (.reg false ref29_Lits_r2) (.block 0 (.loop (.seq (.seq (.reg false ref29_Lits_r3) (.cond (.tmp 7) .skip (.exit 0))) (.seq (.block 1 (.seq (.reg false ref29_Lits_r4) (.cond (.tmp 15) (.seq (.reg false ref29_Lits_r5) .ret) .skip))) (.reg false ref29_Lits_r6)))))) (.seq (.reg false ref29_Lits_r7) .ret))
theorem ref29_Lits_k:FnOk E 16 16 [.tmp 2] ref29_Lits_c:=⟨⟨Go.Proofs.Tryd.f16,by kernel_rfl,by kernel_rfl,by kernel_rfl,by kernel_rfl,by kernel_rfl⟩,rfl,rfl⟩
noncomputable def ref29_Lits_l1 (a0:(List Int)):Int→Option (Step (Int) ((Unit) ⊕ (Unit))):=fun x3=>(if (decide (x3 < (List.length a0:Int)))=true then Option.bind (ixl a0 x3) (fun x7=>Option.bind (ref29_Lit x7) (fun x8=>(if (!x8)=true then some (Step.done (Sum.inl ())) else some (Step.next (w64 (x3 + 1)))))) else some (Step.done (Sum.inr ())))
noncomputable def ref29_Lits (a0:(List Int)):Option (Bool):=Option.bind (loopC (ref29_Lits_l1 a0) 0) (fun y=>match y with | Sum.inl _=>some false | Sum.inr _=>some true)
theorem ref29_Lits_ok (a0:(List Int)):Ct E 16 [.fsl 1 (List.map cI a0)] (ref29_Lits a0) (fun r:Bool=>bv r):=ct_intro (N:=16) (L:=ref29_Lits_c) ref29_Lits_k rfl (Nat.le_of_ble_eq_true rfl) (by kernel_rfl) (by
 unfold ref29_Lits
 refine jS ⟨[V 0 (.fsl 1 (List.map cI a0))],[],0⟩ ?_
 refine jc_seq ?_
 refine jS ⟨[V 0 (.fsl 1 (List.map cI a0)),V 3 (iv 0)],[],0⟩ ?_
 refine jc_block ?_
 refine jc_bind (fun y=>match y with | Sum.inl _=>⟨[V 2 (bv false)],[],0⟩ | Sum.inr _=>⟨[],[],0⟩) (fun y=>match y with | Sum.inl _=>.ret | Sum.inr _=>(.exit 0)) (jc_loop (fun x3=>⟨[V 0 (.fsl 1 (List.map cI a0)),V 3 (iv x3)],[],0⟩) (wkR [] (fix_nil _) allp_nil) ?_) ?_
 ·intro x3
  unfold ref29_Lits_l1
  refine jc_seq ?_
  refine jR ?_
  refine jG 0 4 ⟨[V 0 (.fsl 1 (List.map cI a0)),V 3 (iv x3),V 7 (bv (decide (x3 < (List.length (List.map cI a0):Int))))],[],0⟩ ?_
  simp only[List.length_map]
  refine jN ?_
  refine jIf ?_ ?_
  ·refine jc_skip ?_
   refine jx_seqN ?_
   refine jc_seq ?_
   refine jc_block ?_
   refine jR ?_
   refine jG 0 2 ⟨[V 0 (.fsl 1 (List.map cI a0)),V 3 (iv x3),V 10 (.fsl 1 (List.map cI a0)),V 11 (iv x3)],[],0⟩ ?_
   refine jr_part (i:=2) (mo:=ixl a0 x3) rfl rfl rfl rfl (fun _ hc=>aop_ixf (c:=cI) (sz:=1) (e:=3) (kk:=.i64) (by kernel_rfl) (by kernel_rfl) (by kernel_rfl) (by kernel_rfl) hc) (fun _=>rfl) ?_
   intro x7 h7
   refine jG 3 1 ⟨[V 0 (.fsl 1 (List.map cI a0)),V 3 (iv x3),V 13 (iv x7)],[],0⟩ ?_
   refine jK 4 (ref29_Lit_ok x7) ?_
   intro x8 h8
   refine jG 5 1 ⟨[V 0 (.fsl 1 (List.map cI a0)),V 3 (iv x3),V 15 (bv (!x8))],[],0⟩ ?_
   refine jN ?_
   refine jIf ?_ ?_
   ·refine jS ⟨[V 2 (bv false)],[],0⟩ ?_
    refine jc_ret ?_
    refine jx_blkR ?_
    refine jx_seqR ?_
    exact jx_done rfl nofun (wkR [] (fix_nil _) allp_nil)
   refine jc_skip ?_
   refine jx_blkN ?_
   refine jx_seqN ?_
   refine jT ⟨[V 0 (.fsl 1 (List.map cI a0)),V 3 (iv (w64 (x3 + 1)))],[],0⟩ ?_
   exact jx_next (wkR [] (fix_nil _) allp_nil)
  refine jc_exit ?_
  refine jx_seqE ?_
  exact jx_done rfl nofun (wkR [] (fix_nil _) allp_nil)
 rintro (_ | _)
 ·refine jx_blkR ?_
  refine jx_seqR ?_
  exact jx_retF (.inr rfl) (v:=bv false) (by kernel_rfl) rfl (fle_refl _)
 refine jx_blkE ?_
 refine jx_seqN ?_
 refine jS ⟨[V 2 (bv true)],[],0⟩ ?_
 refine jc_ret ?_
 exact jx_retF (.inr rfl) (v:=bv true) (by kernel_rfl) rfl (fle_refl _))
abbrev law29_ints_r1:List LO:=[lo 4 (.assign (.const (.bool false))) 4]
abbrev law29_ints_r2:List LO:=[lm 6 0 29,lo 7 (.call ⟨.builtin .len,#[.tmp 6],#[29]⟩) 3,lm 8 1 29,lo 9 (.call ⟨.builtin .len,#[.tmp 8],#[29]⟩) 3,lo 10 (.binOp .neq 3 (.tmp 7) (.tmp 9) 3) 4]
abbrev law29_ints_r3:List LO:=[lo 4 (.assign (.const (.bool false))) 4]
abbrev law29_ints_r4:List LO:=[lm 11 0 29,lo 12 (.call ⟨.builtin .len,#[.tmp 11],#[29]⟩) 3,lo 13 (.move (.const (.int .i64 0))) 3]
abbrev law29_ints_r5:List LO:=[lo 14 (.binOp .lss 3 (.tmp 13) (.tmp 12) 3) 0]
abbrev law29_ints_r6:List LO:=[lm 15 13 3,lo 5 (.assign (.tmp 15)) 3]
abbrev law29_ints_r7:List LO:=[lm 16 0 29,lm 17 5 3,lo 18 (.indexAddr 29 (.tmp 16) (.tmp 17)) 0,lo 19 (.load 3 (.tmp 18)) 3,lm 20 1 29,lm 21 5 3,lo 22 (.indexAddr 29 (.tmp 20) (.tmp 21)) 0,lo 23 (.load 3 (.tmp 22)) 3,lo 24 (.binOp .neq 3 (.tmp 19) (.tmp 23) 3) 4]
abbrev law29_ints_r8:List LO:=[lo 4 (.assign (.const (.bool false))) 4]
abbrev law29_ints_r9:List LO:=[lo 25 (.binOp .add 3 (.tmp 13) (.const (.int .i64 1)) 3) 3,lm 13 25 3]
abbrev law29_ints_r10:List LO:=[lo 4 (.assign (.const (.bool true))) 4]
abbrev law29_ints_c:LC:=.seq (.reg false law29_ints_r1) (.seq (.seq (.reg false law29_ints_r2) (.cond (.tmp 10) (.seq (.reg false law29_ints_r3) .ret) .skip)) (.seq (.seq (.reg false law29_ints_r4) (.block 0 (.loop (.seq (.reg false law29_ints_r5) (.seq (.cond (.tmp 14) .skip (.exit 0)) (.seq (.block 1 (.seq (.reg false law29_ints_r6) (.seq (.reg true law29_ints_r7) (.cond (.tmp 24) (.seq (.reg false law29_ints_r8) .ret) .skip)))) (.reg false law29_ints_r9))))))) (.seq (.reg false law29_ints_r10) .ret)))
theorem law29_ints_k:FnOk E 8 26 [.tmp 4] law29_ints_c:=⟨⟨Go.Proofs.Tryd.f8,by kernel_rfl,by kernel_rfl,by kernel_rfl,by kernel_rfl,by kernel_rfl⟩,rfl,rfl⟩
noncomputable def law29_ints_l1 (a0:(List Int)) (a1:(List Int)):Int→Option (Step (Int) ((Unit) ⊕ (Unit))):=fun x3=>(if (decide (x3 < (List.length a0:Int)))=true then Option.bind (ixl a0 x3) (fun x7=>Option.bind (ixl a1 x3) (fun x8=>(if (x7 != x8)=true then some (Step.done (Sum.inl ())) else some (Step.next (w64 (x3 + 1)))))) else some (Step.done (Sum.inr ())))
noncomputable def law29_ints (a0:(List Int)) (a1:(List Int)):Option (Bool):=(if ((List.length a0:Int) != (List.length a1:Int))=true then some false else Option.bind (loopC (law29_ints_l1 a0 a1) 0) (fun y=>match y with | Sum.inl _=>some false | Sum.inr _=>some true))
theorem law29_ints_ok (a0:(List Int)) (a1:(List Int)):Ct E 8 [.fsl 1 (List.map cI a0),.fsl 1 (List.map cI a1)] (law29_ints a0 a1) (fun r:Bool=>bv r):=ct_intro (N:=26) (L:=law29_ints_c) law29_ints_k rfl (Nat.le_of_ble_eq_true rfl) (by kernel_rfl) (by
 unfold law29_ints
 refine jS ⟨[V 0 (.fsl 1 (List.map cI a0)),V 1 (.fsl 1 (List.map cI a1))],[],0⟩ ?_
 refine jc_seq ?_
 refine jR ?_
 refine jG 0 5 ⟨[V 0 (.fsl 1 (List.map cI a0)),V 1 (.fsl 1 (List.map cI a1)),V 10 (bv ((List.length (List.map cI a0):Int) != (List.length (List.map cI a1):Int)))],[],0⟩ ?_
 simp only[List.length_map]
 refine jN ?_
 refine jIf ?_ ?_
 ·refine jS ⟨[V 4 (bv false)],[],0⟩ ?_
  refine jc_ret ?_
  refine jx_seqR ?_
  exact jx_retF (.inr rfl) (v:=bv false) (by kernel_rfl) rfl (fle_refl _)
 refine jc_skip ?_
 refine jx_seqN ?_
 refine jc_seq ?_
 refine jR ?_
 refine jG 0 3 ⟨[V 0 (.fsl 1 (List.map cI a0)),V 1 (.fsl 1 (List.map cI a1)),V 12 (iv (List.length (List.map cI a0):Int)),V 13 (iv 0)],[],0⟩ ?_
 simp only[List.length_map]
 refine jN ?_
 refine jc_block ?_
 refine jc_bind (fun y=>match y with | Sum.inl _=>⟨[V 4 (bv false)],[],0⟩ | Sum.inr _=>⟨[],[],0⟩) (fun y=>match y with | Sum.inl _=>.ret | Sum.inr _=>(.exit 0)) (jc_loop (fun x3=>⟨[V 0 (.fsl 1 (List.map cI a0)),V 1 (.fsl 1 (List.map cI a1)),V 12 (iv (List.length a0:Int)),V 13 (iv x3)],[],0⟩) (wkR [] (fix_nil _) allp_nil) ?_) ?_
 ·intro x3
  unfold law29_ints_l1
  refine jS ⟨[V 0 (.fsl 1 (List.map cI a0)),V 1 (.fsl 1 (List.map cI a1)),V 12 (iv (List.length a0:Int)),V 13 (iv x3),V 14 (bv (decide (x3 < (List.length a0:Int))))],[],0⟩ ?_
  refine jc_seq ?_
  refine jIf ?_ ?_
  ·refine jc_skip ?_
   refine jx_seqN ?_
   refine jc_seq ?_
   refine jc_block ?_
   refine jS ⟨[V 0 (.fsl 1 (List.map cI a0)),V 1 (.fsl 1 (List.map cI a1)),V 5 (iv x3),V 12 (iv (List.length a0:Int)),V 13 (iv x3)],[],0⟩ ?_
   refine jR ?_
   refine jG 0 2 ⟨[V 0 (.fsl 1 (List.map cI a0)),V 1 (.fsl 1 (List.map cI a1)),V 5 (iv x3),V 12 (iv (List.length a0:Int)),V 13 (iv x3),V 16 (.fsl 1 (List.map cI a0)),V 17 (iv x3)],[],0⟩ ?_
   refine jr_part (i:=2) (mo:=ixl a0 x3) rfl rfl rfl rfl (fun _ hc=>aop_ixf (c:=cI) (sz:=1) (e:=3) (kk:=.i64) (by kernel_rfl) (by kernel_rfl) (by kernel_rfl) (by kernel_rfl) hc) (fun _=>rfl) ?_
   intro x7 h7
   refine jG 3 3 ⟨[V 0 (.fsl 1 (List.map cI a0)),V 1 (.fsl 1 (List.map cI a1)),V 12 (iv (List.length a0:Int)),V 13 (iv x3),V 19 (iv x7),V 20 (.fsl 1 (List.map cI a1)),V 21 (iv x3)],[],0⟩ ?_
   refine jr_part (i:=6) (mo:=ixl a1 x3) rfl rfl rfl rfl (fun _ hc=>aop_ixf (c:=cI) (sz:=1) (e:=3) (kk:=.i64) (by kernel_rfl) (by kernel_rfl) (by kernel_rfl) (by kernel_rfl) hc) (fun _=>rfl) ?_
   intro x8 h8
   refine jG 7 2 ⟨[V 0 (.fsl 1 (List.map cI a0)),V 1 (.fsl 1 (List.map cI a1)),V 12 (iv (List.length a0:Int)),V 13 (iv x3),V 24 (bv (x7 != x8))],[],0⟩ ?_
   refine jN ?_
   refine jIf ?_ ?_
   ·refine jS ⟨[V 4 (bv false)],[],0⟩ ?_
    refine jc_ret ?_
    refine jx_blkR ?_
    refine jx_seqR ?_
    exact jx_done rfl nofun (wkR [] (fix_nil _) allp_nil)
   refine jc_skip ?_
   refine jx_blkN ?_
   refine jx_seqN ?_
   refine jT ⟨[V 0 (.fsl 1 (List.map cI a0)),V 1 (.fsl 1 (List.map cI a1)),V 12 (iv (List.length a0:Int)),V 13 (iv (w64 (x3 + 1)))],[],0⟩ ?_
   exact jx_next (wkR [] (fix_nil _) allp_nil)
  refine jc_exit ?_
  refine jx_seqE ?_
  exact jx_done rfl nofun (wkR [] (fix_nil _) allp_nil)
 rintro (_ | _)
 ·refine jx_blkR ?_
  refine jx_seqR ?_
  exact jx_retF (.inr rfl) (v:=bv false) (by kernel_rfl) rfl (fle_refl _)
 refine jx_blkE ?_
 refine jx_seqN ?_
 refine jS ⟨[V 4 (bv true)],[],0⟩ ?_
 refine jc_ret ?_
 exact jx_retF (.inr rfl) (v:=bv true) (by kernel_rfl) rfl (fle_refl _))
abbrev law29_RupBack_r1:List LO:=[lo 2 (.assign (.const (.bool false))) 4]
abbrev law29_RupBack_r2:List LO:=[lm 9 0 22,lo 10 (.call ⟨.builtin .len,#[.tmp 9],#[22]⟩) 3,lo 11 (.move (.const (.int .i64 0))) 3]
abbrev law29_RupBack_r3:List LO:=[lo 12 (.binOp .lss 3 (.tmp 11) (.tmp 10) 3) 0]
abbrev law29_RupBack_r4:List LO:=[lo 13 (.indexAddr 22 (.tmp 9) (.tmp 11)) 0,lo 14 (.load 29 (.tmp 13)) 29,lo 4 (.assign (.tmp 14)) 29]
abbrev law29_RupBack_r5:List LO:=[lm 15 4 29,lo 16 (.call ⟨.value (.func 16),#[.tmp 15],#[29]⟩) 4,lo 17 (.unOp .not 4 (.tmp 16)) 4]
abbrev law29_RupBack_r6:List LO:=[lo 18 (.call ⟨.value (.func 11),#[],#[]⟩) 4,lo 2 (.assign (.tmp 18)) 4]
abbrev law29_RupBack_r7:List LO:=[lo 19 (.binOp .add 3 (.tmp 11) (.const (.int .i64 1)) 3) 3,lm 11 19 3]
abbrev law29_RupBack_r8:List LO:=[lm 20 0 22,lo 21 (.call ⟨.value (.func 9),#[.tmp 20],#[22]⟩) 9,lo 5 (.assign (.tmp 21)) 9]
abbrev law29_RupBack_r9:List LO:=[lm 22 5 9,lo 23 (.call ⟨.builtin .len,#[.tmp 22],#[9]⟩) 3,lo 24 (.binOp .gtr 3 (.tmp 23) (.const (.int .i64 65536)) 3) 4]
abbrev law29_RupBack_r10:List LO:=[lo 25 (.call ⟨.value (.func 11),#[],#[]⟩) 4,lo 2 (.assign (.tmp 25)) 4]
abbrev law29_RupBack_r11:List LO:=[lm 27 5 9,lo 28 (.call ⟨.value (.func 6),#[.tmp 27],#[9]⟩) 26,lm 26 28 26,lo 29 (.extract (.tmp 26) 0) 22,lo 30 (.extract (.tmp 26) 1) 25,lo 7 (.alloc 25) 0,lo 6 (.assign (.tmp 29)) 22,ln (.store 25 (.tmp 7) (.tmp 30)) 0]
abbrev law29_RupBack_r12:List LO:=[lo 31 (.load 25 (.tmp 7)) 25,lo 32 (.build 25 #[]) 25,lo 33 (.binOp .neq 25 (.tmp 31) (.tmp 32) 25) 4,lm 34 33 4,lmg 35 6 22 34 false,lg 36 (.call ⟨.builtin .len,#[.tmp 35],#[22]⟩) 3 34 false,lmg 37 0 22 34 false,lg 38 (.call ⟨.builtin .len,#[.tmp 37],#[22]⟩) 3 34 false,lg 39 (.binOp .neq 3 (.tmp 36) (.tmp 38) 3) 4 34 false,lo 40 (.pick (.tmp 34) (.const (.bool true)) (.tmp 39)) 4]
abbrev law29_RupBack_r13:List LO:=[lo 2 (.assign (.const (.bool false))) 4]
abbrev law29_RupBack_r14:List LO:=[lm 41 6 22,lo 42 (.call ⟨.builtin .len,#[.tmp 41],#[22]⟩) 3,lo 43 (.move (.const (.int .i64 0))) 3]
abbrev law29_RupBack_r15:List LO:=[lo 44 (.binOp .lss 3 (.tmp 43) (.tmp 42) 3) 0]
abbrev law29_RupBack_r16:List LO:=[lm 45 43 3,lo 8 (.assign (.tmp 45)) 3]
abbrev law29_RupBack_r17:List LO:=[lm 46 6 22,lm 47 8 3,lo 48 (.indexAddr 22 (.tmp 46) (.tmp 47)) 0,lo 49 (.load 29 (.tmp 48)) 29,lm 50 0 22,lm 51 8 3,lo 52 (.indexAddr 22 (.tmp 50) (.tmp 51)) 0,lo 53 (.load 29 (.tmp 52)) 29,lo 54 (.call ⟨.value (.func 8),#[.tmp 49,.tmp 53],#[29,29]⟩) 4,lo 55 (.unOp .not 4 (.tmp 54)) 4]
abbrev law29_RupBack_r18:List LO:=[lo 2 (.assign (.const (.bool false))) 4]
abbrev law29_RupBack_r19:List LO:=[lo 56 (.binOp .add 3 (.tmp 43) (.const (.int .i64 1)) 3) 3,lm 43 56 3]
abbrev law29_RupBack_r20:List LO:=[lo 57 (.call ⟨.value (.func 11),#[],#[]⟩) 4,lo 2 (.assign (.tmp 57)) 4]
abbrev law29_RupBack_c:LC:=.seq (.reg false law29_RupBack_r1) (.seq (.seq (.reg false law29_RupBack_r2) (.block 0 (.loop (.seq (.reg false law29_RupBack_r3) (.seq (.cond (.tmp 12) .skip (.exit 0)) (.seq (.block 1 (.seq (.reg false law29_RupBack_r4) (.seq (.reg false law29_RupBack_r5) (.cond (.tmp 17) (.seq (.reg false law29_RupBack_r6) .ret) .skip)))) (.reg false law29_RupBack_r7))))))) (.seq (.reg false law29_RupBack_r8) (.seq (.seq (.reg false law29_RupBack_r9) (.cond (.tmp 24) (.seq (.reg false law29_RupBack_r10) .ret) .skip)) (.seq (.reg false law29_RupBack_r11) (.seq (.seq (.reg false law29_RupBack_r12) (.cond (.tmp 40) (.seq (.reg false law29_RupBack_r13) .ret) .skip)) (.seq (.seq (.reg false law29_RupBack_r14) (.block 2 (.loop (.seq (.reg false law29_RupBack_r15) (.seq (.cond (.tmp 44) .skip (.exit 2)) (.seq (.block 3 (.seq (.reg false law29_RupBack_r16) (.seq (.reg true law29_RupBack_r17) (.cond (.tmp 55) (.seq (.reg false law29_RupBack_r18) .ret) .skip)))) (.reg false law29_RupBack_r19))))))) (.seq (.reg false law29_RupBack_r20) .ret)))))))
theorem law29_RupBack_k:FnOk E 5 58 [.tmp 2] law29_RupBack_c:=⟨⟨Go.Proofs.Tryd.f5,by kernel_rfl,by kernel_rfl,by kernel_rfl,by kernel_rfl,by kernel_rfl⟩,rfl,rfl⟩
noncomputable def law29_RupBack_l1 (a0:(List (List Int))):Int→Option (Step (Int) ((Bool) ⊕ (Unit))):=fun x4=>(if (decide (x4 < (List.length a0:Int)))=true then Option.bind (ixl a0 x4) (fun x10=>Option.bind (ref29_Lits x10) (fun x11=>(if (!x11)=true then Option.bind (law29_awake) (fun x12=>some (Step.done (Sum.inl x12))) else some (Step.next (w64 (x4 + 1)))))) else some (Step.done (Sum.inr ())))
noncomputable def law29_RupBack_l2 (a0:(List (List Int))) (x15:(List (List Int)) × S_api_Fault):Int→Option (Step (Int) ((Unit) ⊕ (Unit))):=fun x19=>(if (decide (x19 < (List.length x15.1:Int)))=true then Option.bind (ixl x15.1 x19) (fun x24=>Option.bind (ixl a0 x19) (fun x25=>Option.bind (law29_ints x24 x25) (fun x26=>(if (!x26)=true then some (Step.done (Sum.inl ())) else some (Step.next (w64 (x19 + 1))))))) else some (Step.done (Sum.inr ())))
noncomputable def law29_RupBack (a0:(List (List Int))):Option (Bool):=Option.bind (loopC (law29_RupBack_l1 a0) 0) (fun y=>match y with | Sum.inl x9=>some x9 | Sum.inr _=>Option.bind (rup_Text a0) (fun x13=>(if (decide ((List.length x13:Int) > 65536))=true then Option.bind (law29_awake) (fun x14=>some x14) else Option.bind (rup_Parse x13) (fun x15=>(if ((!((x15.2.Err == 0) && (x15.2.At == 0))) || ((List.length x15.1:Int) != (List.length a0:Int)))=true then some false else Option.bind (loopC (law29_RupBack_l2 a0 x15) 0) (fun y=>match y with | Sum.inl _=>some false | Sum.inr _=>Option.bind (law29_awake) (fun x27=>some x27)))))))
theorem law29_RupBack_ok (a0:(List (List Int))):Ct E 5 [.fsl 1 (List.map c_L3 a0)] (law29_RupBack a0) (fun r:Bool=>bv r):=ct_intro (N:=58) (L:=law29_RupBack_c) law29_RupBack_k rfl (Nat.le_of_ble_eq_true rfl) (by kernel_rfl) (by
 unfold law29_RupBack
 refine jS ⟨[V 0 (.fsl 1 (List.map c_L3 a0))],[],0⟩ ?_
 refine jc_seq ?_
 refine jR ?_
 refine jG 0 3 ⟨[V 0 (.fsl 1 (List.map c_L3 a0)),V 9 (.fsl 1 (List.map c_L3 a0)),V 10 (iv (List.length (List.map c_L3 a0):Int)),V 11 (iv 0)],[],0⟩ ?_
 simp only[List.length_map]
 refine jN ?_
 refine jc_block ?_
 refine jc_bind (fun y=>match y with | Sum.inl x9=>⟨[V 2 (bv x9)],[],0⟩ | Sum.inr _=>⟨[V 0 (.fsl 1 (List.map c_L3 a0))],[],0⟩) (fun y=>match y with | Sum.inl x9=>.ret | Sum.inr _=>(.exit 0)) (jc_loop (fun x4=>⟨[V 0 (.fsl 1 (List.map c_L3 a0)),V 9 (.fsl 1 (List.map c_L3 a0)),V 10 (iv (List.length a0:Int)),V 11 (iv x4)],[],0⟩) (wkR [] (fix_nil _) allp_nil) ?_) ?_
 ·intro x4
  unfold law29_RupBack_l1
  refine jS ⟨[V 0 (.fsl 1 (List.map c_L3 a0)),V 9 (.fsl 1 (List.map c_L3 a0)),V 10 (iv (List.length a0:Int)),V 11 (iv x4),V 12 (bv (decide (x4 < (List.length a0:Int))))],[],0⟩ ?_
  refine jc_seq ?_
  refine jIf ?_ ?_
  ·refine jc_skip ?_
   refine jx_seqN ?_
   refine jc_seq ?_
   refine jc_block ?_
   refine jR ?_
   refine jr_part (i:=0) (mo:=ixl a0 x4) rfl rfl rfl rfl (fun _ hc=>aop_ixf (c:=c_L3) (sz:=1) (e:=29) (kk:=.i64) (by kernel_rfl) (by kernel_rfl) (by kernel_rfl) (by kernel_rfl) hc) (fun _=>rfl) ?_
   intro x10 h10
   refine jG 1 2 ⟨[V 0 (.fsl 1 (List.map c_L3 a0)),V 4 (.fsl 1 (List.map cI x10)),V 9 (.fsl 1 (List.map c_L3 a0)),V 10 (iv (List.length a0:Int)),V 11 (iv x4)],[],0⟩ ?_
   refine jN ?_
   refine jR ?_
   refine jG 0 1 ⟨[V 0 (.fsl 1 (List.map c_L3 a0)),V 9 (.fsl 1 (List.map c_L3 a0)),V 10 (iv (List.length a0:Int)),V 11 (iv x4),V 15 (.fsl 1 (List.map cI x10))],[],0⟩ ?_
   refine jK 1 (ref29_Lits_ok x10) ?_
   intro x11 h11
   refine jG 2 1 ⟨[V 0 (.fsl 1 (List.map c_L3 a0)),V 9 (.fsl 1 (List.map c_L3 a0)),V 10 (iv (List.length a0:Int)),V 11 (iv x4),V 17 (bv (!x11))],[],0⟩ ?_
   refine jN ?_
   refine jIf ?_ ?_
   ·refine jR ?_
    refine jK 0 (law29_awake_ok) ?_
    intro x12 h12
    refine jG 1 1 ⟨[V 2 (bv x12)],[],0⟩ ?_
    refine jN ?_
    refine jc_ret ?_
    refine jx_blkR ?_
    refine jx_seqR ?_
    exact jx_done rfl nofun (wkR [] (fix_nil _) allp_nil)
   refine jc_skip ?_
   refine jx_blkN ?_
   refine jx_seqN ?_
   refine jT ⟨[V 0 (.fsl 1 (List.map c_L3 a0)),V 9 (.fsl 1 (List.map c_L3 a0)),V 10 (iv (List.length a0:Int)),V 11 (iv (w64 (x4 + 1)))],[],0⟩ ?_
   exact jx_next (wkR [] (fix_nil _) allp_nil)
  refine jc_exit ?_
  refine jx_seqE ?_
  exact jx_done rfl nofun (wkR [] (fix_nil _) allp_nil)
 rintro (x9 | _)
 ·refine jx_blkR ?_
  refine jx_seqR ?_
  exact jx_retF (.inr rfl) (v:=bv x9) (by kernel_rfl) rfl (fle_refl _)
 refine jx_blkE ?_
 refine jx_seqN ?_
 refine jR ?_
 refine jG 0 1 ⟨[V 0 (.fsl 1 (List.map c_L3 a0)),V 20 (.fsl 1 (List.map c_L3 a0))],[],0⟩ ?_
 refine jK 1 (rup_Text_ok a0) ?_
 intro x13 h13
 refine jG 2 1 ⟨[V 0 (.fsl 1 (List.map c_L3 a0)),V 5 (bs x13)],[],0⟩ ?_
 refine jN ?_
 refine jc_seq ?_
 refine jS ⟨[V 0 (.fsl 1 (List.map c_L3 a0)),V 5 (bs x13),V 24 (bv (decide ((List.length x13:Int) > 65536)))],[],0⟩ ?_
 refine jIf ?_ ?_
 ·refine jR ?_
  refine jK 0 (law29_awake_ok) ?_
  intro x14 h14
  refine jG 1 1 ⟨[V 2 (bv x14)],[],0⟩ ?_
  refine jN ?_
  refine jc_ret ?_
  refine jx_seqR ?_
  exact jx_retF (.inr rfl) (v:=bv x14) (by kernel_rfl) rfl (fle_refl _)
 refine jc_skip ?_
 refine jx_seqN ?_
 refine jR ?_
 refine jG 0 1 ⟨[V 0 (.fsl 1 (List.map c_L3 a0)),V 27 (bs x13)],[],0⟩ ?_
 refine jK 1 (rup_Parse_ok x13) ?_
 intro x15 h15
 refine jG 2 6 ⟨[V 0 (.fsl 1 (List.map c_L3 a0)),V 6 (.fsl 1 (List.map c_L3 x15.1)),V 7 (pt 0 2)],[W 0 2 [iv x15.2.Err,iv x15.2.At]],1⟩ ?_
 refine jN ?_
 refine jc_seq ?_
 refine jR ?_
 refine jG 0 10 ⟨[V 0 (.fsl 1 (List.map c_L3 a0)),V 6 (.fsl 1 (List.map c_L3 x15.1)),V 40 (bv ((!((x15.2.Err == 0) && (x15.2.At == 0))) || ((List.length (List.map c_L3 x15.1):Int) != (List.length (List.map c_L3 a0):Int))))],[],1⟩ ?_
 simp only[List.length_map]
 refine jN ?_
 refine jIf ?_ ?_
 ·refine jS ⟨[V 2 (bv false)],[],1⟩ ?_
  refine jc_ret ?_
  refine jx_seqR ?_
  exact jx_retF (.inr rfl) (v:=bv false) (by kernel_rfl) rfl (fle_refl _)
 refine jc_skip ?_
 refine jx_seqN ?_
 refine jc_seq ?_
 refine jR ?_
 refine jG 0 3 ⟨[V 0 (.fsl 1 (List.map c_L3 a0)),V 6 (.fsl 1 (List.map c_L3 x15.1)),V 42 (iv (List.length (List.map c_L3 x15.1):Int)),V 43 (iv 0)],[],1⟩ ?_
 simp only[List.length_map]
 refine jN ?_
 refine jc_block ?_
 refine jc_bind (fun y=>match y with | Sum.inl _=>⟨[V 2 (bv false)],[],0⟩ | Sum.inr _=>⟨[],[],0⟩) (fun y=>match y with | Sum.inl _=>.ret | Sum.inr _=>(.exit 2)) (jc_loop (fun x19=>⟨[V 0 (.fsl 1 (List.map c_L3 a0)),V 6 (.fsl 1 (List.map c_L3 x15.1)),V 42 (iv (List.length x15.1:Int)),V 43 (iv x19)],[],0⟩) (wkR [] (fix_nil _) allp_nil) ?_) ?_
 ·intro x19
  unfold law29_RupBack_l2
  refine jS ⟨[V 0 (.fsl 1 (List.map c_L3 a0)),V 6 (.fsl 1 (List.map c_L3 x15.1)),V 42 (iv (List.length x15.1:Int)),V 43 (iv x19),V 44 (bv (decide (x19 < (List.length x15.1:Int))))],[],0⟩ ?_
  refine jc_seq ?_
  refine jIf ?_ ?_
  ·refine jc_skip ?_
   refine jx_seqN ?_
   refine jc_seq ?_
   refine jc_block ?_
   refine jS ⟨[V 0 (.fsl 1 (List.map c_L3 a0)),V 6 (.fsl 1 (List.map c_L3 x15.1)),V 8 (iv x19),V 42 (iv (List.length x15.1:Int)),V 43 (iv x19)],[],0⟩ ?_
   refine jR ?_
   refine jG 0 2 ⟨[V 0 (.fsl 1 (List.map c_L3 a0)),V 6 (.fsl 1 (List.map c_L3 x15.1)),V 8 (iv x19),V 42 (iv (List.length x15.1:Int)),V 43 (iv x19),V 46 (.fsl 1 (List.map c_L3 x15.1)),V 47 (iv x19)],[],0⟩ ?_
   refine jr_part (i:=2) (mo:=ixl x15.1 x19) rfl rfl rfl rfl (fun _ hc=>aop_ixf (c:=c_L3) (sz:=1) (e:=29) (kk:=.i64) (by kernel_rfl) (by kernel_rfl) (by kernel_rfl) (by kernel_rfl) hc) (fun _=>rfl) ?_
   intro x24 h24
   refine jG 3 3 ⟨[V 0 (.fsl 1 (List.map c_L3 a0)),V 6 (.fsl 1 (List.map c_L3 x15.1)),V 42 (iv (List.length x15.1:Int)),V 43 (iv x19),V 49 (.fsl 1 (List.map cI x24)),V 50 (.fsl 1 (List.map c_L3 a0)),V 51 (iv x19)],[],0⟩ ?_
   refine jr_part (i:=6) (mo:=ixl a0 x19) rfl rfl rfl rfl (fun _ hc=>aop_ixf (c:=c_L3) (sz:=1) (e:=29) (kk:=.i64) (by kernel_rfl) (by kernel_rfl) (by kernel_rfl) (by kernel_rfl) hc) (fun _=>rfl) ?_
   intro x25 h25
   refine jG 7 1 ⟨[V 0 (.fsl 1 (List.map c_L3 a0)),V 6 (.fsl 1 (List.map c_L3 x15.1)),V 42 (iv (List.length x15.1:Int)),V 43 (iv x19),V 49 (.fsl 1 (List.map cI x24)),V 53 (.fsl 1 (List.map cI x25))],[],0⟩ ?_
   refine jK 8 (law29_ints_ok x24 x25) ?_
   intro x26 h26
   refine jG 9 1 ⟨[V 0 (.fsl 1 (List.map c_L3 a0)),V 6 (.fsl 1 (List.map c_L3 x15.1)),V 42 (iv (List.length x15.1:Int)),V 43 (iv x19),V 55 (bv (!x26))],[],0⟩ ?_
   refine jN ?_
   refine jIf ?_ ?_
   ·refine jS ⟨[V 2 (bv false)],[],0⟩ ?_
    refine jc_ret ?_
    refine jx_blkR ?_
    refine jx_seqR ?_
    exact jx_done rfl nofun (wkR [] (fix_nil _) allp_nil)
   refine jc_skip ?_
   refine jx_blkN ?_
   refine jx_seqN ?_
   refine jT ⟨[V 0 (.fsl 1 (List.map c_L3 a0)),V 6 (.fsl 1 (List.map c_L3 x15.1)),V 42 (iv (List.length x15.1:Int)),V 43 (iv (w64 (x19 + 1)))],[],0⟩ ?_
   exact jx_next (wkR [] (fix_nil _) allp_nil)
  refine jc_exit ?_
  refine jx_seqE ?_
  exact jx_done rfl nofun (wkR [] (fix_nil _) allp_nil)
 rintro (_ | _)
 ·refine jx_blkR ?_
  refine jx_seqR ?_
  exact jx_retF (.inr rfl) (v:=bv false) (by kernel_rfl) rfl (fle_refl _)
 refine jx_blkE ?_
 refine jx_seqN ?_
 refine jR ?_
 refine jK 0 (law29_awake_ok) ?_
 intro x27 h27
 refine jG 1 1 ⟨[V 2 (bv x27)],[],0⟩ ?_
 refine jN ?_
 refine jc_ret ?_
 exact jx_retF (.inr rfl) (v:=bv x27) (by kernel_rfl) rfl (fle_refl _))
end Go.Vm

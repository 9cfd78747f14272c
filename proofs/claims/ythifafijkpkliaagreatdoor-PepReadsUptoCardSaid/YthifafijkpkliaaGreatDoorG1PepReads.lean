/- The law PepReads, a part of its proof: what the functions that it reaches compute. -/
import Derived.Test.YthifafijkpkliaaGreatDoorG0PepReads
set_option maxRecDepth 100000
set_option maxHeartbeats 0
set_option linter.unusedVariables false
set_option linter.unusedSimpArgs false
namespace Go.Vm
open Go
abbrev pep_Fit_1_r1:List LO:=[lo 2 (.assign (.const (.bool false))) 4]
abbrev pep_Fit_1_r2:List LO:=[lm 3 0 9,lo 4 (.call ⟨.value (.func 56),#[.tmp 3,.const (.bool true)],#[9,4]⟩) 4,lo 5 (.unOp .not 4 (.tmp 4)) 4,lo 2 (.assign (.tmp 5)) 4]
abbrev pep_Fit_1_c:LC:=.seq (.reg false pep_Fit_1_r1) (.seq (.reg false pep_Fit_1_r2) .ret)
theorem pep_Fit_1_k:FnOk E 58 6 [.tmp 2] pep_Fit_1_c:=⟨⟨Go.Proofs.Tryz.f58,by kernel_rfl,by kernel_rfl,by kernel_rfl,by kernel_rfl,by kernel_rfl⟩,rfl,rfl⟩
noncomputable def pep_Fit_1 (a0:Str):Option (Bool):=Option.bind (pep_number a0 true) (fun x1=>some (!x1))
theorem pep_Fit_1_ok (a0:Str):Ct E 58 [bs a0] (pep_Fit_1 a0) (fun r:Bool=>bv r):=ct_intro (N:=6) (L:=pep_Fit_1_c) pep_Fit_1_k rfl (Nat.le_of_ble_eq_true rfl) (by kernel_rfl) (by
 unfold pep_Fit_1
 refine jS ⟨[V 0 (bs a0)],[],0⟩ ?_
 refine jR ?_
 refine jG 0 1 ⟨[V 3 (bs a0)],[],0⟩ ?_
 refine jK 1 (pep_number_ok a0 true) ?_
 intro x1 h1
 refine jG 2 2 ⟨[V 2 (bv (!x1))],[],0⟩ ?_
 refine jN ?_
 refine jc_ret ?_
 exact jx_retF (.inr rfl) (v:=bv (!x1)) (by kernel_rfl) rfl (fle_refl _))
abbrev slices_IndexFunc_string_string_s7b58_r1:List LO:=[lo 4 (.assign (.const (.int .i64 0))) 3]
abbrev slices_IndexFunc_string_string_s7b58_r2:List LO:=[lm 6 0 22,lo 7 (.call ⟨.builtin .len,#[.tmp 6],#[22]⟩) 3,lo 8 (.move (.const (.int .i64 0))) 3]
abbrev slices_IndexFunc_string_string_s7b58_r3:List LO:=[lo 9 (.binOp .lss 3 (.tmp 8) (.tmp 7) 3) 0]
abbrev slices_IndexFunc_string_string_s7b58_r4:List LO:=[lm 10 8 3,lo 5 (.assign (.tmp 10)) 3]
abbrev slices_IndexFunc_string_string_s7b58_r5:List LO:=[lm 11 1 44,lm 12 0 22,lm 13 5 3,lo 14 (.indexAddr 22 (.tmp 12) (.tmp 13)) 0,lo 15 (.load 9 (.tmp 14)) 9,lo 16 (.call ⟨.value (.tmp 11),#[.tmp 15],#[9]⟩) 4]
abbrev slices_IndexFunc_string_string_s7b58_r6:List LO:=[lm 17 5 3,lo 4 (.assign (.tmp 17)) 3]
abbrev slices_IndexFunc_string_string_s7b58_r7:List LO:=[lo 18 (.binOp .add 3 (.tmp 8) (.const (.int .i64 1)) 3) 3,lm 8 18 3]
abbrev slices_IndexFunc_string_string_s7b58_r8:List LO:=[lo 4 (.assign (.const (.int .i64 (-1)))) 3]
abbrev slices_IndexFunc_string_string_s7b58_c:LC:=.seq (.reg false slices_IndexFunc_string_string_s7b58_r1) (.seq (.seq (.reg false slices_IndexFunc_string_string_s7b58_r2) (.block 0 (.loop (.seq (.reg false slices_IndexFunc_string_string_s7b58_r3) (.seq (.cond (.tmp 9) .skip (.exit 0)) (.seq (.block 1 (.seq (.reg false slices_IndexFunc_string_string_s7b58_r4) (.seq (.reg false slices_IndexFunc_string_string_s7b58_r5) (.cond (.tmp 16) (.seq (.reg false slices_IndexFunc_string_string_s7b58_r6) .ret) .skip)))) (.reg false slices_IndexFunc_string_string_s7b58_r7))))))) (.seq (.reg false slices_IndexFunc_string_string_s7b58_r8) .ret))
theorem slices_IndexFunc_string_string_s7b58_k:FnOk E 101 19 [.tmp 4] slices_IndexFunc_string_string_s7b58_c:=⟨⟨Go.Proofs.Tryz.f101,by kernel_rfl,by kernel_rfl,by kernel_rfl,by kernel_rfl,by kernel_rfl⟩,rfl,rfl⟩
noncomputable def slices_IndexFunc_string_string_s7b58_l1 (a0:(List Str)):Int→Option (Step (Int) ((Int) ⊕ (Unit))):=fun x3=>(if (decide (x3 < (List.length a0:Int)))=true then Option.bind (ixl a0 x3) (fun x8=>Option.bind (pep_Fit_1 x8) (fun x9=>(if x9=true then some (Step.done (Sum.inl x3)) else some (Step.next (w64 (x3 + 1)))))) else some (Step.done (Sum.inr ())))
noncomputable def slices_IndexFunc_string_string_s7b58 (a0:(List Str)):Option (Int):=Option.bind (loopC (slices_IndexFunc_string_string_s7b58_l1 a0) 0) (fun y=>match y with | Sum.inl x7=>some x7 | Sum.inr _=>some (-1))
theorem slices_IndexFunc_string_string_s7b58_ok (a0:(List Str)):Ct E 101 [.fsl 1 (List.map cS a0),.fn 58 []] (slices_IndexFunc_string_string_s7b58 a0) (fun r:Int=>iv r):=ct_intro (N:=19) (L:=slices_IndexFunc_string_string_s7b58_c) slices_IndexFunc_string_string_s7b58_k rfl (Nat.le_of_ble_eq_true rfl) (by kernel_rfl) (by
 unfold slices_IndexFunc_string_string_s7b58
 refine jS ⟨[V 0 (.fsl 1 (List.map cS a0)),V 1 (.fn 58 [])],[],0⟩ ?_
 refine jc_seq ?_
 refine jR ?_
 refine jG 0 3 ⟨[V 0 (.fsl 1 (List.map cS a0)),V 1 (.fn 58 []),V 7 (iv (List.length (List.map cS a0):Int)),V 8 (iv 0)],[],0⟩ ?_
 simp only[List.length_map]
 refine jN ?_
 refine jc_block ?_
 refine jc_bind (fun y=>match y with | Sum.inl x7=>⟨[V 4 (iv x7)],[],0⟩ | Sum.inr _=>⟨[],[],0⟩) (fun y=>match y with | Sum.inl x7=>.ret | Sum.inr _=>(.exit 0)) (jc_loop (fun x3=>⟨[V 0 (.fsl 1 (List.map cS a0)),V 1 (.fn 58 []),V 7 (iv (List.length a0:Int)),V 8 (iv x3)],[],0⟩) (wkR [] (fix_nil _) allp_nil) ?_) ?_
 ·intro x3
  unfold slices_IndexFunc_string_string_s7b58_l1
  refine jS ⟨[V 0 (.fsl 1 (List.map cS a0)),V 1 (.fn 58 []),V 7 (iv (List.length a0:Int)),V 8 (iv x3),V 9 (bv (decide (x3 < (List.length a0:Int))))],[],0⟩ ?_
  refine jc_seq ?_
  refine jIf ?_ ?_
  ·refine jc_skip ?_
   refine jx_seqN ?_
   refine jc_seq ?_
   refine jc_block ?_
   refine jS ⟨[V 0 (.fsl 1 (List.map cS a0)),V 1 (.fn 58 []),V 5 (iv x3),V 7 (iv (List.length a0:Int)),V 8 (iv x3)],[],0⟩ ?_
   refine jR ?_
   refine jG 0 3 ⟨[V 0 (.fsl 1 (List.map cS a0)),V 1 (.fn 58 []),V 5 (iv x3),V 7 (iv (List.length a0:Int)),V 8 (iv x3),V 11 (.fn 58 []),V 12 (.fsl 1 (List.map cS a0)),V 13 (iv x3)],[],0⟩ ?_
   refine jr_part (i:=3) (mo:=ixl a0 x3) rfl rfl rfl rfl (fun _ hc=>aop_ixf (c:=cS) (sz:=1) (e:=9) (kk:=.i64) (by kernel_rfl) (by kernel_rfl) (by kernel_rfl) (by kernel_rfl) hc) (fun _=>rfl) ?_
   intro x8 h8
   refine jG 4 1 ⟨[V 0 (.fsl 1 (List.map cS a0)),V 1 (.fn 58 []),V 5 (iv x3),V 7 (iv (List.length a0:Int)),V 8 (iv x3),V 11 (.fn 58 []),V 15 (bs x8)],[],0⟩ ?_
   refine jr_callV (i:=5) rfl rfl rfl rfl (g:=58) (caps:=[]) (avs:=[bs x8]) (vs:=[bs x8]) (by kernel_rfl) (by kernel_rfl) rfl (snapL_cons rfl (snapL_nil _)) (all2_cons (fle_refl _) all2_nil) (pep_Fit_1_ok x8) (fun _=>rfl) (fun _=>rfl) ?_
   intro x9 h9
   refine jN ?_
   refine jIf ?_ ?_
   ·refine jS ⟨[V 4 (iv x3)],[],0⟩ ?_
    refine jc_ret ?_
    refine jx_blkR ?_
    refine jx_seqR ?_
    exact jx_done rfl nofun (wkR [] (fix_nil _) allp_nil)
   refine jc_skip ?_
   refine jx_blkN ?_
   refine jx_seqN ?_
   refine jT ⟨[V 0 (.fsl 1 (List.map cS a0)),V 1 (.fn 58 []),V 7 (iv (List.length a0:Int)),V 8 (iv (w64 (x3 + 1)))],[],0⟩ ?_
   exact jx_next (wkR [] (fix_nil _) allp_nil)
  refine jc_exit ?_
  refine jx_seqE ?_
  exact jx_done rfl nofun (wkR [] (fix_nil _) allp_nil)
 rintro (x7 | _)
 ·refine jx_blkR ?_
  refine jx_seqR ?_
  exact jx_retF (.inr rfl) (v:=iv x7) (by kernel_rfl) rfl (fle_refl _)
 refine jx_blkE ?_
 refine jx_seqN ?_
 refine jS ⟨[V 4 (iv (-1))],[],0⟩ ?_
 refine jc_ret ?_
 exact jx_retF (.inr rfl) (v:=iv (-1)) (by kernel_rfl) rfl (fle_refl _))
abbrev slices_ContainsFunc_string_string_s7b58_r1:List LO:=[lo 4 (.assign (.const (.bool false))) 4]
abbrev slices_ContainsFunc_string_string_s7b58_r2:List LO:=[lm 5 0 22,lm 6 1 44,lo 7 (.call ⟨.value (.func 101),#[.tmp 5,.tmp 6],#[22,44]⟩) 3,lo 8 (.binOp .geq 3 (.tmp 7) (.const (.int .i64 0)) 3) 4,lo 4 (.assign (.tmp 8)) 4]
abbrev slices_ContainsFunc_string_string_s7b58_c:LC:=.seq (.reg false slices_ContainsFunc_string_string_s7b58_r1) (.seq (.reg false slices_ContainsFunc_string_string_s7b58_r2) .ret)
theorem slices_ContainsFunc_string_string_s7b58_k:FnOk E 57 9 [.tmp 4] slices_ContainsFunc_string_string_s7b58_c:=⟨⟨Go.Proofs.Tryz.f57,by kernel_rfl,by kernel_rfl,by kernel_rfl,by kernel_rfl,by kernel_rfl⟩,rfl,rfl⟩
noncomputable def slices_ContainsFunc_string_string_s7b58 (a0:(List Str)):Option (Bool):=Option.bind (slices_IndexFunc_string_string_s7b58 a0) (fun x1=>some (decide (x1≥0)))
theorem slices_ContainsFunc_string_string_s7b58_ok (a0:(List Str)):Ct E 57 [.fsl 1 (List.map cS a0),.fn 58 []] (slices_ContainsFunc_string_string_s7b58 a0) (fun r:Bool=>bv r):=ct_intro (N:=9) (L:=slices_ContainsFunc_string_string_s7b58_c) slices_ContainsFunc_string_string_s7b58_k rfl (Nat.le_of_ble_eq_true rfl) (by kernel_rfl) (by
 unfold slices_ContainsFunc_string_string_s7b58
 refine jS ⟨[V 0 (.fsl 1 (List.map cS a0)),V 1 (.fn 58 [])],[],0⟩ ?_
 refine jR ?_
 refine jG 0 2 ⟨[V 5 (.fsl 1 (List.map cS a0)),V 6 (.fn 58 [])],[],0⟩ ?_
 refine jK 2 (slices_IndexFunc_string_string_s7b58_ok a0) ?_
 intro x1 h1
 refine jG 3 2 ⟨[V 4 (bv (decide (x1≥0)))],[],0⟩ ?_
 refine jN ?_
 refine jc_ret ?_
 exact jx_retF (.inr rfl) (v:=bv (decide (x1≥0))) (by kernel_rfl) rfl (fle_refl _))
abbrev pep_part_r1:List LO:=[lo 2 (.assign (.const (.bool false))) 4]
abbrev pep_part_r2:List LO:=[lm 3 0 9,lo 4 (.binOp .eql 9 (.tmp 3) (.const (.string ⟨#[]⟩)) 9) 4,lm 5 4 4,lmg 6 0 9 5 false,lg 7 (.call ⟨.value (.func 87),#[.tmp 6,.const (.int .i64 0),.const (.int .i64 5)],#[9,3,3]⟩) 3 5 false,lmg 8 0 9 5 false,lg 9 (.call ⟨.builtin .len,#[.tmp 8],#[9]⟩) 3 5 false,lg 10 (.binOp .neq 3 (.tmp 7) (.tmp 9) 3) 4 5 false,lo 11 (.pick (.tmp 5) (.const (.bool true)) (.tmp 10)) 4,lm 12 11 4,lmg 13 0 9 12 false,lg 14 (.call ⟨.value (.func 35),#[.tmp 13],#[9]⟩) 9 12 false,lmg 15 0 9 12 false,lg 16 (.binOp .neq 9 (.tmp 14) (.tmp 15) 9) 4 12 false,lo 17 (.pick (.tmp 12) (.const (.bool true)) (.tmp 16)) 4]
abbrev pep_part_r3:List LO:=[lo 2 (.assign (.const (.bool false))) 4]
abbrev pep_part_r4:List LO:=[lm 18 0 9,lo 19 (.call ⟨.value (.func 87),#[.tmp 18,.const (.int .i64 0),.const (.int .i64 1)],#[9,3,3]⟩) 3,lm 20 0 9,lo 21 (.call ⟨.builtin .len,#[.tmp 20],#[9]⟩) 3,lo 22 (.binOp .neq 3 (.tmp 19) (.tmp 21) 3) 4,lm 23 22 4,lmg 24 0 9 23 false,lg 25 (.call ⟨.value (.func 96),#[.tmp 24],#[9]⟩) 9 23 false,lmg 26 0 9 23 false,lg 27 (.binOp .eql 9 (.tmp 25) (.tmp 26) 9) 4 23 false,lo 28 (.pick (.tmp 23) (.const (.bool true)) (.tmp 27)) 4,lo 2 (.assign (.tmp 28)) 4]
abbrev pep_part_c:LC:=.seq (.reg false pep_part_r1) (.seq (.seq (.reg false pep_part_r2) (.cond (.tmp 17) (.seq (.reg false pep_part_r3) .ret) .skip)) (.seq (.reg false pep_part_r4) .ret))
theorem pep_part_k:FnOk E 60 29 [.tmp 2] pep_part_c:=⟨⟨Go.Proofs.Tryz.f60,by kernel_rfl,by kernel_rfl,by kernel_rfl,by kernel_rfl,by kernel_rfl⟩,rfl,rfl⟩
noncomputable def pep_part (a0:Str):Option (Bool):=Option.bind (if (a0 == [])=true then some true else Option.bind (scan_Run a0 0 5) (fun x3=>some (x3 != (List.length a0:Int))):Option (Bool)) (fun x2=>Option.bind (if x2=true then some true else Option.bind (scan_Lower a0) (fun x6=>some (!(x6 == a0))):Option (Bool)) (fun x5=>(if x5=true then some false else Option.bind (scan_Run a0 0 1) (fun x7=>Option.bind (if (x7 != (List.length a0:Int))=true then some true else Option.bind (scan_Trim a0) (fun x10=>some (x10 == a0)):Option (Bool)) (fun x9=>some x9)))))
theorem pep_part_ok (a0:Str):Ct E 60 [bs a0] (pep_part a0) (fun r:Bool=>bv r):=ct_intro (N:=29) (L:=pep_part_c) pep_part_k rfl (Nat.le_of_ble_eq_true rfl) (by kernel_rfl) (by
 unfold pep_part
 refine jS ⟨[V 0 (bs a0)],[],0⟩ ?_
 refine jc_seq ?_
 refine jR ?_
 refine jG 0 3 ⟨[V 0 (bs a0),V 5 (bv (a0 == []))],[],0⟩ ?_
 refine jr_bind 3 6 (fun x2=>⟨[V 0 (bs a0),V 11 (bv x2)],[],0⟩) ?_ ?_
 ·refine jSp 5 ?_ ?_
  ·refine jG 0 6 ⟨[V 0 (bs a0),V 11 (bv true)],[],0⟩ ?_
   refine jr_nil rfl ?_
   exact jx_mid rfl (wkR [] (fix_nil _) allp_nil)
  refine jG 0 1 ⟨[V 0 (bs a0),(5,.lit false),V 6 (bs a0)],[],0⟩ ?_
  refine jK 1 (scan_Run_ok a0 0 5) ?_
  intro x3 h3
  refine jG 2 4 ⟨[V 0 (bs a0),V 11 (bv (x3 != (List.length a0:Int)))],[],0⟩ ?_
  refine jr_nil rfl ?_
  exact jx_mid rfl (wkR [] (fix_nil _) allp_nil)
 intro x2
 refine jG 9 1 ⟨[V 0 (bs a0),V 12 (bv x2)],[],0⟩ ?_
 refine jr_bind 10 5 (fun x5=>⟨[V 0 (bs a0),V 17 (bv x5)],[],0⟩) ?_ ?_
 ·refine jSp 12 ?_ ?_
  ·refine jG 0 5 ⟨[V 0 (bs a0),V 17 (bv true)],[],0⟩ ?_
   refine jr_nil rfl ?_
   exact jx_mid rfl (wkR [] (fix_nil _) allp_nil)
  refine jG 0 1 ⟨[V 0 (bs a0),(12,.lit false),V 13 (bs a0)],[],0⟩ ?_
  refine jK 1 (scan_Lower_ok a0) ?_
  intro x6 h6
  refine jG 2 3 ⟨[V 0 (bs a0),V 17 (bv (!(x6 == a0)))],[],0⟩ ?_
  refine jr_nil rfl ?_
  exact jx_mid rfl (wkR [] (fix_nil _) allp_nil)
 intro x5
 refine jN ?_
 refine jIf ?_ ?_
 ·refine jS ⟨[V 2 (bv false)],[],0⟩ ?_
  refine jc_ret ?_
  refine jx_seqR ?_
  exact jx_retF (.inr rfl) (v:=bv false) (by kernel_rfl) rfl (fle_refl _)
 refine jc_skip ?_
 refine jx_seqN ?_
 refine jR ?_
 refine jG 0 1 ⟨[V 0 (bs a0),V 18 (bs a0)],[],0⟩ ?_
 refine jK 1 (scan_Run_ok a0 0 1) ?_
 intro x7 h7
 refine jG 2 4 ⟨[V 0 (bs a0),V 23 (bv (x7 != (List.length a0:Int)))],[],0⟩ ?_
 refine jr_bind 6 5 (fun x9=>⟨[V 28 (bv x9)],[],0⟩) ?_ ?_
 ·refine jSp 23 ?_ ?_
  ·refine jG 0 5 ⟨[V 28 (bv true)],[],0⟩ ?_
   refine jr_nil rfl ?_
   exact jx_mid rfl (wkR [] (fix_nil _) allp_nil)
  refine jG 0 1 ⟨[V 0 (bs a0),(23,.lit false),V 24 (bs a0)],[],0⟩ ?_
  refine jK 1 (scan_Trim_ok a0) ?_
  intro x10 h10
  refine jG 2 3 ⟨[V 28 (bv (x10 == a0))],[],0⟩ ?_
  refine jr_nil rfl ?_
  exact jx_mid rfl (wkR [] (fix_nil _) allp_nil)
 intro x9
 refine jG 11 1 ⟨[V 2 (bv x9)],[],0⟩ ?_
 refine jN ?_
 refine jc_ret ?_
 exact jx_retF (.inr rfl) (v:=bv x9) (by kernel_rfl) rfl (fle_refl _))
abbrev pep_Fit_2_r1:List LO:=[lo 2 (.assign (.const (.bool false))) 4]
abbrev pep_Fit_2_r2:List LO:=[lm 3 0 9,lo 4 (.call ⟨.value (.func 60),#[.tmp 3],#[9]⟩) 4,lo 5 (.unOp .not 4 (.tmp 4)) 4,lo 2 (.assign (.tmp 5)) 4]
abbrev pep_Fit_2_c:LC:=.seq (.reg false pep_Fit_2_r1) (.seq (.reg false pep_Fit_2_r2) .ret)
theorem pep_Fit_2_k:FnOk E 59 6 [.tmp 2] pep_Fit_2_c:=⟨⟨Go.Proofs.Tryz.f59,by kernel_rfl,by kernel_rfl,by kernel_rfl,by kernel_rfl,by kernel_rfl⟩,rfl,rfl⟩
noncomputable def pep_Fit_2 (a0:Str):Option (Bool):=Option.bind (pep_part a0) (fun x1=>some (!x1))
theorem pep_Fit_2_ok (a0:Str):Ct E 59 [bs a0] (pep_Fit_2 a0) (fun r:Bool=>bv r):=ct_intro (N:=6) (L:=pep_Fit_2_c) pep_Fit_2_k rfl (Nat.le_of_ble_eq_true rfl) (by kernel_rfl) (by
 unfold pep_Fit_2
 refine jS ⟨[V 0 (bs a0)],[],0⟩ ?_
 refine jR ?_
 refine jG 0 1 ⟨[V 3 (bs a0)],[],0⟩ ?_
 refine jK 1 (pep_part_ok a0) ?_
 intro x1 h1
 refine jG 2 2 ⟨[V 2 (bv (!x1))],[],0⟩ ?_
 refine jN ?_
 refine jc_ret ?_
 exact jx_retF (.inr rfl) (v:=bv (!x1)) (by kernel_rfl) rfl (fle_refl _))
abbrev slices_IndexFunc_string_string_s5fcb_r1:List LO:=[lo 4 (.assign (.const (.int .i64 0))) 3]
abbrev slices_IndexFunc_string_string_s5fcb_r2:List LO:=[lm 6 0 22,lo 7 (.call ⟨.builtin .len,#[.tmp 6],#[22]⟩) 3,lo 8 (.move (.const (.int .i64 0))) 3]
abbrev slices_IndexFunc_string_string_s5fcb_r3:List LO:=[lo 9 (.binOp .lss 3 (.tmp 8) (.tmp 7) 3) 0]
abbrev slices_IndexFunc_string_string_s5fcb_r4:List LO:=[lm 10 8 3,lo 5 (.assign (.tmp 10)) 3]
abbrev slices_IndexFunc_string_string_s5fcb_r5:List LO:=[lm 11 1 44,lm 12 0 22,lm 13 5 3,lo 14 (.indexAddr 22 (.tmp 12) (.tmp 13)) 0,lo 15 (.load 9 (.tmp 14)) 9,lo 16 (.call ⟨.value (.tmp 11),#[.tmp 15],#[9]⟩) 4]
abbrev slices_IndexFunc_string_string_s5fcb_r6:List LO:=[lm 17 5 3,lo 4 (.assign (.tmp 17)) 3]
abbrev slices_IndexFunc_string_string_s5fcb_r7:List LO:=[lo 18 (.binOp .add 3 (.tmp 8) (.const (.int .i64 1)) 3) 3,lm 8 18 3]
abbrev slices_IndexFunc_string_string_s5fcb_r8:List LO:=[lo 4 (.assign (.const (.int .i64 (-1)))) 3]
abbrev slices_IndexFunc_string_string_s5fcb_c:LC:=.seq (.reg false slices_IndexFunc_string_string_s5fcb_r1) (.seq (.seq (.reg false slices_IndexFunc_string_string_s5fcb_r2) (.block 0 (.loop (.seq (.reg false slices_IndexFunc_string_string_s5fcb_r3) (.seq (.cond (.tmp 9) .skip (.exit 0)) (.seq (.block 1 (.seq (.reg false slices_IndexFunc_string_string_s5fcb_r4) (.seq (.reg false slices_IndexFunc_string_string_s5fcb_r5) (.cond (.tmp 16) (.seq (.reg false slices_IndexFunc_string_string_s5fcb_r6) .ret) .skip)))) (.reg false slices_IndexFunc_string_string_s5fcb_r7))))))) (.seq (.reg false slices_IndexFunc_string_string_s5fcb_r8) .ret))
theorem slices_IndexFunc_string_string_s5fcb_k:FnOk E 101 19 [.tmp 4] slices_IndexFunc_string_string_s5fcb_c:=⟨⟨Go.Proofs.Tryz.f101,by kernel_rfl,by kernel_rfl,by kernel_rfl,by kernel_rfl,by kernel_rfl⟩,rfl,rfl⟩
noncomputable def slices_IndexFunc_string_string_s5fcb_l1 (a0:(List Str)):Int→Option (Step (Int) ((Int) ⊕ (Unit))):=fun x3=>(if (decide (x3 < (List.length a0:Int)))=true then Option.bind (ixl a0 x3) (fun x8=>Option.bind (pep_Fit_2 x8) (fun x9=>(if x9=true then some (Step.done (Sum.inl x3)) else some (Step.next (w64 (x3 + 1)))))) else some (Step.done (Sum.inr ())))
noncomputable def slices_IndexFunc_string_string_s5fcb (a0:(List Str)):Option (Int):=Option.bind (loopC (slices_IndexFunc_string_string_s5fcb_l1 a0) 0) (fun y=>match y with | Sum.inl x7=>some x7 | Sum.inr _=>some (-1))
theorem slices_IndexFunc_string_string_s5fcb_ok (a0:(List Str)):Ct E 101 [.fsl 1 (List.map cS a0),.fn 59 []] (slices_IndexFunc_string_string_s5fcb a0) (fun r:Int=>iv r):=ct_intro (N:=19) (L:=slices_IndexFunc_string_string_s5fcb_c) slices_IndexFunc_string_string_s5fcb_k rfl (Nat.le_of_ble_eq_true rfl) (by kernel_rfl) (by
 unfold slices_IndexFunc_string_string_s5fcb
 refine jS ⟨[V 0 (.fsl 1 (List.map cS a0)),V 1 (.fn 59 [])],[],0⟩ ?_
 refine jc_seq ?_
 refine jR ?_
 refine jG 0 3 ⟨[V 0 (.fsl 1 (List.map cS a0)),V 1 (.fn 59 []),V 7 (iv (List.length (List.map cS a0):Int)),V 8 (iv 0)],[],0⟩ ?_
 simp only[List.length_map]
 refine jN ?_
 refine jc_block ?_
 refine jc_bind (fun y=>match y with | Sum.inl x7=>⟨[V 4 (iv x7)],[],0⟩ | Sum.inr _=>⟨[],[],0⟩) (fun y=>match y with | Sum.inl x7=>.ret | Sum.inr _=>(.exit 0)) (jc_loop (fun x3=>⟨[V 0 (.fsl 1 (List.map cS a0)),V 1 (.fn 59 []),V 7 (iv (List.length a0:Int)),V 8 (iv x3)],[],0⟩) (wkR [] (fix_nil _) allp_nil) ?_) ?_
 ·intro x3
  unfold slices_IndexFunc_string_string_s5fcb_l1
  refine jS ⟨[V 0 (.fsl 1 (List.map cS a0)),V 1 (.fn 59 []),V 7 (iv (List.length a0:Int)),V 8 (iv x3),V 9 (bv (decide (x3 < (List.length a0:Int))))],[],0⟩ ?_
  refine jc_seq ?_
  refine jIf ?_ ?_
  ·refine jc_skip ?_
   refine jx_seqN ?_
   refine jc_seq ?_
   refine jc_block ?_
   refine jS ⟨[V 0 (.fsl 1 (List.map cS a0)),V 1 (.fn 59 []),V 5 (iv x3),V 7 (iv (List.length a0:Int)),V 8 (iv x3)],[],0⟩ ?_
   refine jR ?_
   refine jG 0 3 ⟨[V 0 (.fsl 1 (List.map cS a0)),V 1 (.fn 59 []),V 5 (iv x3),V 7 (iv (List.length a0:Int)),V 8 (iv x3),V 11 (.fn 59 []),V 12 (.fsl 1 (List.map cS a0)),V 13 (iv x3)],[],0⟩ ?_
   refine jr_part (i:=3) (mo:=ixl a0 x3) rfl rfl rfl rfl (fun _ hc=>aop_ixf (c:=cS) (sz:=1) (e:=9) (kk:=.i64) (by kernel_rfl) (by kernel_rfl) (by kernel_rfl) (by kernel_rfl) hc) (fun _=>rfl) ?_
   intro x8 h8
   refine jG 4 1 ⟨[V 0 (.fsl 1 (List.map cS a0)),V 1 (.fn 59 []),V 5 (iv x3),V 7 (iv (List.length a0:Int)),V 8 (iv x3),V 11 (.fn 59 []),V 15 (bs x8)],[],0⟩ ?_
   refine jr_callV (i:=5) rfl rfl rfl rfl (g:=59) (caps:=[]) (avs:=[bs x8]) (vs:=[bs x8]) (by kernel_rfl) (by kernel_rfl) rfl (snapL_cons rfl (snapL_nil _)) (all2_cons (fle_refl _) all2_nil) (pep_Fit_2_ok x8) (fun _=>rfl) (fun _=>rfl) ?_
   intro x9 h9
   refine jN ?_
   refine jIf ?_ ?_
   ·refine jS ⟨[V 4 (iv x3)],[],0⟩ ?_
    refine jc_ret ?_
    refine jx_blkR ?_
    refine jx_seqR ?_
    exact jx_done rfl nofun (wkR [] (fix_nil _) allp_nil)
   refine jc_skip ?_
   refine jx_blkN ?_
   refine jx_seqN ?_
   refine jT ⟨[V 0 (.fsl 1 (List.map cS a0)),V 1 (.fn 59 []),V 7 (iv (List.length a0:Int)),V 8 (iv (w64 (x3 + 1)))],[],0⟩ ?_
   exact jx_next (wkR [] (fix_nil _) allp_nil)
  refine jc_exit ?_
  refine jx_seqE ?_
  exact jx_done rfl nofun (wkR [] (fix_nil _) allp_nil)
 rintro (x7 | _)
 ·refine jx_blkR ?_
  refine jx_seqR ?_
  exact jx_retF (.inr rfl) (v:=iv x7) (by kernel_rfl) rfl (fle_refl _)
 refine jx_blkE ?_
 refine jx_seqN ?_
 refine jS ⟨[V 4 (iv (-1))],[],0⟩ ?_
 refine jc_ret ?_
 exact jx_retF (.inr rfl) (v:=iv (-1)) (by kernel_rfl) rfl (fle_refl _))
abbrev slices_ContainsFunc_string_string_s5fcb_r1:List LO:=[lo 4 (.assign (.const (.bool false))) 4]
abbrev slices_ContainsFunc_string_string_s5fcb_r2:List LO:=[lm 5 0 22,lm 6 1 44,lo 7 (.call ⟨.value (.func 101),#[.tmp 5,.tmp 6],#[22,44]⟩) 3,lo 8 (.binOp .geq 3 (.tmp 7) (.const (.int .i64 0)) 3) 4,lo 4 (.assign (.tmp 8)) 4]
abbrev slices_ContainsFunc_string_string_s5fcb_c:LC:=.seq (.reg false slices_ContainsFunc_string_string_s5fcb_r1) (.seq (.reg false slices_ContainsFunc_string_string_s5fcb_r2) .ret)
theorem slices_ContainsFunc_string_string_s5fcb_k:FnOk E 57 9 [.tmp 4] slices_ContainsFunc_string_string_s5fcb_c:=⟨⟨Go.Proofs.Tryz.f57,by kernel_rfl,by kernel_rfl,by kernel_rfl,by kernel_rfl,by kernel_rfl⟩,rfl,rfl⟩
noncomputable def slices_ContainsFunc_string_string_s5fcb (a0:(List Str)):Option (Bool):=Option.bind (slices_IndexFunc_string_string_s5fcb a0) (fun x1=>some (decide (x1≥0)))
theorem slices_ContainsFunc_string_string_s5fcb_ok (a0:(List Str)):Ct E 57 [.fsl 1 (List.map cS a0),.fn 59 []] (slices_ContainsFunc_string_string_s5fcb a0) (fun r:Bool=>bv r):=ct_intro (N:=9) (L:=slices_ContainsFunc_string_string_s5fcb_c) slices_ContainsFunc_string_string_s5fcb_k rfl (Nat.le_of_ble_eq_true rfl) (by kernel_rfl) (by
 unfold slices_ContainsFunc_string_string_s5fcb
 refine jS ⟨[V 0 (.fsl 1 (List.map cS a0)),V 1 (.fn 59 [])],[],0⟩ ?_
 refine jR ?_
 refine jG 0 2 ⟨[V 5 (.fsl 1 (List.map cS a0)),V 6 (.fn 59 [])],[],0⟩ ?_
 refine jK 2 (slices_IndexFunc_string_string_s5fcb_ok a0) ?_
 intro x1 h1
 refine jG 3 2 ⟨[V 4 (bv (decide (x1≥0)))],[],0⟩ ?_
 refine jN ?_
 refine jc_ret ?_
 exact jx_retF (.inr rfl) (v:=bv (decide (x1≥0))) (by kernel_rfl) rfl (fle_refl _))
abbrev pep_Fit_r1:List LO:=[lo 1 (.box 24 (.tmp 0)) 0,lo 2 (.assign (.const (.bool false))) 4]
abbrev pep_Fit_r2:List LO:=[lo 4 (.fieldAddr 24 (.tmp 1) 2) 0,lo 5 (.load 5 (.tmp 4)) 5,lo 6 (.binOp .eql 5 (.tmp 5) (.const (.int .u8 97)) 5) 4,lm 7 6 4,lg 8 (.fieldAddr 24 (.tmp 1) 2) 0 7 false,lg 9 (.load 5 (.tmp 8)) 5 7 false,lg 10 (.binOp .eql 5 (.tmp 9) (.const (.int .u8 98)) 5) 4 7 false,lo 11 (.pick (.tmp 7) (.const (.bool true)) (.tmp 10)) 4,lm 12 11 4,lg 13 (.fieldAddr 24 (.tmp 1) 2) 0 12 false,lg 14 (.load 5 (.tmp 13)) 5 12 false,lg 15 (.binOp .eql 5 (.tmp 14) (.const (.int .u8 114)) 5) 4 12 false,lo 16 (.pick (.tmp 12) (.const (.bool true)) (.tmp 15)) 4,lo 3 (.assign (.tmp 16)) 4]
abbrev pep_Fit_r3:List LO:=[lo 17 (.fieldAddr 24 (.tmp 1) 0) 0,lo 18 (.load 9 (.tmp 17)) 9,lo 19 (.call ⟨.value (.func 56),#[.tmp 18,.const (.bool true)],#[9,4]⟩) 4,lo 20 (.unOp .not 4 (.tmp 19)) 4,lm 21 20 4,lg 22 (.fieldAddr 24 (.tmp 1) 1) 0 21 false,lg 23 (.load 22 (.tmp 22)) 22 21 false,lg 24 (.call ⟨.builtin .len,#[.tmp 23],#[22]⟩) 3 21 false,lg 25 (.binOp .eql 3 (.tmp 24) (.const (.int .i64 0)) 3) 4 21 false,lo 26 (.pick (.tmp 21) (.const (.bool true)) (.tmp 25)) 4,lm 27 26 4,lg 28 (.fieldAddr 24 (.tmp 1) 2) 0 27 false,lg 29 (.load 5 (.tmp 28)) 5 27 false,lg 30 (.binOp .neq 5 (.tmp 29) (.const (.int .u8 0)) 5) 4 27 false,lmg 31 30 4 27 false,lmg 32 3 4 31 true,lg 33 (.unOp .not 4 (.tmp 32)) 4 31 true,lg 34 (.pick (.tmp 31) (.tmp 33) (.const (.bool false))) 4 27 false,lo 35 (.pick (.tmp 27) (.const (.bool true)) (.tmp 34)) 4,lm 36 35 4,lg 37 (.fieldAddr 24 (.tmp 1) 3) 0 36 false,lg 38 (.load 9 (.tmp 37)) 9 36 false,lmg 39 3 4 36 false,lg 40 (.call ⟨.value (.func 56),#[.tmp 38,.tmp 39],#[9,4]⟩) 4 36 false,lg 41 (.unOp .not 4 (.tmp 40)) 4 36 false,lo 42 (.pick (.tmp 36) (.const (.bool true)) (.tmp 41)) 4,lm 43 42 4,lg 44 (.fieldAddr 24 (.tmp 1) 5) 0 43 false,lg 45 (.load 9 (.tmp 44)) 9 43 false,lg 46 (.fieldAddr 24 (.tmp 1) 4) 0 43 false,lg 47 (.load 4 (.tmp 46)) 4 43 false,lg 48 (.call ⟨.value (.func 56),#[.tmp 45,.tmp 47],#[9,4]⟩) 4 43 false,lg 49 (.unOp .not 4 (.tmp 48)) 4 43 false,lo 50 (.pick (.tmp 43) (.const (.bool true)) (.tmp 49)) 4,lm 51 50 4,lg 52 (.fieldAddr 24 (.tmp 1) 7) 0 51 false,lg 53 (.load 9 (.tmp 52)) 9 51 false,lg 54 (.fieldAddr 24 (.tmp 1) 6) 0 51 false,lg 55 (.load 4 (.tmp 54)) 4 51 false,lg 56 (.call ⟨.value (.func 56),#[.tmp 53,.tmp 55],#[9,4]⟩) 4 51 false,lg 57 (.unOp .not 4 (.tmp 56)) 4 51 false,lo 58 (.pick (.tmp 51) (.const (.bool true)) (.tmp 57)) 4]
abbrev pep_Fit_r4:List LO:=[lo 2 (.assign (.const (.bool false))) 4]
abbrev pep_Fit_r5:List LO:=[lo 59 (.fieldAddr 24 (.tmp 1) 1) 0,lo 60 (.load 22 (.tmp 59)) 22,lo 61 (.call ⟨.value (.func 57),#[.tmp 60,.func 58],#[22,44]⟩) 4,lo 62 (.unOp .not 4 (.tmp 61)) 4,lm 63 62 4,lg 64 (.fieldAddr 24 (.tmp 1) 8) 0 63 true,lg 65 (.load 22 (.tmp 64)) 22 63 true,lg 66 (.call ⟨.value (.func 57),#[.tmp 65,.func 59],#[22,44]⟩) 4 63 true,lg 67 (.unOp .not 4 (.tmp 66)) 4 63 true,lo 68 (.pick (.tmp 63) (.tmp 67) (.const (.bool false))) 4,lo 2 (.assign (.tmp 68)) 4]
abbrev pep_Fit_c:LC:=.seq (.reg false pep_Fit_r1) (.seq (.reg false pep_Fit_r2) (.seq (.seq (.reg false pep_Fit_r3) (.cond (.tmp 58) (.seq (.reg false pep_Fit_r4) .ret) .skip)) (.seq (.reg false pep_Fit_r5) .ret)))
theorem pep_Fit_k:FnOk E 17 69 [.tmp 2] pep_Fit_c:=⟨⟨Go.Proofs.Tryz.f17,by kernel_rfl,by kernel_rfl,by kernel_rfl,by kernel_rfl,by kernel_rfl⟩,rfl,rfl⟩
noncomputable def pep_Fit (a0:S_api_Pep):Option (Bool):=Option.bind (pep_number a0.Epoch true) (fun x1=>Option.bind (if (((!x1) || ((List.length a0.Release:Int) == 0)) || ((a0.Pre != 0) && (!(((a0.Pre == 97) || (a0.Pre == 98)) || (a0.Pre == 114)))))=true then some true else Option.bind (pep_number a0.PreNum (((a0.Pre == 97) || (a0.Pre == 98)) || (a0.Pre == 114))) (fun x4=>some (!x4)):Option (Bool)) (fun x3=>Option.bind (if x3=true then some true else Option.bind (pep_number a0.PostNum a0.Post) (fun x7=>some (!x7)):Option (Bool)) (fun x6=>Option.bind (if x6=true then some true else Option.bind (pep_number a0.DevNum a0.Dev) (fun x10=>some (!x10)):Option (Bool)) (fun x9=>(if x9=true then some false else Option.bind (slices_ContainsFunc_string_string_s7b58 a0.Release) (fun x11=>Option.bind (if (!x11)=true then Option.bind (slices_ContainsFunc_string_string_s5fcb a0.Local) (fun x14=>some (!x14)) else some false:Option (Bool)) (fun x13=>some x13)))))))
theorem pep_Fit_ok (a0:S_api_Pep):Ct E 17 [.agg [bs a0.Epoch,.fsl 1 (List.map cS a0.Release),.s (.int .u8 a0.Pre),bs a0.PreNum,bv a0.Post,bs a0.PostNum,bv a0.Dev,bs a0.DevNum,.fsl 1 (List.map cS a0.Local)]] (pep_Fit a0) (fun r:Bool=>bv r):=ct_intro (N:=69) (L:=pep_Fit_c) pep_Fit_k rfl (Nat.le_of_ble_eq_true rfl) (by kernel_rfl) (by
 unfold pep_Fit
 refine jS ⟨[V 1 (pt 0 9)],[W 0 9 [bs a0.Epoch,.fsl 1 (List.map cS a0.Release),.s (.int .u8 a0.Pre),bs a0.PreNum,bv a0.Post,bs a0.PostNum,bv a0.Dev,bs a0.DevNum,.fsl 1 (List.map cS a0.Local)]],1⟩ ?_
 refine jS ⟨[V 1 (pt 0 9),V 3 (bv (((a0.Pre == 97) || (a0.Pre == 98)) || (a0.Pre == 114)))],[W 0 9 [bs a0.Epoch,.fsl 1 (List.map cS a0.Release),.s (.int .u8 a0.Pre),bs a0.PreNum,bv a0.Post,bs a0.PostNum,bv a0.Dev,bs a0.DevNum,.fsl 1 (List.map cS a0.Local)]],1⟩ ?_
 refine jc_seq ?_
 refine jR ?_
 refine jG 0 2 ⟨[V 1 (pt 0 9),V 3 (bv (((a0.Pre == 97) || (a0.Pre == 98)) || (a0.Pre == 114))),V 18 (bs a0.Epoch)],[W 0 9 [bs a0.Epoch,.fsl 1 (List.map cS a0.Release),.s (.int .u8 a0.Pre),bs a0.PreNum,bv a0.Post,bs a0.PostNum,bv a0.Dev,bs a0.DevNum,.fsl 1 (List.map cS a0.Local)]],1⟩ ?_
 refine jK 2 (pep_number_ok a0.Epoch true) ?_
 intro x1 h1
 refine jG 3 17 ⟨[V 1 (pt 0 9),V 3 (bv (((a0.Pre == 97) || (a0.Pre == 98)) || (a0.Pre == 114))),V 36 (bv (((!x1) || ((List.length (List.map cS a0.Release):Int) == 0)) || ((a0.Pre != 0) && (!(((a0.Pre == 97) || (a0.Pre == 98)) || (a0.Pre == 114))))))],[W 0 9 [bs a0.Epoch,.fsl 1 (List.map cS a0.Release),.s (.int .u8 a0.Pre),bs a0.PreNum,bv a0.Post,bs a0.PostNum,bv a0.Dev,bs a0.DevNum,.fsl 1 (List.map cS a0.Local)]],1⟩ ?_
 simp only[List.length_map]
 refine jr_bind 20 6 (fun x3=>⟨[V 1 (pt 0 9),V 42 (bv x3)],[W 0 9 [bs a0.Epoch,.fsl 1 (List.map cS a0.Release),.s (.int .u8 a0.Pre),bs a0.PreNum,bv a0.Post,bs a0.PostNum,bv a0.Dev,bs a0.DevNum,.fsl 1 (List.map cS a0.Local)]],1⟩) ?_ ?_
 ·refine jSp 36 ?_ ?_
  ·refine jG 0 6 ⟨[V 1 (pt 0 9),V 42 (bv true)],[W 0 9 [bs a0.Epoch,.fsl 1 (List.map cS a0.Release),.s (.int .u8 a0.Pre),bs a0.PreNum,bv a0.Post,bs a0.PostNum,bv a0.Dev,bs a0.DevNum,.fsl 1 (List.map cS a0.Local)]],1⟩ ?_
   refine jr_nil rfl ?_
   exact jx_mid rfl (wkR [(0,some 0)] (fix_nil _) (pc (hC 0) allp_nil))
  refine jG 0 3 ⟨[V 1 (pt 0 9),(36,.lit false),V 38 (bs a0.PreNum),V 39 (bv (((a0.Pre == 97) || (a0.Pre == 98)) || (a0.Pre == 114)))],[W 0 9 [bs a0.Epoch,.fsl 1 (List.map cS a0.Release),.s (.int .u8 a0.Pre),bs a0.PreNum,bv a0.Post,bs a0.PostNum,bv a0.Dev,bs a0.DevNum,.fsl 1 (List.map cS a0.Local)]],1⟩ ?_
  refine jK 3 (pep_number_ok a0.PreNum (((a0.Pre == 97) || (a0.Pre == 98)) || (a0.Pre == 114))) ?_
  intro x4 h4
  refine jG 4 2 ⟨[V 1 (pt 0 9),V 42 (bv (!x4))],[W 0 9 [bs a0.Epoch,.fsl 1 (List.map cS a0.Release),.s (.int .u8 a0.Pre),bs a0.PreNum,bv a0.Post,bs a0.PostNum,bv a0.Dev,bs a0.DevNum,.fsl 1 (List.map cS a0.Local)]],1⟩ ?_
  refine jr_nil rfl ?_
  exact jx_mid rfl (wkR [(0,some 0)] (fix_nil _) (pc (hC 0) allp_nil))
 intro x3
 refine jG 26 1 ⟨[V 1 (pt 0 9),V 43 (bv x3)],[W 0 9 [bs a0.Epoch,.fsl 1 (List.map cS a0.Release),.s (.int .u8 a0.Pre),bs a0.PreNum,bv a0.Post,bs a0.PostNum,bv a0.Dev,bs a0.DevNum,.fsl 1 (List.map cS a0.Local)]],1⟩ ?_
 refine jr_bind 27 7 (fun x6=>⟨[V 1 (pt 0 9),V 50 (bv x6)],[W 0 9 [bs a0.Epoch,.fsl 1 (List.map cS a0.Release),.s (.int .u8 a0.Pre),bs a0.PreNum,bv a0.Post,bs a0.PostNum,bv a0.Dev,bs a0.DevNum,.fsl 1 (List.map cS a0.Local)]],1⟩) ?_ ?_
 ·refine jSp 43 ?_ ?_
  ·refine jG 0 7 ⟨[V 1 (pt 0 9),V 50 (bv true)],[W 0 9 [bs a0.Epoch,.fsl 1 (List.map cS a0.Release),.s (.int .u8 a0.Pre),bs a0.PreNum,bv a0.Post,bs a0.PostNum,bv a0.Dev,bs a0.DevNum,.fsl 1 (List.map cS a0.Local)]],1⟩ ?_
   refine jr_nil rfl ?_
   exact jx_mid rfl (wkR [(0,some 0)] (fix_nil _) (pc (hC 0) allp_nil))
  refine jG 0 4 ⟨[V 1 (pt 0 9),(43,.lit false),V 45 (bs a0.PostNum),V 47 (bv a0.Post)],[W 0 9 [bs a0.Epoch,.fsl 1 (List.map cS a0.Release),.s (.int .u8 a0.Pre),bs a0.PreNum,bv a0.Post,bs a0.PostNum,bv a0.Dev,bs a0.DevNum,.fsl 1 (List.map cS a0.Local)]],1⟩ ?_
  refine jK 4 (pep_number_ok a0.PostNum a0.Post) ?_
  intro x7 h7
  refine jG 5 2 ⟨[V 1 (pt 0 9),V 50 (bv (!x7))],[W 0 9 [bs a0.Epoch,.fsl 1 (List.map cS a0.Release),.s (.int .u8 a0.Pre),bs a0.PreNum,bv a0.Post,bs a0.PostNum,bv a0.Dev,bs a0.DevNum,.fsl 1 (List.map cS a0.Local)]],1⟩ ?_
  refine jr_nil rfl ?_
  exact jx_mid rfl (wkR [(0,some 0)] (fix_nil _) (pc (hC 0) allp_nil))
 intro x6
 refine jG 34 1 ⟨[V 1 (pt 0 9),V 51 (bv x6)],[W 0 9 [bs a0.Epoch,.fsl 1 (List.map cS a0.Release),.s (.int .u8 a0.Pre),bs a0.PreNum,bv a0.Post,bs a0.PostNum,bv a0.Dev,bs a0.DevNum,.fsl 1 (List.map cS a0.Local)]],1⟩ ?_
 refine jr_bind 35 7 (fun x9=>⟨[V 1 (pt 0 9),V 58 (bv x9)],[W 0 9 [bs a0.Epoch,.fsl 1 (List.map cS a0.Release),.s (.int .u8 a0.Pre),bs a0.PreNum,bv a0.Post,bs a0.PostNum,bv a0.Dev,bs a0.DevNum,.fsl 1 (List.map cS a0.Local)]],1⟩) ?_ ?_
 ·refine jSp 51 ?_ ?_
  ·refine jG 0 7 ⟨[V 1 (pt 0 9),V 58 (bv true)],[W 0 9 [bs a0.Epoch,.fsl 1 (List.map cS a0.Release),.s (.int .u8 a0.Pre),bs a0.PreNum,bv a0.Post,bs a0.PostNum,bv a0.Dev,bs a0.DevNum,.fsl 1 (List.map cS a0.Local)]],1⟩ ?_
   refine jr_nil rfl ?_
   exact jx_mid rfl (wkR [(0,some 0)] (fix_nil _) (pc (hC 0) allp_nil))
  refine jG 0 4 ⟨[V 1 (pt 0 9),(51,.lit false),V 53 (bs a0.DevNum),V 55 (bv a0.Dev)],[W 0 9 [bs a0.Epoch,.fsl 1 (List.map cS a0.Release),.s (.int .u8 a0.Pre),bs a0.PreNum,bv a0.Post,bs a0.PostNum,bv a0.Dev,bs a0.DevNum,.fsl 1 (List.map cS a0.Local)]],1⟩ ?_
  refine jK 4 (pep_number_ok a0.DevNum a0.Dev) ?_
  intro x10 h10
  refine jG 5 2 ⟨[V 1 (pt 0 9),V 58 (bv (!x10))],[W 0 9 [bs a0.Epoch,.fsl 1 (List.map cS a0.Release),.s (.int .u8 a0.Pre),bs a0.PreNum,bv a0.Post,bs a0.PostNum,bv a0.Dev,bs a0.DevNum,.fsl 1 (List.map cS a0.Local)]],1⟩ ?_
  refine jr_nil rfl ?_
  exact jx_mid rfl (wkR [(0,some 0)] (fix_nil _) (pc (hC 0) allp_nil))
 intro x9
 refine jN ?_
 refine jIf ?_ ?_
 ·refine jS ⟨[V 2 (bv false)],[],1⟩ ?_
  refine jc_ret ?_
  refine jx_seqR ?_
  exact jx_retF (.inr rfl) (v:=bv false) (by kernel_rfl) rfl (fle_refl _)
 refine jc_skip ?_
 refine jx_seqN ?_
 refine jR ?_
 refine jG 0 2 ⟨[V 1 (pt 0 9),V 60 (.fsl 1 (List.map cS a0.Release))],[W 0 9 [bs a0.Epoch,.fsl 1 (List.map cS a0.Release),.s (.int .u8 a0.Pre),bs a0.PreNum,bv a0.Post,bs a0.PostNum,bv a0.Dev,bs a0.DevNum,.fsl 1 (List.map cS a0.Local)]],1⟩ ?_
 refine jK 2 (slices_ContainsFunc_string_string_s7b58_ok a0.Release) ?_
 intro x11 h11
 refine jG 3 2 ⟨[V 1 (pt 0 9),V 63 (bv (!x11))],[W 0 9 [bs a0.Epoch,.fsl 1 (List.map cS a0.Release),.s (.int .u8 a0.Pre),bs a0.PreNum,bv a0.Post,bs a0.PostNum,bv a0.Dev,bs a0.DevNum,.fsl 1 (List.map cS a0.Local)]],1⟩ ?_
 refine jr_bind 5 5 (fun x13=>⟨[V 68 (bv x13)],[],0⟩) ?_ ?_
 ·refine jSp 63 ?_ ?_
  ·refine jG 0 2 ⟨[(63,.lit true),V 65 (.fsl 1 (List.map cS a0.Local))],[],1⟩ ?_
   refine jK 2 (slices_ContainsFunc_string_string_s5fcb_ok a0.Local) ?_
   intro x14 h14
   refine jG 3 2 ⟨[V 68 (bv (!x14))],[],1⟩ ?_
   refine jr_nil rfl ?_
   exact jx_mid rfl (wkR [] (fix_nil _) allp_nil)
  refine jG 0 5 ⟨[V 68 (bv false)],[],1⟩ ?_
  refine jr_nil rfl ?_
  exact jx_mid rfl (wkR [] (fix_nil _) allp_nil)
 intro x13
 refine jG 10 1 ⟨[V 2 (bv x13)],[],0⟩ ?_
 refine jN ?_
 refine jc_ret ?_
 exact jx_retF (.inr rfl) (v:=bv x13) (by kernel_rfl) rfl (fle_refl _))
abbrev pep_truth_r1:List LO:=[lo 2 (.assign (.const (.int .i64 0))) 3]
abbrev pep_truth_r2:List LO:=[lm 3 0 4]
abbrev pep_truth_r3:List LO:=[lo 2 (.assign (.const (.int .i64 1))) 3]
abbrev pep_truth_r4:List LO:=[lo 2 (.assign (.const (.int .i64 0))) 3]
abbrev pep_truth_c:LC:=.seq (.reg false pep_truth_r1) (.seq (.seq (.reg false pep_truth_r2) (.cond (.tmp 3) (.seq (.reg false pep_truth_r3) .ret) .skip)) (.seq (.reg false pep_truth_r4) .ret))
theorem pep_truth_k:FnOk E 53 4 [.tmp 2] pep_truth_c:=⟨⟨Go.Proofs.Tryz.f53,by kernel_rfl,by kernel_rfl,by kernel_rfl,by kernel_rfl,by kernel_rfl⟩,rfl,rfl⟩
noncomputable def pep_truth (a0:Bool):Option (Int):=(if a0=true then some 1 else some 0)
theorem pep_truth_ok (a0:Bool):Ct E 53 [bv a0] (pep_truth a0) (fun r:Int=>iv r):=ct_intro (N:=4) (L:=pep_truth_c) pep_truth_k rfl (Nat.le_of_ble_eq_true rfl) (by kernel_rfl) (by
 unfold pep_truth
 refine jS ⟨[V 0 (bv a0)],[],0⟩ ?_
 refine jc_seq ?_
 refine jS ⟨[V 3 (bv a0)],[],0⟩ ?_
 refine jIf ?_ ?_
 ·refine jS ⟨[V 2 (iv 1)],[],0⟩ ?_
  refine jc_ret ?_
  refine jx_seqR ?_
  exact jx_retF (.inr rfl) (v:=iv 1) (by kernel_rfl) rfl (fle_refl _)
 refine jc_skip ?_
 refine jx_seqN ?_
 refine jS ⟨[V 2 (iv 0)],[],0⟩ ?_
 refine jc_ret ?_
 exact jx_retF (.inr rfl) (v:=iv 0) (by kernel_rfl) rfl (fle_refl _))
abbrev pep_Order_1_r1:List LO:=[lo 2 (.assign (.const (.string ⟨#[]⟩))) 9]
abbrev pep_Order_1_r2:List LO:=[lo 2 (.assign (.const (.string ⟨#[48]⟩))) 9]
abbrev pep_Order_1_c:LC:=.seq (.reg false pep_Order_1_r1) (.seq (.reg false pep_Order_1_r2) .ret)
theorem pep_Order_1_k:FnOk E 65 3 [.tmp 2] pep_Order_1_c:=⟨⟨Go.Proofs.Tryz.f65,by kernel_rfl,by kernel_rfl,by kernel_rfl,by kernel_rfl,by kernel_rfl⟩,rfl,rfl⟩
noncomputable def pep_Order_1 (a0:Int):Option (Str):=some [48]
theorem pep_Order_1_ok (a0:Int):Ct E 65 [iv a0] (pep_Order_1 a0) (fun r:Str=>bs r):=ct_intro (N:=3) (L:=pep_Order_1_c) pep_Order_1_k rfl (Nat.le_of_ble_eq_true rfl) (by kernel_rfl) (by
 unfold pep_Order_1
 refine jS ⟨[],[],0⟩ ?_
 refine jS ⟨[V 2 (bs [48])],[],0⟩ ?_
 refine jc_ret ?_
 exact jx_retF (.inr rfl) (v:=bs [48]) (by kernel_rfl) rfl (fle_refl _))
abbrev pep_row_string_sa997_r1:List LO:=[lo 8 (.assign (.const (.int .i64 0))) 3]
abbrev pep_row_string_sa997_r2:List LO:=[lm 13 0 22,lo 14 (.call ⟨.builtin .len,#[.tmp 13],#[22]⟩) 3,lm 15 1 22,lo 16 (.call ⟨.builtin .len,#[.tmp 15],#[22]⟩) 3,lo 17 (.call ⟨.builtin .max,#[.tmp 14,.tmp 16],#[3,3]⟩) 3,lo 18 (.move (.const (.int .i64 0))) 3]
abbrev pep_row_string_sa997_r3:List LO:=[lo 19 (.binOp .lss 3 (.tmp 18) (.tmp 17) 3) 4]
abbrev pep_row_string_sa997_r4:List LO:=[lm 20 18 3,lo 9 (.assign (.tmp 20)) 3]
abbrev pep_row_string_sa997_r5:List LO:=[lm 21 2 71,lm 22 9 3,lo 23 (.call ⟨.value (.tmp 21),#[.tmp 22],#[3]⟩) 9,lm 24 2 71,lm 25 9 3,lo 26 (.call ⟨.value (.tmp 24),#[.tmp 25],#[3]⟩) 9,lo 10 (.assign (.tmp 23)) 9,lo 11 (.assign (.tmp 26)) 9]
abbrev pep_row_string_sa997_r6:List LO:=[lm 27 9 3,lm 28 0 22,lo 29 (.call ⟨.builtin .len,#[.tmp 28],#[22]⟩) 3,lo 30 (.binOp .lss 3 (.tmp 27) (.tmp 29) 3) 4]
abbrev pep_row_string_sa997_r7:List LO:=[lm 31 0 22,lm 32 9 3,lo 33 (.indexAddr 22 (.tmp 31) (.tmp 32)) 0,lo 34 (.load 9 (.tmp 33)) 9,lo 10 (.assign (.tmp 34)) 9]
abbrev pep_row_string_sa997_r8:List LO:=[lm 35 9 3,lm 36 1 22,lo 37 (.call ⟨.builtin .len,#[.tmp 36],#[22]⟩) 3,lo 38 (.binOp .lss 3 (.tmp 35) (.tmp 37) 3) 4]
abbrev pep_row_string_sa997_r9:List LO:=[lm 39 1 22,lm 40 9 3,lo 41 (.indexAddr 22 (.tmp 39) (.tmp 40)) 0,lo 42 (.load 9 (.tmp 41)) 9,lo 11 (.assign (.tmp 42)) 9]
abbrev pep_row_string_sa997_r10:List LO:=[lm 43 3 32,lm 44 10 9,lm 45 11 9,lo 46 (.call ⟨.value (.tmp 43),#[.tmp 44,.tmp 45],#[9,9]⟩) 3,lo 12 (.assign (.tmp 46)) 3]
abbrev pep_row_string_sa997_r11:List LO:=[lm 47 12 3,lo 48 (.binOp .neq 3 (.tmp 47) (.const (.int .i64 0)) 3) 4]
abbrev pep_row_string_sa997_r12:List LO:=[lm 49 12 3,lo 8 (.assign (.tmp 49)) 3]
abbrev pep_row_string_sa997_r13:List LO:=[lo 50 (.binOp .add 3 (.tmp 18) (.const (.int .i64 1)) 3) 3,lm 18 50 3]
abbrev pep_row_string_sa997_r14:List LO:=[lo 8 (.assign (.const (.int .i64 0))) 3]
abbrev pep_row_string_sa997_c:LC:=.seq (.reg false pep_row_string_sa997_r1) (.seq (.seq (.reg false pep_row_string_sa997_r2) (.block 0 (.loop (.seq (.reg false pep_row_string_sa997_r3) (.seq (.cond (.tmp 19) .skip (.exit 0)) (.seq (.block 1 (.seq (.reg false pep_row_string_sa997_r4) (.seq (.reg false pep_row_string_sa997_r5) (.seq (.seq (.reg false pep_row_string_sa997_r6) (.cond (.tmp 30) (.reg false pep_row_string_sa997_r7) .skip)) (.seq (.seq (.reg false pep_row_string_sa997_r8) (.cond (.tmp 38) (.reg false pep_row_string_sa997_r9) .skip)) (.seq (.reg false pep_row_string_sa997_r10) (.seq (.reg false pep_row_string_sa997_r11) (.cond (.tmp 48) (.seq (.reg false pep_row_string_sa997_r12) .ret) .skip)))))))) (.reg false pep_row_string_sa997_r13))))))) (.seq (.reg false pep_row_string_sa997_r14) .ret))
theorem pep_row_string_sa997_k:FnOk E 69 51 [.tmp 8] pep_row_string_sa997_c:=⟨⟨Go.Proofs.Tryz.f69,by kernel_rfl,by kernel_rfl,by kernel_rfl,by kernel_rfl,by kernel_rfl⟩,rfl,rfl⟩
noncomputable def pep_row_string_sa997_l1 (a0:(List Str)) (a1:(List Str)):Int→Option (Step (Int) ((Int) ⊕ (Unit))):=fun x8=>(if (decide (x8 < (if (List.length a1:Int) > (List.length a0:Int) then (List.length a1:Int) else (List.length a0:Int))))=true then Option.bind (pep_Order_1 x8) (fun x18=>Option.bind (pep_Order_1 x8) (fun x19=>Option.bind ((if (decide (x8 < (List.length a0:Int)))=true then Option.bind (ixl a0 x8) (fun x22=>some x22) else some x18):Option (Str)) (fun x21=>Option.bind ((if (decide (x8 < (List.length a1:Int)))=true then Option.bind (ixl a1 x8) (fun x25=>some x25) else some x19):Option (Str)) (fun x24=>Option.bind (scan_Cmp x21 x24) (fun x26=>(if (x26 != 0)=true then some (Step.done (Sum.inl x26)) else some (Step.next (w64 (x8 + 1))))))))) else some (Step.done (Sum.inr ())))
noncomputable def pep_row_string_sa997 (a0:(List Str)) (a1:(List Str)):Option (Int):=Option.bind (loopC (pep_row_string_sa997_l1 a0 a1) 0) (fun y=>match y with | Sum.inl x17=>some x17 | Sum.inr _=>some 0)
theorem pep_row_string_sa997_ok (a0:(List Str)) (a1:(List Str)):Ct E 69 [.fsl 1 (List.map cS a0),.fsl 1 (List.map cS a1),.fn 65 [],.fn 68 []] (pep_row_string_sa997 a0 a1) (fun r:Int=>iv r):=ct_intro (N:=51) (L:=pep_row_string_sa997_c) pep_row_string_sa997_k rfl (Nat.le_of_ble_eq_true rfl) (by kernel_rfl) (by
 unfold pep_row_string_sa997
 refine jS ⟨[V 0 (.fsl 1 (List.map cS a0)),V 1 (.fsl 1 (List.map cS a1)),V 2 (.fn 65 []),V 3 (.fn 68 [])],[],0⟩ ?_
 refine jc_seq ?_
 refine jR ?_
 refine jG 0 6 ⟨[V 0 (.fsl 1 (List.map cS a0)),V 1 (.fsl 1 (List.map cS a1)),V 2 (.fn 65 []),V 3 (.fn 68 []),V 17 (iv (if (List.length (List.map cS a1):Int) > (List.length (List.map cS a0):Int) then (List.length (List.map cS a1):Int) else (List.length (List.map cS a0):Int))),V 18 (iv 0)],[],0⟩ ?_
 simp only[List.length_map]
 refine jN ?_
 refine jc_block ?_
 refine jc_bind (fun y=>match y with | Sum.inl x17=>⟨[V 8 (iv x17)],[],0⟩ | Sum.inr _=>⟨[],[],0⟩) (fun y=>match y with | Sum.inl x17=>.ret | Sum.inr _=>(.exit 0)) (jc_loop (fun x8=>⟨[V 0 (.fsl 1 (List.map cS a0)),V 1 (.fsl 1 (List.map cS a1)),V 2 (.fn 65 []),V 3 (.fn 68 []),V 17 (iv (if (List.length a1:Int) > (List.length a0:Int) then (List.length a1:Int) else (List.length a0:Int))),V 18 (iv x8)],[],0⟩) (wkR [] (fix_nil _) allp_nil) ?_) ?_
 ·intro x8
  unfold pep_row_string_sa997_l1
  refine jS ⟨[V 0 (.fsl 1 (List.map cS a0)),V 1 (.fsl 1 (List.map cS a1)),V 2 (.fn 65 []),V 3 (.fn 68 []),V 17 (iv (if (List.length a1:Int) > (List.length a0:Int) then (List.length a1:Int) else (List.length a0:Int))),V 18 (iv x8),V 19 (bv (decide (x8 < (if (List.length a1:Int) > (List.length a0:Int) then (List.length a1:Int) else (List.length a0:Int)))))],[],0⟩ ?_
  refine jc_seq ?_
  refine jIf ?_ ?_
  ·refine jc_skip ?_
   refine jx_seqN ?_
   refine jc_seq ?_
   refine jc_block ?_
   refine jS ⟨[V 0 (.fsl 1 (List.map cS a0)),V 1 (.fsl 1 (List.map cS a1)),V 2 (.fn 65 []),V 3 (.fn 68 []),V 9 (iv x8),V 17 (iv (if (List.length a1:Int) > (List.length a0:Int) then (List.length a1:Int) else (List.length a0:Int))),V 18 (iv x8)],[],0⟩ ?_
   refine jR ?_
   refine jG 0 2 ⟨[V 0 (.fsl 1 (List.map cS a0)),V 1 (.fsl 1 (List.map cS a1)),V 2 (.fn 65 []),V 3 (.fn 68 []),V 9 (iv x8),V 17 (iv (if (List.length a1:Int) > (List.length a0:Int) then (List.length a1:Int) else (List.length a0:Int))),V 18 (iv x8),V 21 (.fn 65 []),V 22 (iv x8)],[],0⟩ ?_
   refine jr_callV (i:=2) rfl rfl rfl rfl (g:=65) (caps:=[]) (avs:=[iv x8]) (vs:=[iv x8]) (by kernel_rfl) (by kernel_rfl) rfl (snapL_cons rfl (snapL_nil _)) (all2_cons (fle_refl _) all2_nil) (pep_Order_1_ok x8) (fun _=>rfl) (fun _=>rfl) ?_
   intro x18 h18
   refine jG 3 2 ⟨[V 0 (.fsl 1 (List.map cS a0)),V 1 (.fsl 1 (List.map cS a1)),V 2 (.fn 65 []),V 3 (.fn 68 []),V 9 (iv x8),V 17 (iv (if (List.length a1:Int) > (List.length a0:Int) then (List.length a1:Int) else (List.length a0:Int))),V 18 (iv x8),V 23 (bs x18),V 24 (.fn 65 []),V 25 (iv x8)],[],0⟩ ?_
   refine jr_callV (i:=5) rfl rfl rfl rfl (g:=65) (caps:=[]) (avs:=[iv x8]) (vs:=[iv x8]) (by kernel_rfl) (by kernel_rfl) rfl (snapL_cons rfl (snapL_nil _)) (all2_cons (fle_refl _) all2_nil) (pep_Order_1_ok x8) (fun _=>rfl) (fun _=>rfl) ?_
   intro x19 h19
   refine jG 6 2 ⟨[V 0 (.fsl 1 (List.map cS a0)),V 1 (.fsl 1 (List.map cS a1)),V 2 (.fn 65 []),V 3 (.fn 68 []),V 9 (iv x8),V 10 (bs x18),V 11 (bs x19),V 17 (iv (if (List.length a1:Int) > (List.length a0:Int) then (List.length a1:Int) else (List.length a0:Int))),V 18 (iv x8)],[],0⟩ ?_
   refine jN ?_
   refine jc_seq ?_
   refine jc_bind (fun x21=>⟨[V 0 (.fsl 1 (List.map cS a0)),V 1 (.fsl 1 (List.map cS a1)),V 2 (.fn 65 []),V 3 (.fn 68 []),V 9 (iv x8),V 10 (bs x21),V 11 (bs x19),V 17 (iv (if (List.length a1:Int) > (List.length a0:Int) then (List.length a1:Int) else (List.length a0:Int))),V 18 (iv x8)],[],0⟩) (fun x21=>.normal) ?_ ?_
   ·refine jR ?_
    refine jG 0 4 ⟨[V 0 (.fsl 1 (List.map cS a0)),V 1 (.fsl 1 (List.map cS a1)),V 2 (.fn 65 []),V 3 (.fn 68 []),V 9 (iv x8),V 10 (bs x18),V 11 (bs x19),V 17 (iv (if (List.length a1:Int) > (List.length a0:Int) then (List.length a1:Int) else (List.length a0:Int))),V 18 (iv x8),V 30 (bv (decide (x8 < (List.length (List.map cS a0):Int))))],[],0⟩ ?_
    simp only[List.length_map]
    refine jN ?_
    refine jIf ?_ ?_
    ·refine jc_reg ?_
     refine jG 0 2 ⟨[V 0 (.fsl 1 (List.map cS a0)),V 1 (.fsl 1 (List.map cS a1)),V 2 (.fn 65 []),V 3 (.fn 68 []),V 9 (iv x8),V 11 (bs x19),V 17 (iv (if (List.length a1:Int) > (List.length a0:Int) then (List.length a1:Int) else (List.length a0:Int))),V 18 (iv x8),V 31 (.fsl 1 (List.map cS a0)),V 32 (iv x8)],[],0⟩ ?_
     refine jr_part (i:=2) (mo:=ixl a0 x8) rfl rfl rfl rfl (fun _ hc=>aop_ixf (c:=cS) (sz:=1) (e:=9) (kk:=.i64) (by kernel_rfl) (by kernel_rfl) (by kernel_rfl) (by kernel_rfl) hc) (fun _=>rfl) ?_
     intro x22 h22
     refine jG 3 2 ⟨[V 0 (.fsl 1 (List.map cS a0)),V 1 (.fsl 1 (List.map cS a1)),V 2 (.fn 65 []),V 3 (.fn 68 []),V 9 (iv x8),V 10 (bs x22),V 11 (bs x19),V 17 (iv (if (List.length a1:Int) > (List.length a0:Int) then (List.length a1:Int) else (List.length a0:Int))),V 18 (iv x8)],[],0⟩ ?_
     refine jr_nil rfl ?_
     exact jx_mid rfl (wkR [] (fix_nil _) allp_nil)
    refine jc_skip ?_
    exact jx_mid rfl (wkR [] (fix_nil _) allp_nil)
   intro x21
   refine jx_seqN ?_
   refine jc_seq ?_
   refine jc_bind (fun x24=>⟨[V 0 (.fsl 1 (List.map cS a0)),V 1 (.fsl 1 (List.map cS a1)),V 2 (.fn 65 []),V 3 (.fn 68 []),V 10 (bs x21),V 11 (bs x24),V 17 (iv (if (List.length a1:Int) > (List.length a0:Int) then (List.length a1:Int) else (List.length a0:Int))),V 18 (iv x8)],[],0⟩) (fun x24=>.normal) ?_ ?_
   ·refine jR ?_
    refine jG 0 4 ⟨[V 0 (.fsl 1 (List.map cS a0)),V 1 (.fsl 1 (List.map cS a1)),V 2 (.fn 65 []),V 3 (.fn 68 []),V 9 (iv x8),V 10 (bs x21),V 11 (bs x19),V 17 (iv (if (List.length a1:Int) > (List.length a0:Int) then (List.length a1:Int) else (List.length a0:Int))),V 18 (iv x8),V 38 (bv (decide (x8 < (List.length (List.map cS a1):Int))))],[],0⟩ ?_
    simp only[List.length_map]
    refine jN ?_
    refine jIf ?_ ?_
    ·refine jc_reg ?_
     refine jG 0 2 ⟨[V 0 (.fsl 1 (List.map cS a0)),V 1 (.fsl 1 (List.map cS a1)),V 2 (.fn 65 []),V 3 (.fn 68 []),V 10 (bs x21),V 17 (iv (if (List.length a1:Int) > (List.length a0:Int) then (List.length a1:Int) else (List.length a0:Int))),V 18 (iv x8),V 39 (.fsl 1 (List.map cS a1)),V 40 (iv x8)],[],0⟩ ?_
     refine jr_part (i:=2) (mo:=ixl a1 x8) rfl rfl rfl rfl (fun _ hc=>aop_ixf (c:=cS) (sz:=1) (e:=9) (kk:=.i64) (by kernel_rfl) (by kernel_rfl) (by kernel_rfl) (by kernel_rfl) hc) (fun _=>rfl) ?_
     intro x25 h25
     refine jG 3 2 ⟨[V 0 (.fsl 1 (List.map cS a0)),V 1 (.fsl 1 (List.map cS a1)),V 2 (.fn 65 []),V 3 (.fn 68 []),V 10 (bs x21),V 11 (bs x25),V 17 (iv (if (List.length a1:Int) > (List.length a0:Int) then (List.length a1:Int) else (List.length a0:Int))),V 18 (iv x8)],[],0⟩ ?_
     refine jr_nil rfl ?_
     exact jx_mid rfl (wkR [] (fix_nil _) allp_nil)
    refine jc_skip ?_
    exact jx_mid rfl (wkR [] (fix_nil _) allp_nil)
   intro x24
   refine jx_seqN ?_
   refine jR ?_
   refine jG 0 3 ⟨[V 0 (.fsl 1 (List.map cS a0)),V 1 (.fsl 1 (List.map cS a1)),V 2 (.fn 65 []),V 3 (.fn 68 []),V 17 (iv (if (List.length a1:Int) > (List.length a0:Int) then (List.length a1:Int) else (List.length a0:Int))),V 18 (iv x8),V 43 (.fn 68 []),V 44 (bs x21),V 45 (bs x24)],[],0⟩ ?_
   refine jr_callV (i:=3) rfl rfl rfl rfl (g:=68) (caps:=[]) (avs:=[bs x21,bs x24]) (vs:=[bs x21,bs x24]) (by kernel_rfl) (by kernel_rfl) rfl (snapL_cons rfl (snapL_cons rfl (snapL_nil _))) (all2_cons (fle_refl _) (all2_cons (fle_refl _) all2_nil)) (scan_Cmp_ok x21 x24) (fun _=>rfl) (fun _=>rfl) ?_
   intro x26 h26
   refine jG 4 1 ⟨[V 0 (.fsl 1 (List.map cS a0)),V 1 (.fsl 1 (List.map cS a1)),V 2 (.fn 65 []),V 3 (.fn 68 []),V 12 (iv x26),V 17 (iv (if (List.length a1:Int) > (List.length a0:Int) then (List.length a1:Int) else (List.length a0:Int))),V 18 (iv x8)],[],0⟩ ?_
   refine jN ?_
   refine jS ⟨[V 0 (.fsl 1 (List.map cS a0)),V 1 (.fsl 1 (List.map cS a1)),V 2 (.fn 65 []),V 3 (.fn 68 []),V 12 (iv x26),V 17 (iv (if (List.length a1:Int) > (List.length a0:Int) then (List.length a1:Int) else (List.length a0:Int))),V 18 (iv x8),V 48 (bv (x26 != 0))],[],0⟩ ?_
   refine jIf ?_ ?_
   ·refine jS ⟨[V 8 (iv x26)],[],0⟩ ?_
    refine jc_ret ?_
    refine jx_blkR ?_
    refine jx_seqR ?_
    exact jx_done rfl nofun (wkR [] (fix_nil _) allp_nil)
   refine jc_skip ?_
   refine jx_blkN ?_
   refine jx_seqN ?_
   refine jT ⟨[V 0 (.fsl 1 (List.map cS a0)),V 1 (.fsl 1 (List.map cS a1)),V 2 (.fn 65 []),V 3 (.fn 68 []),V 17 (iv (if (List.length a1:Int) > (List.length a0:Int) then (List.length a1:Int) else (List.length a0:Int))),V 18 (iv (w64 (x8 + 1)))],[],0⟩ ?_
   exact jx_next (wkR [] (fix_nil _) allp_nil)
  refine jc_exit ?_
  refine jx_seqE ?_
  exact jx_done rfl nofun (wkR [] (fix_nil _) allp_nil)
 rintro (x17 | _)
 ·refine jx_blkR ?_
  refine jx_seqR ?_
  exact jx_retF (.inr rfl) (v:=iv x17) (by kernel_rfl) rfl (fle_refl _)
 refine jx_blkE ?_
 refine jx_seqN ?_
 refine jS ⟨[V 8 (iv 0)],[],0⟩ ?_
 refine jc_ret ?_
 exact jx_retF (.inr rfl) (v:=iv 0) (by kernel_rfl) rfl (fle_refl _))
abbrev pep_Order_2_r1:List LO:=[lo 2 (.assign (.const (.string ⟨#[]⟩))) 9]
abbrev pep_Order_2_r2:List LO:=[lo 2 (.assign (.const (.string ⟨#[]⟩))) 9]
abbrev pep_Order_2_c:LC:=.seq (.reg false pep_Order_2_r1) (.seq (.reg false pep_Order_2_r2) .ret)
theorem pep_Order_2_k:FnOk E 66 3 [.tmp 2] pep_Order_2_c:=⟨⟨Go.Proofs.Tryz.f66,by kernel_rfl,by kernel_rfl,by kernel_rfl,by kernel_rfl,by kernel_rfl⟩,rfl,rfl⟩
noncomputable def pep_Order_2 (a0:Int):Option (Str):=some []
theorem pep_Order_2_ok (a0:Int):Ct E 66 [iv a0] (pep_Order_2 a0) (fun r:Str=>bs r):=ct_intro (N:=3) (L:=pep_Order_2_c) pep_Order_2_k rfl (Nat.le_of_ble_eq_true rfl) (by kernel_rfl) (by
 unfold pep_Order_2
 refine jS ⟨[],[],0⟩ ?_
 refine jS ⟨[V 2 (bs [])],[],0⟩ ?_
 refine jc_ret ?_
 exact jx_retF (.inr rfl) (v:=bs []) (by kernel_rfl) rfl (fle_refl _))
abbrev pep_localPart_1_r1:List LO:=[lo 2 (.assign (.const (.bool false))) 4]
abbrev pep_localPart_1_r2:List LO:=[lm 3 0 9,lo 4 (.binOp .neq 9 (.tmp 3) (.const (.string ⟨#[]⟩)) 9) 4,lm 5 4 4,lmg 6 0 9 5 true,lg 7 (.call ⟨.value (.func 87),#[.tmp 6,.const (.int .i64 0),.const (.int .i64 1)],#[9,3,3]⟩) 3 5 true,lmg 8 0 9 5 true,lg 9 (.call ⟨.builtin .len,#[.tmp 8],#[9]⟩) 3 5 true,lg 10 (.binOp .eql 3 (.tmp 7) (.tmp 9) 3) 4 5 true,lo 11 (.pick (.tmp 5) (.tmp 10) (.const (.bool false))) 4,lo 2 (.assign (.tmp 11)) 4]
abbrev pep_localPart_1_c:LC:=.seq (.reg false pep_localPart_1_r1) (.seq (.reg false pep_localPart_1_r2) .ret)
theorem pep_localPart_1_k:FnOk E 105 12 [.tmp 2] pep_localPart_1_c:=⟨⟨Go.Proofs.Tryz.f105,by kernel_rfl,by kernel_rfl,by kernel_rfl,by kernel_rfl,by kernel_rfl⟩,rfl,rfl⟩
noncomputable def pep_localPart_1 (a0:Str):Option (Bool):=Option.bind (if (!(a0 == []))=true then Option.bind (scan_Run a0 0 1) (fun x3=>some (x3 == (List.length a0:Int))) else some false:Option (Bool)) (fun x2=>some x2)
theorem pep_localPart_1_ok (a0:Str):Ct E 105 [bs a0] (pep_localPart_1 a0) (fun r:Bool=>bv r):=ct_intro (N:=12) (L:=pep_localPart_1_c) pep_localPart_1_k rfl (Nat.le_of_ble_eq_true rfl) (by kernel_rfl) (by
 unfold pep_localPart_1
 refine jS ⟨[V 0 (bs a0)],[],0⟩ ?_
 refine jR ?_
 refine jG 0 3 ⟨[V 0 (bs a0),V 5 (bv (!(a0 == [])))],[],0⟩ ?_
 refine jr_bind 3 6 (fun x2=>⟨[V 11 (bv x2)],[],0⟩) ?_ ?_
 ·refine jSp 5 ?_ ?_
  ·refine jG 0 1 ⟨[V 0 (bs a0),(5,.lit true),V 6 (bs a0)],[],0⟩ ?_
   refine jK 1 (scan_Run_ok a0 0 1) ?_
   intro x3 h3
   refine jG 2 4 ⟨[V 11 (bv (x3 == (List.length a0:Int)))],[],0⟩ ?_
   refine jr_nil rfl ?_
   exact jx_mid rfl (wkR [] (fix_nil _) allp_nil)
  refine jG 0 6 ⟨[V 11 (bv false)],[],0⟩ ?_
  refine jr_nil rfl ?_
  exact jx_mid rfl (wkR [] (fix_nil _) allp_nil)
 intro x2
 refine jG 9 1 ⟨[V 2 (bv x2)],[],0⟩ ?_
 refine jN ?_
 refine jc_ret ?_
 exact jx_retF (.inr rfl) (v:=bv x2) (by kernel_rfl) rfl (fle_refl _))
abbrev pep_localPart_2_s0b94_r1:List LO:=[lo 3 (.assign (.const (.int .i64 0))) 3]
abbrev pep_localPart_2_s0b94_r2:List LO:=[lm 5 0 9,lo 6 (.binOp .eql 9 (.tmp 5) (.const (.string ⟨#[]⟩)) 9) 4,lo 4 (.assign (.tmp 6)) 4]
abbrev pep_localPart_2_s0b94_r3:List LO:=[lo 3 (.assign (.const (.int .i64 0))) 3]
abbrev pep_localPart_2_s0b94_r4:List LO:=[lo 8 (.load 44 (.tmp 1)) 44,lm 9 0 9,lo 10 (.call ⟨.value (.tmp 8),#[.tmp 9],#[9]⟩) 4,lo 7 (.assign (.tmp 10)) 4]
abbrev pep_localPart_2_s0b94_r5:List LO:=[lo 3 (.assign (.const (.int .i64 2))) 3]
abbrev pep_localPart_2_s0b94_r6:List LO:=[lo 3 (.assign (.const (.int .i64 1))) 3]
abbrev pep_localPart_2_s0b94_c:LC:=.seq (.reg false pep_localPart_2_s0b94_r1) (.seq (.block 0 (.seq (.reg false pep_localPart_2_s0b94_r2) (.cond (.tmp 4) (.seq (.reg false pep_localPart_2_s0b94_r3) .ret) (.seq (.reg false pep_localPart_2_s0b94_r4) (.cond (.tmp 7) (.seq (.reg false pep_localPart_2_s0b94_r5) .ret) .skip))))) (.seq (.reg false pep_localPart_2_s0b94_r6) .ret))
theorem pep_localPart_2_s0b94_k:FnOk E 106 11 [.tmp 3] pep_localPart_2_s0b94_c:=⟨⟨Go.Proofs.Tryz.f106,by kernel_rfl,by kernel_rfl,by kernel_rfl,by kernel_rfl,by kernel_rfl⟩,rfl,rfl⟩
noncomputable def pep_localPart_2_s0b94 (a0:Str):Option (Int):=(if (a0 == [])=true then some 0 else Option.bind (pep_localPart_1 a0) (fun x1=>(if x1=true then some 2 else some 1)))
theorem pep_localPart_2_s0b94_ok (a0:Str):Ct E 106 [bs a0,.fptr [.fn 105 []] 0] (pep_localPart_2_s0b94 a0) (fun r:Int=>iv r):=ct_intro (N:=11) (L:=pep_localPart_2_s0b94_c) pep_localPart_2_s0b94_k rfl (Nat.le_of_ble_eq_true rfl) (by kernel_rfl) (by
 unfold pep_localPart_2_s0b94
 refine jS ⟨[V 0 (bs a0),V 1 (.fptr [.fn 105 []] 0)],[],0⟩ ?_
 refine jc_seq ?_
 refine jc_block ?_
 refine jS ⟨[V 0 (bs a0),V 1 (.fptr [.fn 105 []] 0),V 4 (bv (a0 == []))],[],0⟩ ?_
 refine jIf ?_ ?_
 ·refine jS ⟨[V 3 (iv 0)],[],0⟩ ?_
  refine jc_ret ?_
  refine jx_blkR ?_
  refine jx_seqR ?_
  exact jx_retF (.inr rfl) (v:=iv 0) (by kernel_rfl) rfl (fle_refl _)
 refine jR ?_
 refine jG 0 2 ⟨[V 8 (.fn 105 []),V 9 (bs a0)],[],0⟩ ?_
 refine jr_callV (i:=2) rfl rfl rfl rfl (g:=105) (caps:=[]) (avs:=[bs a0]) (vs:=[bs a0]) (by kernel_rfl) (by kernel_rfl) rfl (snapL_cons rfl (snapL_nil _)) (all2_cons (fle_refl _) all2_nil) (pep_localPart_1_ok a0) (fun _=>rfl) (fun _=>rfl) ?_
 intro x1 h1
 refine jG 3 1 ⟨[V 7 (bv x1)],[],0⟩ ?_
 refine jN ?_
 refine jIf ?_ ?_
 ·refine jS ⟨[V 3 (iv 2)],[],0⟩ ?_
  refine jc_ret ?_
  refine jx_blkR ?_
  refine jx_seqR ?_
  exact jx_retF (.inr rfl) (v:=iv 2) (by kernel_rfl) rfl (fle_refl _)
 refine jc_skip ?_
 refine jx_blkN ?_
 refine jx_seqN ?_
 refine jS ⟨[V 3 (iv 1)],[],0⟩ ?_
 refine jc_ret ?_
 exact jx_retF (.inr rfl) (v:=iv 1) (by kernel_rfl) rfl (fle_refl _))
abbrev pep_localPart_r1:List LO:=[lo 4 (.assign (.const (.int .i64 0))) 3]
abbrev pep_localPart_r2:List LO:=[lo 5 (.alloc 44) 0,ln (.store 44 (.tmp 5) (.func 105)) 0]
abbrev pep_localPart_r3:List LO:=[lo 8 (.makeFunc (Fn.func 106) #[] #[.tmp 5]) 101,lo 6 (.assign (.tmp 8)) 101]
abbrev pep_localPart_r4:List LO:=[lm 9 6 101,lm 10 0 9,lo 11 (.call ⟨.value (.tmp 9),#[.tmp 10],#[9]⟩) 3,lm 12 6 101,lm 13 1 9,lo 14 (.call ⟨.value (.tmp 12),#[.tmp 13],#[9]⟩) 3,lo 15 (.call ⟨.value (.func 70),#[.tmp 11,.tmp 14],#[3,3]⟩) 3,lo 7 (.assign (.tmp 15)) 3]
abbrev pep_localPart_r5:List LO:=[lm 16 7 3,lo 17 (.binOp .neq 3 (.tmp 16) (.const (.int .i64 0)) 3) 4]
abbrev pep_localPart_r6:List LO:=[lm 18 7 3,lo 4 (.assign (.tmp 18)) 3]
abbrev pep_localPart_r7:List LO:=[lo 19 (.load 44 (.tmp 5)) 44,lm 20 0 9,lo 21 (.call ⟨.value (.tmp 19),#[.tmp 20],#[9]⟩) 4]
abbrev pep_localPart_r8:List LO:=[lm 22 0 9,lm 23 1 9,lo 24 (.call ⟨.value (.func 68),#[.tmp 22,.tmp 23],#[9,9]⟩) 3,lo 4 (.assign (.tmp 24)) 3]
abbrev pep_localPart_r9:List LO:=[lm 25 0 9,lm 26 1 9,lo 27 (.call ⟨.value (.func 103),#[.tmp 25,.tmp 26],#[9,9]⟩) 3,lo 4 (.assign (.tmp 27)) 3]
abbrev pep_localPart_c:LC:=.seq (.reg false pep_localPart_r1) (.seq (.reg false pep_localPart_r2) (.seq (.reg false pep_localPart_r3) (.seq (.seq (.reg false pep_localPart_r4) (.seq (.reg false pep_localPart_r5) (.cond (.tmp 17) (.seq (.reg false pep_localPart_r6) .ret) .skip))) (.seq (.seq (.reg false pep_localPart_r7) (.cond (.tmp 21) (.seq (.reg false pep_localPart_r8) .ret) .skip)) (.seq (.reg false pep_localPart_r9) .ret)))))
theorem pep_localPart_k:FnOk E 72 28 [.tmp 4] pep_localPart_c:=⟨⟨Go.Proofs.Tryz.f72,by kernel_rfl,by kernel_rfl,by kernel_rfl,by kernel_rfl,by kernel_rfl⟩,rfl,rfl⟩
noncomputable def pep_localPart (a0:Str) (a1:Str):Option (Int):=Option.bind (pep_localPart_2_s0b94 a0) (fun x1=>Option.bind (pep_localPart_2_s0b94 a1) (fun x2=>Option.bind (cmp_Compare_int x1 x2) (fun x3=>(if (x3 != 0)=true then some x3 else Option.bind (pep_localPart_1 a0) (fun x4=>(if x4=true then Option.bind (scan_Cmp a0 a1) (fun x5=>some x5) else Option.bind (strings_Compare a0 a1) (fun x6=>some x6)))))))
theorem pep_localPart_ok (a0:Str) (a1:Str):Ct E 72 [bs a0,bs a1] (pep_localPart a0 a1) (fun r:Int=>iv r):=ct_intro (N:=28) (L:=pep_localPart_c) pep_localPart_k rfl (Nat.le_of_ble_eq_true rfl) (by kernel_rfl) (by
 unfold pep_localPart
 refine jS ⟨[V 0 (bs a0),V 1 (bs a1)],[],0⟩ ?_
 refine jS ⟨[V 0 (bs a0),V 1 (bs a1),V 5 (pt 0 1)],[W 0 1 [.fn 105 []]],1⟩ ?_
 refine jS ⟨[V 0 (bs a0),V 1 (bs a1),V 5 (pt 0 1),V 6 (.fn 106 [pt 0 1])],[W 0 1 [.fn 105 []]],1⟩ ?_
 refine jc_seq ?_
 refine jR ?_
 refine jG 0 2 ⟨[V 0 (bs a0),V 1 (bs a1),V 5 (pt 0 1),V 6 (.fn 106 [pt 0 1]),V 9 (.fn 106 [pt 0 1]),V 10 (bs a0)],[W 0 1 [.fn 105 []]],1⟩ ?_
 refine jr_callV (i:=2) rfl rfl rfl rfl (g:=106) (caps:=[pt 0 1]) (avs:=[bs a0]) (vs:=[bs a0,pt 0 1]) (vs0:=[bs a0,.fptr [.fn 105 []] 0]) (b:=true) (by kernel_rfl) (by kernel_rfl) rfl (by kernel_rfl) (all2_cons (fle_refl _) (all2_cons (fle_refl _) all2_nil)) (pep_localPart_2_s0b94_ok a0) (fun _=>rfl) (fun _=>rfl) ?_
 intro x1 h1
 refine jG 3 2 ⟨[V 0 (bs a0),V 1 (bs a1),V 5 (pt 0 1),V 11 (iv x1),V 12 (.fn 106 [pt 0 1]),V 13 (bs a1)],[W 0 1 [.fn 105 []]],1⟩ ?_
 refine jr_callV (i:=5) rfl rfl rfl rfl (g:=106) (caps:=[pt 0 1]) (avs:=[bs a1]) (vs:=[bs a1,pt 0 1]) (vs0:=[bs a1,.fptr [.fn 105 []] 0]) (b:=true) (by kernel_rfl) (by kernel_rfl) rfl (by kernel_rfl) (all2_cons (fle_refl _) (all2_cons (fle_refl _) all2_nil)) (pep_localPart_2_s0b94_ok a1) (fun _=>rfl) (fun _=>rfl) ?_
 intro x2 h2
 refine jK 6 (cmp_Compare_int_ok x1 x2) ?_
 intro x3 h3
 refine jG 7 1 ⟨[V 0 (bs a0),V 1 (bs a1),V 5 (pt 0 1),V 7 (iv x3)],[W 0 1 [.fn 105 []]],1⟩ ?_
 refine jN ?_
 refine jS ⟨[V 0 (bs a0),V 1 (bs a1),V 5 (pt 0 1),V 7 (iv x3),V 17 (bv (x3 != 0))],[W 0 1 [.fn 105 []]],1⟩ ?_
 refine jIf ?_ ?_
 ·refine jS ⟨[V 4 (iv x3)],[],1⟩ ?_
  refine jc_ret ?_
  refine jx_seqR ?_
  exact jx_retF (.inr rfl) (v:=iv x3) (by kernel_rfl) rfl (fle_refl _)
 refine jc_skip ?_
 refine jx_seqN ?_
 refine jc_seq ?_
 refine jR ?_
 refine jG 0 2 ⟨[V 0 (bs a0),V 1 (bs a1),V 19 (.fn 105 []),V 20 (bs a0)],[],1⟩ ?_
 refine jr_callV (i:=2) rfl rfl rfl rfl (g:=105) (caps:=[]) (avs:=[bs a0]) (vs:=[bs a0]) (by kernel_rfl) (by kernel_rfl) rfl (snapL_cons rfl (snapL_nil _)) (all2_cons (fle_refl _) all2_nil) (pep_localPart_1_ok a0) (fun _=>rfl) (fun _=>rfl) ?_
 intro x4 h4
 refine jN ?_
 refine jIf ?_ ?_
 ·refine jR ?_
  refine jG 0 2 ⟨[V 22 (bs a0),V 23 (bs a1)],[],1⟩ ?_
  refine jK 2 (scan_Cmp_ok a0 a1) ?_
  intro x5 h5
  refine jG 3 1 ⟨[V 4 (iv x5)],[],1⟩ ?_
  refine jN ?_
  refine jc_ret ?_
  refine jx_seqR ?_
  exact jx_retF (.inr rfl) (v:=iv x5) (by kernel_rfl) rfl (fle_refl _)
 refine jc_skip ?_
 refine jx_seqN ?_
 refine jR ?_
 refine jG 0 2 ⟨[V 25 (bs a0),V 26 (bs a1)],[],1⟩ ?_
 refine jK 2 (strings_Compare_ok a0 a1) ?_
 intro x6 h6
 refine jG 3 1 ⟨[V 4 (iv x6)],[],1⟩ ?_
 refine jN ?_
 refine jc_ret ?_
 exact jx_retF (.inr rfl) (v:=iv x6) (by kernel_rfl) rfl (fle_refl _))
abbrev pep_row_string_s2637_r1:List LO:=[lo 8 (.assign (.const (.int .i64 0))) 3]
abbrev pep_row_string_s2637_r2:List LO:=[lm 13 0 22,lo 14 (.call ⟨.builtin .len,#[.tmp 13],#[22]⟩) 3,lm 15 1 22,lo 16 (.call ⟨.builtin .len,#[.tmp 15],#[22]⟩) 3,lo 17 (.call ⟨.builtin .max,#[.tmp 14,.tmp 16],#[3,3]⟩) 3,lo 18 (.move (.const (.int .i64 0))) 3]
abbrev pep_row_string_s2637_r3:List LO:=[lo 19 (.binOp .lss 3 (.tmp 18) (.tmp 17) 3) 4]
abbrev pep_row_string_s2637_r4:List LO:=[lm 20 18 3,lo 9 (.assign (.tmp 20)) 3]
abbrev pep_row_string_s2637_r5:List LO:=[lm 21 2 71,lm 22 9 3,lo 23 (.call ⟨.value (.tmp 21),#[.tmp 22],#[3]⟩) 9,lm 24 2 71,lm 25 9 3,lo 26 (.call ⟨.value (.tmp 24),#[.tmp 25],#[3]⟩) 9,lo 10 (.assign (.tmp 23)) 9,lo 11 (.assign (.tmp 26)) 9]
abbrev pep_row_string_s2637_r6:List LO:=[lm 27 9 3,lm 28 0 22,lo 29 (.call ⟨.builtin .len,#[.tmp 28],#[22]⟩) 3,lo 30 (.binOp .lss 3 (.tmp 27) (.tmp 29) 3) 4]
abbrev pep_row_string_s2637_r7:List LO:=[lm 31 0 22,lm 32 9 3,lo 33 (.indexAddr 22 (.tmp 31) (.tmp 32)) 0,lo 34 (.load 9 (.tmp 33)) 9,lo 10 (.assign (.tmp 34)) 9]
abbrev pep_row_string_s2637_r8:List LO:=[lm 35 9 3,lm 36 1 22,lo 37 (.call ⟨.builtin .len,#[.tmp 36],#[22]⟩) 3,lo 38 (.binOp .lss 3 (.tmp 35) (.tmp 37) 3) 4]
abbrev pep_row_string_s2637_r9:List LO:=[lm 39 1 22,lm 40 9 3,lo 41 (.indexAddr 22 (.tmp 39) (.tmp 40)) 0,lo 42 (.load 9 (.tmp 41)) 9,lo 11 (.assign (.tmp 42)) 9]
abbrev pep_row_string_s2637_r10:List LO:=[lm 43 3 32,lm 44 10 9,lm 45 11 9,lo 46 (.call ⟨.value (.tmp 43),#[.tmp 44,.tmp 45],#[9,9]⟩) 3,lo 12 (.assign (.tmp 46)) 3]
abbrev pep_row_string_s2637_r11:List LO:=[lm 47 12 3,lo 48 (.binOp .neq 3 (.tmp 47) (.const (.int .i64 0)) 3) 4]
abbrev pep_row_string_s2637_r12:List LO:=[lm 49 12 3,lo 8 (.assign (.tmp 49)) 3]
abbrev pep_row_string_s2637_r13:List LO:=[lo 50 (.binOp .add 3 (.tmp 18) (.const (.int .i64 1)) 3) 3,lm 18 50 3]
abbrev pep_row_string_s2637_r14:List LO:=[lo 8 (.assign (.const (.int .i64 0))) 3]
abbrev pep_row_string_s2637_c:LC:=.seq (.reg false pep_row_string_s2637_r1) (.seq (.seq (.reg false pep_row_string_s2637_r2) (.block 0 (.loop (.seq (.reg false pep_row_string_s2637_r3) (.seq (.cond (.tmp 19) .skip (.exit 0)) (.seq (.block 1 (.seq (.reg false pep_row_string_s2637_r4) (.seq (.reg false pep_row_string_s2637_r5) (.seq (.seq (.reg false pep_row_string_s2637_r6) (.cond (.tmp 30) (.reg false pep_row_string_s2637_r7) .skip)) (.seq (.seq (.reg false pep_row_string_s2637_r8) (.cond (.tmp 38) (.reg false pep_row_string_s2637_r9) .skip)) (.seq (.reg false pep_row_string_s2637_r10) (.seq (.reg false pep_row_string_s2637_r11) (.cond (.tmp 48) (.seq (.reg false pep_row_string_s2637_r12) .ret) .skip)))))))) (.reg false pep_row_string_s2637_r13))))))) (.seq (.reg false pep_row_string_s2637_r14) .ret))
theorem pep_row_string_s2637_k:FnOk E 69 51 [.tmp 8] pep_row_string_s2637_c:=⟨⟨Go.Proofs.Tryz.f69,by kernel_rfl,by kernel_rfl,by kernel_rfl,by kernel_rfl,by kernel_rfl⟩,rfl,rfl⟩
noncomputable def pep_row_string_s2637_l1 (a0:(List Str)) (a1:(List Str)):Int→Option (Step (Int) ((Int) ⊕ (Unit))):=fun x8=>(if (decide (x8 < (if (List.length a1:Int) > (List.length a0:Int) then (List.length a1:Int) else (List.length a0:Int))))=true then Option.bind (pep_Order_2 x8) (fun x18=>Option.bind (pep_Order_2 x8) (fun x19=>Option.bind ((if (decide (x8 < (List.length a0:Int)))=true then Option.bind (ixl a0 x8) (fun x22=>some x22) else some x18):Option (Str)) (fun x21=>Option.bind ((if (decide (x8 < (List.length a1:Int)))=true then Option.bind (ixl a1 x8) (fun x25=>some x25) else some x19):Option (Str)) (fun x24=>Option.bind (pep_localPart x21 x24) (fun x26=>(if (x26 != 0)=true then some (Step.done (Sum.inl x26)) else some (Step.next (w64 (x8 + 1))))))))) else some (Step.done (Sum.inr ())))
noncomputable def pep_row_string_s2637 (a0:(List Str)) (a1:(List Str)):Option (Int):=Option.bind (loopC (pep_row_string_s2637_l1 a0 a1) 0) (fun y=>match y with | Sum.inl x17=>some x17 | Sum.inr _=>some 0)
theorem pep_row_string_s2637_ok (a0:(List Str)) (a1:(List Str)):Ct E 69 [.fsl 1 (List.map cS a0),.fsl 1 (List.map cS a1),.fn 66 [],.fn 72 []] (pep_row_string_s2637 a0 a1) (fun r:Int=>iv r):=ct_intro (N:=51) (L:=pep_row_string_s2637_c) pep_row_string_s2637_k rfl (Nat.le_of_ble_eq_true rfl) (by kernel_rfl) (by
 unfold pep_row_string_s2637
 refine jS ⟨[V 0 (.fsl 1 (List.map cS a0)),V 1 (.fsl 1 (List.map cS a1)),V 2 (.fn 66 []),V 3 (.fn 72 [])],[],0⟩ ?_
 refine jc_seq ?_
 refine jR ?_
 refine jG 0 6 ⟨[V 0 (.fsl 1 (List.map cS a0)),V 1 (.fsl 1 (List.map cS a1)),V 2 (.fn 66 []),V 3 (.fn 72 []),V 17 (iv (if (List.length (List.map cS a1):Int) > (List.length (List.map cS a0):Int) then (List.length (List.map cS a1):Int) else (List.length (List.map cS a0):Int))),V 18 (iv 0)],[],0⟩ ?_
 simp only[List.length_map]
 refine jN ?_
 refine jc_block ?_
 refine jc_bind (fun y=>match y with | Sum.inl x17=>⟨[V 8 (iv x17)],[],0⟩ | Sum.inr _=>⟨[],[],0⟩) (fun y=>match y with | Sum.inl x17=>.ret | Sum.inr _=>(.exit 0)) (jc_loop (fun x8=>⟨[V 0 (.fsl 1 (List.map cS a0)),V 1 (.fsl 1 (List.map cS a1)),V 2 (.fn 66 []),V 3 (.fn 72 []),V 17 (iv (if (List.length a1:Int) > (List.length a0:Int) then (List.length a1:Int) else (List.length a0:Int))),V 18 (iv x8)],[],0⟩) (wkR [] (fix_nil _) allp_nil) ?_) ?_
 ·intro x8
  unfold pep_row_string_s2637_l1
  refine jS ⟨[V 0 (.fsl 1 (List.map cS a0)),V 1 (.fsl 1 (List.map cS a1)),V 2 (.fn 66 []),V 3 (.fn 72 []),V 17 (iv (if (List.length a1:Int) > (List.length a0:Int) then (List.length a1:Int) else (List.length a0:Int))),V 18 (iv x8),V 19 (bv (decide (x8 < (if (List.length a1:Int) > (List.length a0:Int) then (List.length a1:Int) else (List.length a0:Int)))))],[],0⟩ ?_
  refine jc_seq ?_
  refine jIf ?_ ?_
  ·refine jc_skip ?_
   refine jx_seqN ?_
   refine jc_seq ?_
   refine jc_block ?_
   refine jS ⟨[V 0 (.fsl 1 (List.map cS a0)),V 1 (.fsl 1 (List.map cS a1)),V 2 (.fn 66 []),V 3 (.fn 72 []),V 9 (iv x8),V 17 (iv (if (List.length a1:Int) > (List.length a0:Int) then (List.length a1:Int) else (List.length a0:Int))),V 18 (iv x8)],[],0⟩ ?_
   refine jR ?_
   refine jG 0 2 ⟨[V 0 (.fsl 1 (List.map cS a0)),V 1 (.fsl 1 (List.map cS a1)),V 2 (.fn 66 []),V 3 (.fn 72 []),V 9 (iv x8),V 17 (iv (if (List.length a1:Int) > (List.length a0:Int) then (List.length a1:Int) else (List.length a0:Int))),V 18 (iv x8),V 21 (.fn 66 []),V 22 (iv x8)],[],0⟩ ?_
   refine jr_callV (i:=2) rfl rfl rfl rfl (g:=66) (caps:=[]) (avs:=[iv x8]) (vs:=[iv x8]) (by kernel_rfl) (by kernel_rfl) rfl (snapL_cons rfl (snapL_nil _)) (all2_cons (fle_refl _) all2_nil) (pep_Order_2_ok x8) (fun _=>rfl) (fun _=>rfl) ?_
   intro x18 h18
   refine jG 3 2 ⟨[V 0 (.fsl 1 (List.map cS a0)),V 1 (.fsl 1 (List.map cS a1)),V 2 (.fn 66 []),V 3 (.fn 72 []),V 9 (iv x8),V 17 (iv (if (List.length a1:Int) > (List.length a0:Int) then (List.length a1:Int) else (List.length a0:Int))),V 18 (iv x8),V 23 (bs x18),V 24 (.fn 66 []),V 25 (iv x8)],[],0⟩ ?_
   refine jr_callV (i:=5) rfl rfl rfl rfl (g:=66) (caps:=[]) (avs:=[iv x8]) (vs:=[iv x8]) (by kernel_rfl) (by kernel_rfl) rfl (snapL_cons rfl (snapL_nil _)) (all2_cons (fle_refl _) all2_nil) (pep_Order_2_ok x8) (fun _=>rfl) (fun _=>rfl) ?_
   intro x19 h19
   refine jG 6 2 ⟨[V 0 (.fsl 1 (List.map cS a0)),V 1 (.fsl 1 (List.map cS a1)),V 2 (.fn 66 []),V 3 (.fn 72 []),V 9 (iv x8),V 10 (bs x18),V 11 (bs x19),V 17 (iv (if (List.length a1:Int) > (List.length a0:Int) then (List.length a1:Int) else (List.length a0:Int))),V 18 (iv x8)],[],0⟩ ?_
   refine jN ?_
   refine jc_seq ?_
   refine jc_bind (fun x21=>⟨[V 0 (.fsl 1 (List.map cS a0)),V 1 (.fsl 1 (List.map cS a1)),V 2 (.fn 66 []),V 3 (.fn 72 []),V 9 (iv x8),V 10 (bs x21),V 11 (bs x19),V 17 (iv (if (List.length a1:Int) > (List.length a0:Int) then (List.length a1:Int) else (List.length a0:Int))),V 18 (iv x8)],[],0⟩) (fun x21=>.normal) ?_ ?_
   ·refine jR ?_
    refine jG 0 4 ⟨[V 0 (.fsl 1 (List.map cS a0)),V 1 (.fsl 1 (List.map cS a1)),V 2 (.fn 66 []),V 3 (.fn 72 []),V 9 (iv x8),V 10 (bs x18),V 11 (bs x19),V 17 (iv (if (List.length a1:Int) > (List.length a0:Int) then (List.length a1:Int) else (List.length a0:Int))),V 18 (iv x8),V 30 (bv (decide (x8 < (List.length (List.map cS a0):Int))))],[],0⟩ ?_
    simp only[List.length_map]
    refine jN ?_
    refine jIf ?_ ?_
    ·refine jc_reg ?_
     refine jG 0 2 ⟨[V 0 (.fsl 1 (List.map cS a0)),V 1 (.fsl 1 (List.map cS a1)),V 2 (.fn 66 []),V 3 (.fn 72 []),V 9 (iv x8),V 11 (bs x19),V 17 (iv (if (List.length a1:Int) > (List.length a0:Int) then (List.length a1:Int) else (List.length a0:Int))),V 18 (iv x8),V 31 (.fsl 1 (List.map cS a0)),V 32 (iv x8)],[],0⟩ ?_
     refine jr_part (i:=2) (mo:=ixl a0 x8) rfl rfl rfl rfl (fun _ hc=>aop_ixf (c:=cS) (sz:=1) (e:=9) (kk:=.i64) (by kernel_rfl) (by kernel_rfl) (by kernel_rfl) (by kernel_rfl) hc) (fun _=>rfl) ?_
     intro x22 h22
     refine jG 3 2 ⟨[V 0 (.fsl 1 (List.map cS a0)),V 1 (.fsl 1 (List.map cS a1)),V 2 (.fn 66 []),V 3 (.fn 72 []),V 9 (iv x8),V 10 (bs x22),V 11 (bs x19),V 17 (iv (if (List.length a1:Int) > (List.length a0:Int) then (List.length a1:Int) else (List.length a0:Int))),V 18 (iv x8)],[],0⟩ ?_
     refine jr_nil rfl ?_
     exact jx_mid rfl (wkR [] (fix_nil _) allp_nil)
    refine jc_skip ?_
    exact jx_mid rfl (wkR [] (fix_nil _) allp_nil)
   intro x21
   refine jx_seqN ?_
   refine jc_seq ?_
   refine jc_bind (fun x24=>⟨[V 0 (.fsl 1 (List.map cS a0)),V 1 (.fsl 1 (List.map cS a1)),V 2 (.fn 66 []),V 3 (.fn 72 []),V 10 (bs x21),V 11 (bs x24),V 17 (iv (if (List.length a1:Int) > (List.length a0:Int) then (List.length a1:Int) else (List.length a0:Int))),V 18 (iv x8)],[],0⟩) (fun x24=>.normal) ?_ ?_
   ·refine jR ?_
    refine jG 0 4 ⟨[V 0 (.fsl 1 (List.map cS a0)),V 1 (.fsl 1 (List.map cS a1)),V 2 (.fn 66 []),V 3 (.fn 72 []),V 9 (iv x8),V 10 (bs x21),V 11 (bs x19),V 17 (iv (if (List.length a1:Int) > (List.length a0:Int) then (List.length a1:Int) else (List.length a0:Int))),V 18 (iv x8),V 38 (bv (decide (x8 < (List.length (List.map cS a1):Int))))],[],0⟩ ?_
    simp only[List.length_map]
    refine jN ?_
    refine jIf ?_ ?_
    ·refine jc_reg ?_
     refine jG 0 2 ⟨[V 0 (.fsl 1 (List.map cS a0)),V 1 (.fsl 1 (List.map cS a1)),V 2 (.fn 66 []),V 3 (.fn 72 []),V 10 (bs x21),V 17 (iv (if (List.length a1:Int) > (List.length a0:Int) then (List.length a1:Int) else (List.length a0:Int))),V 18 (iv x8),V 39 (.fsl 1 (List.map cS a1)),V 40 (iv x8)],[],0⟩ ?_
     refine jr_part (i:=2) (mo:=ixl a1 x8) rfl rfl rfl rfl (fun _ hc=>aop_ixf (c:=cS) (sz:=1) (e:=9) (kk:=.i64) (by kernel_rfl) (by kernel_rfl) (by kernel_rfl) (by kernel_rfl) hc) (fun _=>rfl) ?_
     intro x25 h25
     refine jG 3 2 ⟨[V 0 (.fsl 1 (List.map cS a0)),V 1 (.fsl 1 (List.map cS a1)),V 2 (.fn 66 []),V 3 (.fn 72 []),V 10 (bs x21),V 11 (bs x25),V 17 (iv (if (List.length a1:Int) > (List.length a0:Int) then (List.length a1:Int) else (List.length a0:Int))),V 18 (iv x8)],[],0⟩ ?_
     refine jr_nil rfl ?_
     exact jx_mid rfl (wkR [] (fix_nil _) allp_nil)
    refine jc_skip ?_
    exact jx_mid rfl (wkR [] (fix_nil _) allp_nil)
   intro x24
   refine jx_seqN ?_
   refine jR ?_
   refine jG 0 3 ⟨[V 0 (.fsl 1 (List.map cS a0)),V 1 (.fsl 1 (List.map cS a1)),V 2 (.fn 66 []),V 3 (.fn 72 []),V 17 (iv (if (List.length a1:Int) > (List.length a0:Int) then (List.length a1:Int) else (List.length a0:Int))),V 18 (iv x8),V 43 (.fn 72 []),V 44 (bs x21),V 45 (bs x24)],[],0⟩ ?_
   refine jr_callV (i:=3) rfl rfl rfl rfl (g:=72) (caps:=[]) (avs:=[bs x21,bs x24]) (vs:=[bs x21,bs x24]) (by kernel_rfl) (by kernel_rfl) rfl (snapL_cons rfl (snapL_cons rfl (snapL_nil _))) (all2_cons (fle_refl _) (all2_cons (fle_refl _) all2_nil)) (pep_localPart_ok x21 x24) (fun _=>rfl) (fun _=>rfl) ?_
   intro x26 h26
   refine jG 4 1 ⟨[V 0 (.fsl 1 (List.map cS a0)),V 1 (.fsl 1 (List.map cS a1)),V 2 (.fn 66 []),V 3 (.fn 72 []),V 12 (iv x26),V 17 (iv (if (List.length a1:Int) > (List.length a0:Int) then (List.length a1:Int) else (List.length a0:Int))),V 18 (iv x8)],[],0⟩ ?_
   refine jN ?_
   refine jS ⟨[V 0 (.fsl 1 (List.map cS a0)),V 1 (.fsl 1 (List.map cS a1)),V 2 (.fn 66 []),V 3 (.fn 72 []),V 12 (iv x26),V 17 (iv (if (List.length a1:Int) > (List.length a0:Int) then (List.length a1:Int) else (List.length a0:Int))),V 18 (iv x8),V 48 (bv (x26 != 0))],[],0⟩ ?_
   refine jIf ?_ ?_
   ·refine jS ⟨[V 8 (iv x26)],[],0⟩ ?_
    refine jc_ret ?_
    refine jx_blkR ?_
    refine jx_seqR ?_
    exact jx_done rfl nofun (wkR [] (fix_nil _) allp_nil)
   refine jc_skip ?_
   refine jx_blkN ?_
   refine jx_seqN ?_
   refine jT ⟨[V 0 (.fsl 1 (List.map cS a0)),V 1 (.fsl 1 (List.map cS a1)),V 2 (.fn 66 []),V 3 (.fn 72 []),V 17 (iv (if (List.length a1:Int) > (List.length a0:Int) then (List.length a1:Int) else (List.length a0:Int))),V 18 (iv (w64 (x8 + 1)))],[],0⟩ ?_
   exact jx_next (wkR [] (fix_nil _) allp_nil)
  refine jc_exit ?_
  refine jx_seqE ?_
  exact jx_done rfl nofun (wkR [] (fix_nil _) allp_nil)
 rintro (x17 | _)
 ·refine jx_blkR ?_
  refine jx_seqR ?_
  exact jx_retF (.inr rfl) (v:=iv x17) (by kernel_rfl) rfl (fle_refl _)
 refine jx_blkE ?_
 refine jx_seqN ?_
 refine jS ⟨[V 8 (iv 0)],[],0⟩ ?_
 refine jc_ret ?_
 exact jx_retF (.inr rfl) (v:=iv 0) (by kernel_rfl) rfl (fle_refl _))
abbrev pep_stage_r1:List LO:=[lo 1 (.box 24 (.tmp 0)) 0,lo 2 (.assign (.const (.int .i64 0))) 3]
abbrev pep_stage_r2:List LO:=[lo 4 (.fieldAddr 24 (.tmp 1) 2) 0,lo 5 (.load 5 (.tmp 4)) 5,lo 6 (.binOp .eql 5 (.tmp 5) (.const (.int .u8 0)) 5) 4,lm 7 6 4,lg 8 (.fieldAddr 24 (.tmp 1) 4) 0 7 true,lg 9 (.load 4 (.tmp 8)) 4 7 true,lg 10 (.unOp .not 4 (.tmp 9)) 4 7 true,lo 11 (.pick (.tmp 7) (.tmp 10) (.const (.bool false))) 4,lm 12 11 4,lg 13 (.fieldAddr 24 (.tmp 1) 6) 0 12 true,lg 14 (.load 4 (.tmp 13)) 4 12 true,lo 15 (.pick (.tmp 12) (.tmp 14) (.const (.bool false))) 4,lo 3 (.assign (.tmp 15)) 4]
abbrev pep_stage_r3:List LO:=[lo 2 (.assign (.const (.int .i64 0))) 3]
abbrev pep_stage_r4:List LO:=[lo 17 (.fieldAddr 24 (.tmp 1) 2) 0,lo 18 (.load 5 (.tmp 17)) 5,lo 19 (.binOp .eql 5 (.tmp 18) (.const (.int .u8 0)) 5) 4,lo 16 (.assign (.tmp 19)) 4]
abbrev pep_stage_r5:List LO:=[lo 2 (.assign (.const (.int .i64 4))) 3]
abbrev pep_stage_r6:List LO:=[lo 21 (.fieldAddr 24 (.tmp 1) 2) 0,lo 22 (.load 5 (.tmp 21)) 5,lo 23 (.binOp .eql 5 (.tmp 22) (.const (.int .u8 97)) 5) 4,lo 20 (.assign (.tmp 23)) 4]
abbrev pep_stage_r7:List LO:=[lo 2 (.assign (.const (.int .i64 1))) 3]
abbrev pep_stage_r8:List LO:=[lo 25 (.fieldAddr 24 (.tmp 1) 2) 0,lo 26 (.load 5 (.tmp 25)) 5,lo 27 (.binOp .eql 5 (.tmp 26) (.const (.int .u8 98)) 5) 4,lo 24 (.assign (.tmp 27)) 4]
abbrev pep_stage_r9:List LO:=[lo 2 (.assign (.const (.int .i64 2))) 3]
abbrev pep_stage_r10:List LO:=[lo 2 (.assign (.const (.int .i64 3))) 3]
abbrev pep_stage_c:LC:=.seq (.reg false pep_stage_r1) (.seq (.block 0 (.seq (.reg false pep_stage_r2) (.cond (.tmp 3) (.seq (.reg false pep_stage_r3) .ret) (.seq (.reg false pep_stage_r4) (.cond (.tmp 16) (.seq (.reg false pep_stage_r5) .ret) (.seq (.reg false pep_stage_r6) (.cond (.tmp 20) (.seq (.reg false pep_stage_r7) .ret) (.seq (.reg false pep_stage_r8) (.cond (.tmp 24) (.seq (.reg false pep_stage_r9) .ret) .skip))))))))) (.seq (.reg false pep_stage_r10) .ret))
theorem pep_stage_k:FnOk E 71 28 [.tmp 2] pep_stage_c:=⟨⟨Go.Proofs.Tryz.f71,by kernel_rfl,by kernel_rfl,by kernel_rfl,by kernel_rfl,by kernel_rfl⟩,rfl,rfl⟩
noncomputable def pep_stage (a0:S_api_Pep):Option (Int):=(if (((a0.Pre == 0) && (!a0.Post)) && a0.Dev)=true then some 0 else (if (a0.Pre == 0)=true then some 4 else (if (a0.Pre == 97)=true then some 1 else (if (a0.Pre == 98)=true then some 2 else some 3))))
theorem pep_stage_ok (a0:S_api_Pep):Ct E 71 [.agg [bs a0.Epoch,.fsl 1 (List.map cS a0.Release),.s (.int .u8 a0.Pre),bs a0.PreNum,bv a0.Post,bs a0.PostNum,bv a0.Dev,bs a0.DevNum,.fsl 1 (List.map cS a0.Local)]] (pep_stage a0) (fun r:Int=>iv r):=ct_intro (N:=28) (L:=pep_stage_c) pep_stage_k rfl (Nat.le_of_ble_eq_true rfl) (by kernel_rfl) (by
 unfold pep_stage
 refine jS ⟨[V 1 (pt 0 9)],[W 0 9 [bs a0.Epoch,.fsl 1 (List.map cS a0.Release),.s (.int .u8 a0.Pre),bs a0.PreNum,bv a0.Post,bs a0.PostNum,bv a0.Dev,bs a0.DevNum,.fsl 1 (List.map cS a0.Local)]],1⟩ ?_
 refine jc_seq ?_
 refine jc_block ?_
 refine jS ⟨[V 1 (pt 0 9),V 3 (bv (((a0.Pre == 0) && (!a0.Post)) && a0.Dev))],[W 0 9 [bs a0.Epoch,.fsl 1 (List.map cS a0.Release),.s (.int .u8 a0.Pre),bs a0.PreNum,bv a0.Post,bs a0.PostNum,bv a0.Dev,bs a0.DevNum,.fsl 1 (List.map cS a0.Local)]],1⟩ ?_
 refine jIf ?_ ?_
 ·refine jS ⟨[V 2 (iv 0)],[],1⟩ ?_
  refine jc_ret ?_
  refine jx_blkR ?_
  refine jx_seqR ?_
  exact jx_retF (.inr rfl) (v:=iv 0) (by kernel_rfl) rfl (fle_refl _)
 refine jS ⟨[V 1 (pt 0 9),V 16 (bv (a0.Pre == 0))],[W 0 9 [bs a0.Epoch,.fsl 1 (List.map cS a0.Release),.s (.int .u8 a0.Pre),bs a0.PreNum,bv a0.Post,bs a0.PostNum,bv a0.Dev,bs a0.DevNum,.fsl 1 (List.map cS a0.Local)]],1⟩ ?_
 refine jIf ?_ ?_
 ·refine jS ⟨[V 2 (iv 4)],[],1⟩ ?_
  refine jc_ret ?_
  refine jx_blkR ?_
  refine jx_seqR ?_
  exact jx_retF (.inr rfl) (v:=iv 4) (by kernel_rfl) rfl (fle_refl _)
 refine jS ⟨[V 1 (pt 0 9),V 20 (bv (a0.Pre == 97))],[W 0 9 [bs a0.Epoch,.fsl 1 (List.map cS a0.Release),.s (.int .u8 a0.Pre),bs a0.PreNum,bv a0.Post,bs a0.PostNum,bv a0.Dev,bs a0.DevNum,.fsl 1 (List.map cS a0.Local)]],1⟩ ?_
 refine jIf ?_ ?_
 ·refine jS ⟨[V 2 (iv 1)],[],1⟩ ?_
  refine jc_ret ?_
  refine jx_blkR ?_
  refine jx_seqR ?_
  exact jx_retF (.inr rfl) (v:=iv 1) (by kernel_rfl) rfl (fle_refl _)
 refine jS ⟨[V 24 (bv (a0.Pre == 98))],[],1⟩ ?_
 refine jIf ?_ ?_
 ·refine jS ⟨[V 2 (iv 2)],[],1⟩ ?_
  refine jc_ret ?_
  refine jx_blkR ?_
  refine jx_seqR ?_
  exact jx_retF (.inr rfl) (v:=iv 2) (by kernel_rfl) rfl (fle_refl _)
 refine jc_skip ?_
 refine jx_blkN ?_
 refine jx_seqN ?_
 refine jS ⟨[V 2 (iv 3)],[],1⟩ ?_
 refine jc_ret ?_
 exact jx_retF (.inr rfl) (v:=iv 3) (by kernel_rfl) rfl (fle_refl _))
abbrev pep_Order_r1:List LO:=[lo 2 (.box 24 (.tmp 0)) 0,lo 3 (.box 24 (.tmp 1)) 0,lo 4 (.assign (.const (.int .i64 0))) 3]
abbrev pep_Order_r2:List LO:=[lo 7 (.load 24 (.tmp 2)) 24,lo 8 (.call ⟨.value (.func 17),#[.tmp 7],#[24]⟩) 4,lo 9 (.unOp .not 4 (.tmp 8)) 4,lm 10 9 4,lg 11 (.load 24 (.tmp 3)) 24 10 false,lg 12 (.call ⟨.value (.func 17),#[.tmp 11],#[24]⟩) 4 10 false,lg 13 (.unOp .not 4 (.tmp 12)) 4 10 false,lo 14 (.pick (.tmp 10) (.const (.bool true)) (.tmp 13)) 4]
abbrev pep_Order_r3:List LO:=[lo 4 (.assign (.const (.int .i64 0))) 3]
abbrev pep_Order_r4:List LO:=[lo 5 (.assign (.func 65)) 71]
abbrev pep_Order_r5:List LO:=[lo 6 (.assign (.func 66)) 71]
abbrev pep_Order_r6:List LO:=[lo 15 (.fieldAddr 24 (.tmp 2) 0) 0,lo 16 (.load 9 (.tmp 15)) 9,lo 17 (.fieldAddr 24 (.tmp 3) 0) 0,lo 18 (.load 9 (.tmp 17)) 9,lo 19 (.call ⟨.value (.func 68),#[.tmp 16,.tmp 18],#[9,9]⟩) 3,lo 20 (.fieldAddr 24 (.tmp 2) 1) 0,lo 21 (.load 22 (.tmp 20)) 22,lo 22 (.fieldAddr 24 (.tmp 3) 1) 0,lo 23 (.load 22 (.tmp 22)) 22,lm 24 5 71,lo 25 (.call ⟨.value (.func 69),#[.tmp 21,.tmp 23,.tmp 24,.func 68],#[22,22,71,32]⟩) 3,lo 26 (.load 24 (.tmp 2)) 24,lo 27 (.call ⟨.value (.func 71),#[.tmp 26],#[24]⟩) 3,lo 28 (.load 24 (.tmp 3)) 24,lo 29 (.call ⟨.value (.func 71),#[.tmp 28],#[24]⟩) 3,lo 30 (.call ⟨.value (.func 70),#[.tmp 27,.tmp 29],#[3,3]⟩) 3,lo 31 (.fieldAddr 24 (.tmp 2) 3) 0,lo 32 (.load 9 (.tmp 31)) 9,lo 33 (.fieldAddr 24 (.tmp 3) 3) 0,lo 34 (.load 9 (.tmp 33)) 9,lo 35 (.call ⟨.value (.func 68),#[.tmp 32,.tmp 34],#[9,9]⟩) 3,lo 36 (.fieldAddr 24 (.tmp 2) 4) 0,lo 37 (.load 4 (.tmp 36)) 4,lo 38 (.call ⟨.value (.func 53),#[.tmp 37],#[4]⟩) 3,lo 39 (.fieldAddr 24 (.tmp 3) 4) 0,lo 40 (.load 4 (.tmp 39)) 4,lo 41 (.call ⟨.value (.func 53),#[.tmp 40],#[4]⟩) 3,lo 42 (.binOp .sub 3 (.tmp 38) (.tmp 41) 3) 3,lo 43 (.fieldAddr 24 (.tmp 2) 5) 0,lo 44 (.load 9 (.tmp 43)) 9,lo 45 (.fieldAddr 24 (.tmp 3) 5) 0,lo 46 (.load 9 (.tmp 45)) 9,lo 47 (.call ⟨.value (.func 68),#[.tmp 44,.tmp 46],#[9,9]⟩) 3,lo 48 (.fieldAddr 24 (.tmp 3) 6) 0,lo 49 (.load 4 (.tmp 48)) 4,lo 50 (.call ⟨.value (.func 53),#[.tmp 49],#[4]⟩) 3,lo 51 (.fieldAddr 24 (.tmp 2) 6) 0,lo 52 (.load 4 (.tmp 51)) 4,lo 53 (.call ⟨.value (.func 53),#[.tmp 52],#[4]⟩) 3,lo 54 (.binOp .sub 3 (.tmp 50) (.tmp 53) 3) 3,lo 55 (.fieldAddr 24 (.tmp 2) 7) 0,lo 56 (.load 9 (.tmp 55)) 9,lo 57 (.fieldAddr 24 (.tmp 3) 7) 0,lo 58 (.load 9 (.tmp 57)) 9,lo 59 (.call ⟨.value (.func 68),#[.tmp 56,.tmp 58],#[9,9]⟩) 3,lo 60 (.fieldAddr 24 (.tmp 2) 8) 0,lo 61 (.load 22 (.tmp 60)) 22,lo 62 (.fieldAddr 24 (.tmp 3) 8) 0,lo 63 (.load 22 (.tmp 62)) 22,lm 64 6 71,lo 65 (.call ⟨.value (.func 69),#[.tmp 61,.tmp 63,.tmp 64,.func 72],#[22,22,71,32]⟩) 3,lo 66 (.buildSlice 76 9 #[(0,.tmp 19),(1,.tmp 25),(2,.tmp 30),(3,.tmp 35),(4,.tmp 42),(5,.tmp 47),(6,.tmp 54),(7,.tmp 59),(8,.tmp 65)]) 76,lo 67 (.call ⟨.value (.func 67),#[.tmp 66],#[76]⟩) 3,lo 4 (.assign (.tmp 67)) 3]
abbrev pep_Order_c:LC:=.seq (.reg false pep_Order_r1) (.seq (.seq (.reg false pep_Order_r2) (.cond (.tmp 14) (.seq (.reg false pep_Order_r3) .ret) .skip)) (.seq (.reg false pep_Order_r4) (.seq (.reg false pep_Order_r5) (.seq (.reg true pep_Order_r6) .ret))))
theorem pep_Order_k:FnOk E 21 68 [.tmp 4] pep_Order_c:=⟨⟨Go.Proofs.Tryz.f21,by kernel_rfl,by kernel_rfl,by kernel_rfl,by kernel_rfl,by kernel_rfl⟩,rfl,rfl⟩
noncomputable def pep_Order (a0:S_api_Pep) (a1:S_api_Pep):Option (Int):=Option.bind (pep_Fit a0) (fun x1=>Option.bind (if (!x1)=true then some true else Option.bind (pep_Fit a1) (fun x4=>some (!x4)):Option (Bool)) (fun x3=>(if x3=true then some 0 else Option.bind (scan_Cmp a0.Epoch a1.Epoch) (fun x5=>Option.bind (pep_row_string_sa997 a0.Release a1.Release) (fun x6=>Option.bind (pep_stage a0) (fun x7=>Option.bind (pep_stage a1) (fun x8=>Option.bind (cmp_Compare_int x7 x8) (fun x9=>Option.bind (scan_Cmp a0.PreNum a1.PreNum) (fun x10=>Option.bind (pep_truth a0.Post) (fun x11=>Option.bind (pep_truth a1.Post) (fun x12=>Option.bind (scan_Cmp a0.PostNum a1.PostNum) (fun x13=>Option.bind (pep_truth a1.Dev) (fun x14=>Option.bind (pep_truth a0.Dev) (fun x15=>Option.bind (scan_Cmp a0.DevNum a1.DevNum) (fun x16=>Option.bind (pep_row_string_s2637 a0.Local a1.Local) (fun x17=>Option.bind (cmp_Or_int [x5,x6,x9,x10,(w64 (x11 - x12)),x13,(w64 (x14 - x15)),x16,x17]) (fun x18=>some x18)))))))))))))))))
theorem pep_Order_ok (a0:S_api_Pep) (a1:S_api_Pep):Ct E 21 [.agg [bs a0.Epoch,.fsl 1 (List.map cS a0.Release),.s (.int .u8 a0.Pre),bs a0.PreNum,bv a0.Post,bs a0.PostNum,bv a0.Dev,bs a0.DevNum,.fsl 1 (List.map cS a0.Local)],.agg [bs a1.Epoch,.fsl 1 (List.map cS a1.Release),.s (.int .u8 a1.Pre),bs a1.PreNum,bv a1.Post,bs a1.PostNum,bv a1.Dev,bs a1.DevNum,.fsl 1 (List.map cS a1.Local)]] (pep_Order a0 a1) (fun r:Int=>iv r):=ct_intro (N:=68) (L:=pep_Order_c) pep_Order_k rfl (Nat.le_of_ble_eq_true rfl) (by kernel_rfl) (by
 unfold pep_Order
 refine jS ⟨[V 2 (pt 0 9),V 3 (pt 1 9)],[W 0 9 [bs a0.Epoch,.fsl 1 (List.map cS a0.Release),.s (.int .u8 a0.Pre),bs a0.PreNum,bv a0.Post,bs a0.PostNum,bv a0.Dev,bs a0.DevNum,.fsl 1 (List.map cS a0.Local)],W 1 9 [bs a1.Epoch,.fsl 1 (List.map cS a1.Release),.s (.int .u8 a1.Pre),bs a1.PreNum,bv a1.Post,bs a1.PostNum,bv a1.Dev,bs a1.DevNum,.fsl 1 (List.map cS a1.Local)]],2⟩ ?_
 refine jc_seq ?_
 refine jR ?_
 refine jG 0 1 ⟨[V 2 (pt 0 9),V 3 (pt 1 9),V 7 (.agg [bs a0.Epoch,.fsl 1 (List.map cS a0.Release),.s (.int .u8 a0.Pre),bs a0.PreNum,bv a0.Post,bs a0.PostNum,bv a0.Dev,bs a0.DevNum,.fsl 1 (List.map cS a0.Local)])],[W 0 9 [bs a0.Epoch,.fsl 1 (List.map cS a0.Release),.s (.int .u8 a0.Pre),bs a0.PreNum,bv a0.Post,bs a0.PostNum,bv a0.Dev,bs a0.DevNum,.fsl 1 (List.map cS a0.Local)],W 1 9 [bs a1.Epoch,.fsl 1 (List.map cS a1.Release),.s (.int .u8 a1.Pre),bs a1.PreNum,bv a1.Post,bs a1.PostNum,bv a1.Dev,bs a1.DevNum,.fsl 1 (List.map cS a1.Local)]],2⟩ ?_
 refine jK 1 (pep_Fit_ok a0) ?_
 intro x1 h1
 refine jG 2 2 ⟨[V 2 (pt 0 9),V 3 (pt 1 9),V 10 (bv (!x1))],[W 0 9 [bs a0.Epoch,.fsl 1 (List.map cS a0.Release),.s (.int .u8 a0.Pre),bs a0.PreNum,bv a0.Post,bs a0.PostNum,bv a0.Dev,bs a0.DevNum,.fsl 1 (List.map cS a0.Local)],W 1 9 [bs a1.Epoch,.fsl 1 (List.map cS a1.Release),.s (.int .u8 a1.Pre),bs a1.PreNum,bv a1.Post,bs a1.PostNum,bv a1.Dev,bs a1.DevNum,.fsl 1 (List.map cS a1.Local)]],2⟩ ?_
 refine jr_bind 4 4 (fun x3=>⟨[V 2 (pt 0 9),V 3 (pt 1 9),V 14 (bv x3)],[W 0 9 [bs a0.Epoch,.fsl 1 (List.map cS a0.Release),.s (.int .u8 a0.Pre),bs a0.PreNum,bv a0.Post,bs a0.PostNum,bv a0.Dev,bs a0.DevNum,.fsl 1 (List.map cS a0.Local)],W 1 9 [bs a1.Epoch,.fsl 1 (List.map cS a1.Release),.s (.int .u8 a1.Pre),bs a1.PreNum,bv a1.Post,bs a1.PostNum,bv a1.Dev,bs a1.DevNum,.fsl 1 (List.map cS a1.Local)]],2⟩) ?_ ?_
 ·refine jSp 10 ?_ ?_
  ·refine jG 0 4 ⟨[V 2 (pt 0 9),V 3 (pt 1 9),V 14 (bv true)],[W 0 9 [bs a0.Epoch,.fsl 1 (List.map cS a0.Release),.s (.int .u8 a0.Pre),bs a0.PreNum,bv a0.Post,bs a0.PostNum,bv a0.Dev,bs a0.DevNum,.fsl 1 (List.map cS a0.Local)],W 1 9 [bs a1.Epoch,.fsl 1 (List.map cS a1.Release),.s (.int .u8 a1.Pre),bs a1.PreNum,bv a1.Post,bs a1.PostNum,bv a1.Dev,bs a1.DevNum,.fsl 1 (List.map cS a1.Local)]],2⟩ ?_
   refine jr_nil rfl ?_
   exact jx_mid rfl (wkR [(0,some 0),(1,some 1)] (fix_nil _) (pc (hC 0) (pc (hC 1) allp_nil)))
  refine jG 0 1 ⟨[V 2 (pt 0 9),V 3 (pt 1 9),(10,.lit false),V 11 (.agg [bs a1.Epoch,.fsl 1 (List.map cS a1.Release),.s (.int .u8 a1.Pre),bs a1.PreNum,bv a1.Post,bs a1.PostNum,bv a1.Dev,bs a1.DevNum,.fsl 1 (List.map cS a1.Local)])],[W 0 9 [bs a0.Epoch,.fsl 1 (List.map cS a0.Release),.s (.int .u8 a0.Pre),bs a0.PreNum,bv a0.Post,bs a0.PostNum,bv a0.Dev,bs a0.DevNum,.fsl 1 (List.map cS a0.Local)],W 1 9 [bs a1.Epoch,.fsl 1 (List.map cS a1.Release),.s (.int .u8 a1.Pre),bs a1.PreNum,bv a1.Post,bs a1.PostNum,bv a1.Dev,bs a1.DevNum,.fsl 1 (List.map cS a1.Local)]],2⟩ ?_
  refine jK 1 (pep_Fit_ok a1) ?_
  intro x4 h4
  refine jG 2 2 ⟨[V 2 (pt 0 9),V 3 (pt 1 9),V 14 (bv (!x4))],[W 0 9 [bs a0.Epoch,.fsl 1 (List.map cS a0.Release),.s (.int .u8 a0.Pre),bs a0.PreNum,bv a0.Post,bs a0.PostNum,bv a0.Dev,bs a0.DevNum,.fsl 1 (List.map cS a0.Local)],W 1 9 [bs a1.Epoch,.fsl 1 (List.map cS a1.Release),.s (.int .u8 a1.Pre),bs a1.PreNum,bv a1.Post,bs a1.PostNum,bv a1.Dev,bs a1.DevNum,.fsl 1 (List.map cS a1.Local)]],2⟩ ?_
  refine jr_nil rfl ?_
  exact jx_mid rfl (wkR [(0,some 0),(1,some 1)] (fix_nil _) (pc (hC 0) (pc (hC 1) allp_nil)))
 intro x3
 refine jN ?_
 refine jIf ?_ ?_
 ·refine jS ⟨[V 4 (iv 0)],[],2⟩ ?_
  refine jc_ret ?_
  refine jx_seqR ?_
  exact jx_retF (.inr rfl) (v:=iv 0) (by kernel_rfl) rfl (fle_refl _)
 refine jc_skip ?_
 refine jx_seqN ?_
 refine jS ⟨[V 2 (pt 0 9),V 3 (pt 1 9),V 5 (.fn 65 [])],[W 0 9 [bs a0.Epoch,.fsl 1 (List.map cS a0.Release),.s (.int .u8 a0.Pre),bs a0.PreNum,bv a0.Post,bs a0.PostNum,bv a0.Dev,bs a0.DevNum,.fsl 1 (List.map cS a0.Local)],W 1 9 [bs a1.Epoch,.fsl 1 (List.map cS a1.Release),.s (.int .u8 a1.Pre),bs a1.PreNum,bv a1.Post,bs a1.PostNum,bv a1.Dev,bs a1.DevNum,.fsl 1 (List.map cS a1.Local)]],2⟩ ?_
 refine jS ⟨[V 2 (pt 0 9),V 3 (pt 1 9),V 5 (.fn 65 []),V 6 (.fn 66 [])],[W 0 9 [bs a0.Epoch,.fsl 1 (List.map cS a0.Release),.s (.int .u8 a0.Pre),bs a0.PreNum,bv a0.Post,bs a0.PostNum,bv a0.Dev,bs a0.DevNum,.fsl 1 (List.map cS a0.Local)],W 1 9 [bs a1.Epoch,.fsl 1 (List.map cS a1.Release),.s (.int .u8 a1.Pre),bs a1.PreNum,bv a1.Post,bs a1.PostNum,bv a1.Dev,bs a1.DevNum,.fsl 1 (List.map cS a1.Local)]],2⟩ ?_
 refine jR ?_
 refine jG 0 4 ⟨[V 2 (pt 0 9),V 3 (pt 1 9),V 5 (.fn 65 []),V 6 (.fn 66 []),V 16 (bs a0.Epoch),V 18 (bs a1.Epoch)],[W 0 9 [bs a0.Epoch,.fsl 1 (List.map cS a0.Release),.s (.int .u8 a0.Pre),bs a0.PreNum,bv a0.Post,bs a0.PostNum,bv a0.Dev,bs a0.DevNum,.fsl 1 (List.map cS a0.Local)],W 1 9 [bs a1.Epoch,.fsl 1 (List.map cS a1.Release),.s (.int .u8 a1.Pre),bs a1.PreNum,bv a1.Post,bs a1.PostNum,bv a1.Dev,bs a1.DevNum,.fsl 1 (List.map cS a1.Local)]],2⟩ ?_
 refine jK 4 (scan_Cmp_ok a0.Epoch a1.Epoch) ?_
 intro x5 h5
 refine jG 5 5 ⟨[V 2 (pt 0 9),V 3 (pt 1 9),V 6 (.fn 66 []),V 19 (iv x5),V 21 (.fsl 1 (List.map cS a0.Release)),V 23 (.fsl 1 (List.map cS a1.Release)),V 24 (.fn 65 [])],[W 0 9 [bs a0.Epoch,.fsl 1 (List.map cS a0.Release),.s (.int .u8 a0.Pre),bs a0.PreNum,bv a0.Post,bs a0.PostNum,bv a0.Dev,bs a0.DevNum,.fsl 1 (List.map cS a0.Local)],W 1 9 [bs a1.Epoch,.fsl 1 (List.map cS a1.Release),.s (.int .u8 a1.Pre),bs a1.PreNum,bv a1.Post,bs a1.PostNum,bv a1.Dev,bs a1.DevNum,.fsl 1 (List.map cS a1.Local)]],2⟩ ?_
 refine jK 10 (pep_row_string_sa997_ok a0.Release a1.Release) ?_
 intro x6 h6
 refine jG 11 1 ⟨[V 2 (pt 0 9),V 3 (pt 1 9),V 6 (.fn 66 []),V 19 (iv x5),V 25 (iv x6),V 26 (.agg [bs a0.Epoch,.fsl 1 (List.map cS a0.Release),.s (.int .u8 a0.Pre),bs a0.PreNum,bv a0.Post,bs a0.PostNum,bv a0.Dev,bs a0.DevNum,.fsl 1 (List.map cS a0.Local)])],[W 0 9 [bs a0.Epoch,.fsl 1 (List.map cS a0.Release),.s (.int .u8 a0.Pre),bs a0.PreNum,bv a0.Post,bs a0.PostNum,bv a0.Dev,bs a0.DevNum,.fsl 1 (List.map cS a0.Local)],W 1 9 [bs a1.Epoch,.fsl 1 (List.map cS a1.Release),.s (.int .u8 a1.Pre),bs a1.PreNum,bv a1.Post,bs a1.PostNum,bv a1.Dev,bs a1.DevNum,.fsl 1 (List.map cS a1.Local)]],2⟩ ?_
 refine jK 12 (pep_stage_ok a0) ?_
 intro x7 h7
 refine jG 13 1 ⟨[V 2 (pt 0 9),V 3 (pt 1 9),V 6 (.fn 66 []),V 19 (iv x5),V 25 (iv x6),V 27 (iv x7),V 28 (.agg [bs a1.Epoch,.fsl 1 (List.map cS a1.Release),.s (.int .u8 a1.Pre),bs a1.PreNum,bv a1.Post,bs a1.PostNum,bv a1.Dev,bs a1.DevNum,.fsl 1 (List.map cS a1.Local)])],[W 0 9 [bs a0.Epoch,.fsl 1 (List.map cS a0.Release),.s (.int .u8 a0.Pre),bs a0.PreNum,bv a0.Post,bs a0.PostNum,bv a0.Dev,bs a0.DevNum,.fsl 1 (List.map cS a0.Local)],W 1 9 [bs a1.Epoch,.fsl 1 (List.map cS a1.Release),.s (.int .u8 a1.Pre),bs a1.PreNum,bv a1.Post,bs a1.PostNum,bv a1.Dev,bs a1.DevNum,.fsl 1 (List.map cS a1.Local)]],2⟩ ?_
 refine jK 14 (pep_stage_ok a1) ?_
 intro x8 h8
 refine jK 15 (cmp_Compare_int_ok x7 x8) ?_
 intro x9 h9
 refine jG 16 4 ⟨[V 2 (pt 0 9),V 3 (pt 1 9),V 6 (.fn 66 []),V 19 (iv x5),V 25 (iv x6),V 30 (iv x9),V 32 (bs a0.PreNum),V 34 (bs a1.PreNum)],[W 0 9 [bs a0.Epoch,.fsl 1 (List.map cS a0.Release),.s (.int .u8 a0.Pre),bs a0.PreNum,bv a0.Post,bs a0.PostNum,bv a0.Dev,bs a0.DevNum,.fsl 1 (List.map cS a0.Local)],W 1 9 [bs a1.Epoch,.fsl 1 (List.map cS a1.Release),.s (.int .u8 a1.Pre),bs a1.PreNum,bv a1.Post,bs a1.PostNum,bv a1.Dev,bs a1.DevNum,.fsl 1 (List.map cS a1.Local)]],2⟩ ?_
 refine jK 20 (scan_Cmp_ok a0.PreNum a1.PreNum) ?_
 intro x10 h10
 refine jG 21 2 ⟨[V 2 (pt 0 9),V 3 (pt 1 9),V 6 (.fn 66 []),V 19 (iv x5),V 25 (iv x6),V 30 (iv x9),V 35 (iv x10),V 37 (bv a0.Post)],[W 0 9 [bs a0.Epoch,.fsl 1 (List.map cS a0.Release),.s (.int .u8 a0.Pre),bs a0.PreNum,bv a0.Post,bs a0.PostNum,bv a0.Dev,bs a0.DevNum,.fsl 1 (List.map cS a0.Local)],W 1 9 [bs a1.Epoch,.fsl 1 (List.map cS a1.Release),.s (.int .u8 a1.Pre),bs a1.PreNum,bv a1.Post,bs a1.PostNum,bv a1.Dev,bs a1.DevNum,.fsl 1 (List.map cS a1.Local)]],2⟩ ?_
 refine jK 23 (pep_truth_ok a0.Post) ?_
 intro x11 h11
 refine jG 24 2 ⟨[V 2 (pt 0 9),V 3 (pt 1 9),V 6 (.fn 66 []),V 19 (iv x5),V 25 (iv x6),V 30 (iv x9),V 35 (iv x10),V 38 (iv x11),V 40 (bv a1.Post)],[W 0 9 [bs a0.Epoch,.fsl 1 (List.map cS a0.Release),.s (.int .u8 a0.Pre),bs a0.PreNum,bv a0.Post,bs a0.PostNum,bv a0.Dev,bs a0.DevNum,.fsl 1 (List.map cS a0.Local)],W 1 9 [bs a1.Epoch,.fsl 1 (List.map cS a1.Release),.s (.int .u8 a1.Pre),bs a1.PreNum,bv a1.Post,bs a1.PostNum,bv a1.Dev,bs a1.DevNum,.fsl 1 (List.map cS a1.Local)]],2⟩ ?_
 refine jK 26 (pep_truth_ok a1.Post) ?_
 intro x12 h12
 refine jG 27 5 ⟨[V 2 (pt 0 9),V 3 (pt 1 9),V 6 (.fn 66 []),V 19 (iv x5),V 25 (iv x6),V 30 (iv x9),V 35 (iv x10),V 42 (iv (w64 (x11 - x12))),V 44 (bs a0.PostNum),V 46 (bs a1.PostNum)],[W 0 9 [bs a0.Epoch,.fsl 1 (List.map cS a0.Release),.s (.int .u8 a0.Pre),bs a0.PreNum,bv a0.Post,bs a0.PostNum,bv a0.Dev,bs a0.DevNum,.fsl 1 (List.map cS a0.Local)],W 1 9 [bs a1.Epoch,.fsl 1 (List.map cS a1.Release),.s (.int .u8 a1.Pre),bs a1.PreNum,bv a1.Post,bs a1.PostNum,bv a1.Dev,bs a1.DevNum,.fsl 1 (List.map cS a1.Local)]],2⟩ ?_
 refine jK 32 (scan_Cmp_ok a0.PostNum a1.PostNum) ?_
 intro x13 h13
 refine jG 33 2 ⟨[V 2 (pt 0 9),V 3 (pt 1 9),V 6 (.fn 66 []),V 19 (iv x5),V 25 (iv x6),V 30 (iv x9),V 35 (iv x10),V 42 (iv (w64 (x11 - x12))),V 47 (iv x13),V 49 (bv a1.Dev)],[W 0 9 [bs a0.Epoch,.fsl 1 (List.map cS a0.Release),.s (.int .u8 a0.Pre),bs a0.PreNum,bv a0.Post,bs a0.PostNum,bv a0.Dev,bs a0.DevNum,.fsl 1 (List.map cS a0.Local)],W 1 9 [bs a1.Epoch,.fsl 1 (List.map cS a1.Release),.s (.int .u8 a1.Pre),bs a1.PreNum,bv a1.Post,bs a1.PostNum,bv a1.Dev,bs a1.DevNum,.fsl 1 (List.map cS a1.Local)]],2⟩ ?_
 refine jK 35 (pep_truth_ok a1.Dev) ?_
 intro x14 h14
 refine jG 36 2 ⟨[V 2 (pt 0 9),V 3 (pt 1 9),V 6 (.fn 66 []),V 19 (iv x5),V 25 (iv x6),V 30 (iv x9),V 35 (iv x10),V 42 (iv (w64 (x11 - x12))),V 47 (iv x13),V 50 (iv x14),V 52 (bv a0.Dev)],[W 0 9 [bs a0.Epoch,.fsl 1 (List.map cS a0.Release),.s (.int .u8 a0.Pre),bs a0.PreNum,bv a0.Post,bs a0.PostNum,bv a0.Dev,bs a0.DevNum,.fsl 1 (List.map cS a0.Local)],W 1 9 [bs a1.Epoch,.fsl 1 (List.map cS a1.Release),.s (.int .u8 a1.Pre),bs a1.PreNum,bv a1.Post,bs a1.PostNum,bv a1.Dev,bs a1.DevNum,.fsl 1 (List.map cS a1.Local)]],2⟩ ?_
 refine jK 38 (pep_truth_ok a0.Dev) ?_
 intro x15 h15
 refine jG 39 5 ⟨[V 2 (pt 0 9),V 3 (pt 1 9),V 6 (.fn 66 []),V 19 (iv x5),V 25 (iv x6),V 30 (iv x9),V 35 (iv x10),V 42 (iv (w64 (x11 - x12))),V 47 (iv x13),V 54 (iv (w64 (x14 - x15))),V 56 (bs a0.DevNum),V 58 (bs a1.DevNum)],[W 0 9 [bs a0.Epoch,.fsl 1 (List.map cS a0.Release),.s (.int .u8 a0.Pre),bs a0.PreNum,bv a0.Post,bs a0.PostNum,bv a0.Dev,bs a0.DevNum,.fsl 1 (List.map cS a0.Local)],W 1 9 [bs a1.Epoch,.fsl 1 (List.map cS a1.Release),.s (.int .u8 a1.Pre),bs a1.PreNum,bv a1.Post,bs a1.PostNum,bv a1.Dev,bs a1.DevNum,.fsl 1 (List.map cS a1.Local)]],2⟩ ?_
 refine jK 44 (scan_Cmp_ok a0.DevNum a1.DevNum) ?_
 intro x16 h16
 refine jG 45 5 ⟨[V 19 (iv x5),V 25 (iv x6),V 30 (iv x9),V 35 (iv x10),V 42 (iv (w64 (x11 - x12))),V 47 (iv x13),V 54 (iv (w64 (x14 - x15))),V 59 (iv x16),V 61 (.fsl 1 (List.map cS a0.Local)),V 63 (.fsl 1 (List.map cS a1.Local)),V 64 (.fn 66 [])],[],2⟩ ?_
 refine jK 50 (pep_row_string_s2637_ok a0.Local a1.Local) ?_
 intro x17 h17
 refine jG 51 1 ⟨[V 66 (.fsl 1 (List.map cI [x5,x6,x9,x10,(w64 (x11 - x12)),x13,(w64 (x14 - x15)),x16,x17]))],[],2⟩ ?_
 refine jK 52 (cmp_Or_int_ok [x5,x6,x9,x10,(w64 (x11 - x12)),x13,(w64 (x14 - x15)),x16,x17]) ?_
 intro x18 h18
 refine jG 53 1 ⟨[V 4 (iv x18)],[],2⟩ ?_
 refine jN ?_
 refine jc_ret ?_
 exact jx_retF (.inr rfl) (v:=iv x18) (by kernel_rfl) rfl (fle_refl _))
abbrev pep_Compare_r1:List LO:=[lo 4 (.assign (.const (.int .i64 0))) 3]
abbrev pep_Compare_r2:List LO:=[lm 10 0 9,lo 11 (.call ⟨.value (.func 8),#[.tmp 10],#[9]⟩) 28,lm 9 11 28,lo 12 (.extract (.tmp 9) 0) 24,lo 13 (.extract (.tmp 9) 1) 27,lo 5 (.alloc 24) 0,lo 6 (.alloc 27) 0,ln (.store 24 (.tmp 5) (.tmp 12)) 0,ln (.store 27 (.tmp 6) (.tmp 13)) 0]
abbrev pep_Compare_r3:List LO:=[lm 15 1 9,lo 16 (.call ⟨.value (.func 8),#[.tmp 15],#[9]⟩) 28,lm 14 16 28,lo 17 (.extract (.tmp 14) 0) 24,lo 18 (.extract (.tmp 14) 1) 27,lo 7 (.alloc 24) 0,lo 8 (.alloc 27) 0,ln (.store 24 (.tmp 7) (.tmp 17)) 0,ln (.store 27 (.tmp 8) (.tmp 18)) 0]
abbrev pep_Compare_r4:List LO:=[lo 19 (.fieldAddr 27 (.tmp 6) 0) 0,lo 20 (.load 25 (.tmp 19)) 25,lo 21 (.binOp .neq 25 (.tmp 20) (.const (.int .i64 0)) 25) 4,lm 22 21 4,lg 23 (.fieldAddr 27 (.tmp 8) 0) 0 22 false,lg 24 (.load 25 (.tmp 23)) 25 22 false,lg 25 (.binOp .neq 25 (.tmp 24) (.const (.int .i64 0)) 25) 4 22 false,lo 26 (.pick (.tmp 22) (.const (.bool true)) (.tmp 25)) 4]
abbrev pep_Compare_r5:List LO:=[lo 27 (.fieldAddr 27 (.tmp 6) 0) 0,lo 28 (.load 25 (.tmp 27)) 25,lo 29 (.binOp .eql 25 (.tmp 28) (.const (.int .i64 0)) 25) 4,lo 30 (.call ⟨.value (.func 53),#[.tmp 29],#[4]⟩) 3,lo 31 (.fieldAddr 27 (.tmp 8) 0) 0,lo 32 (.load 25 (.tmp 31)) 25,lo 33 (.binOp .eql 25 (.tmp 32) (.const (.int .i64 0)) 25) 4,lo 34 (.call ⟨.value (.func 53),#[.tmp 33],#[4]⟩) 3,lo 35 (.binOp .sub 3 (.tmp 30) (.tmp 34) 3) 3,lo 4 (.assign (.tmp 35)) 3]
abbrev pep_Compare_r6:List LO:=[lo 36 (.load 24 (.tmp 5)) 24,lo 37 (.load 24 (.tmp 7)) 24,lo 38 (.call ⟨.value (.func 21),#[.tmp 36,.tmp 37],#[24,24]⟩) 3,lo 4 (.assign (.tmp 38)) 3]
abbrev pep_Compare_c:LC:=.seq (.reg false pep_Compare_r1) (.seq (.reg false pep_Compare_r2) (.seq (.reg false pep_Compare_r3) (.seq (.seq (.reg false pep_Compare_r4) (.cond (.tmp 26) (.seq (.reg true pep_Compare_r5) .ret) .skip)) (.seq (.reg false pep_Compare_r6) .ret))))
theorem pep_Compare_k:FnOk E 13 39 [.tmp 4] pep_Compare_c:=⟨⟨Go.Proofs.Tryz.f13,by kernel_rfl,by kernel_rfl,by kernel_rfl,by kernel_rfl,by kernel_rfl⟩,rfl,rfl⟩
noncomputable def pep_Compare (a0:Str) (a1:Str):Option (Int):=Option.bind (pep_Parse a0) (fun x1=>Option.bind (pep_Parse a1) (fun x2=>(if ((x1.2.Err != 0) || (x2.2.Err != 0))=true then Option.bind (pep_truth (x1.2.Err == 0)) (fun x3=>Option.bind (pep_truth (x2.2.Err == 0)) (fun x4=>some (w64 (x3 - x4)))) else Option.bind (pep_Order (S_api_Pep.mk x1.1.Epoch x1.1.Release x1.1.Pre x1.1.PreNum x1.1.Post x1.1.PostNum x1.1.Dev x1.1.DevNum x1.1.Local) (S_api_Pep.mk x2.1.Epoch x2.1.Release x2.1.Pre x2.1.PreNum x2.1.Post x2.1.PostNum x2.1.Dev x2.1.DevNum x2.1.Local)) (fun x5=>some x5))))
theorem pep_Compare_ok (a0:Str) (a1:Str):Ct E 13 [bs a0,bs a1] (pep_Compare a0 a1) (fun r:Int=>iv r):=ct_intro (N:=39) (L:=pep_Compare_c) pep_Compare_k rfl (Nat.le_of_ble_eq_true rfl) (by kernel_rfl) (by
 unfold pep_Compare
 refine jS ⟨[V 0 (bs a0),V 1 (bs a1)],[],0⟩ ?_
 refine jR ?_
 refine jG 0 1 ⟨[V 1 (bs a1),V 10 (bs a0)],[],0⟩ ?_
 refine jK 1 (pep_Parse_ok a0) ?_
 intro x1 h1
 refine jG 2 7 ⟨[V 1 (bs a1),V 5 (pt 0 9),V 6 (pt 1 2)],[W 0 9 [bs x1.1.Epoch,.fsl 1 (List.map cS x1.1.Release),.s (.int .u8 x1.1.Pre),bs x1.1.PreNum,bv x1.1.Post,bs x1.1.PostNum,bv x1.1.Dev,bs x1.1.DevNum,.fsl 1 (List.map cS x1.1.Local)],W 1 2 [iv x1.2.Err,iv x1.2.At]],2⟩ ?_
 refine jN ?_
 refine jR ?_
 refine jG 0 1 ⟨[V 5 (pt 0 9),V 6 (pt 1 2),V 15 (bs a1)],[W 0 9 [bs x1.1.Epoch,.fsl 1 (List.map cS x1.1.Release),.s (.int .u8 x1.1.Pre),bs x1.1.PreNum,bv x1.1.Post,bs x1.1.PostNum,bv x1.1.Dev,bs x1.1.DevNum,.fsl 1 (List.map cS x1.1.Local)],W 1 2 [iv x1.2.Err,iv x1.2.At]],2⟩ ?_
 refine jK 1 (pep_Parse_ok a1) ?_
 intro x2 h2
 refine jG 2 7 ⟨[V 5 (pt 0 9),V 6 (pt 1 2),V 7 (pt 2 9),V 8 (pt 3 2)],[W 0 9 [bs x1.1.Epoch,.fsl 1 (List.map cS x1.1.Release),.s (.int .u8 x1.1.Pre),bs x1.1.PreNum,bv x1.1.Post,bs x1.1.PostNum,bv x1.1.Dev,bs x1.1.DevNum,.fsl 1 (List.map cS x1.1.Local)],W 1 2 [iv x1.2.Err,iv x1.2.At],W 2 9 [bs x2.1.Epoch,.fsl 1 (List.map cS x2.1.Release),.s (.int .u8 x2.1.Pre),bs x2.1.PreNum,bv x2.1.Post,bs x2.1.PostNum,bv x2.1.Dev,bs x2.1.DevNum,.fsl 1 (List.map cS x2.1.Local)],W 3 2 [iv x2.2.Err,iv x2.2.At]],4⟩ ?_
 refine jN ?_
 refine jc_seq ?_
 refine jS ⟨[V 5 (pt 0 9),V 6 (pt 1 2),V 7 (pt 2 9),V 8 (pt 3 2),V 26 (bv ((x1.2.Err != 0) || (x2.2.Err != 0)))],[W 0 9 [bs x1.1.Epoch,.fsl 1 (List.map cS x1.1.Release),.s (.int .u8 x1.1.Pre),bs x1.1.PreNum,bv x1.1.Post,bs x1.1.PostNum,bv x1.1.Dev,bs x1.1.DevNum,.fsl 1 (List.map cS x1.1.Local)],W 1 2 [iv x1.2.Err,iv x1.2.At],W 2 9 [bs x2.1.Epoch,.fsl 1 (List.map cS x2.1.Release),.s (.int .u8 x2.1.Pre),bs x2.1.PreNum,bv x2.1.Post,bs x2.1.PostNum,bv x2.1.Dev,bs x2.1.DevNum,.fsl 1 (List.map cS x2.1.Local)],W 3 2 [iv x2.2.Err,iv x2.2.At]],4⟩ ?_
 refine jIf ?_ ?_
 ·refine jR ?_
  refine jG 0 3 ⟨[V 8 (pt 3 2),V 29 (bv (x1.2.Err == 0))],[W 3 2 [iv x2.2.Err,iv x2.2.At]],4⟩ ?_
  refine jK 3 (pep_truth_ok (x1.2.Err == 0)) ?_
  intro x3 h3
  refine jG 4 3 ⟨[V 30 (iv x3),V 33 (bv (x2.2.Err == 0))],[],4⟩ ?_
  refine jK 7 (pep_truth_ok (x2.2.Err == 0)) ?_
  intro x4 h4
  refine jG 8 2 ⟨[V 4 (iv (w64 (x3 - x4)))],[],4⟩ ?_
  refine jN ?_
  refine jc_ret ?_
  refine jx_seqR ?_
  exact jx_retF (.inr rfl) (v:=iv (w64 (x3 - x4))) (by kernel_rfl) rfl (fle_refl _)
 refine jc_skip ?_
 refine jx_seqN ?_
 refine jR ?_
 refine jG 0 2 ⟨[V 36 (.agg [bs x1.1.Epoch,.fsl 1 (List.map cS x1.1.Release),.s (.int .u8 x1.1.Pre),bs x1.1.PreNum,bv x1.1.Post,bs x1.1.PostNum,bv x1.1.Dev,bs x1.1.DevNum,.fsl 1 (List.map cS x1.1.Local)]),V 37 (.agg [bs x2.1.Epoch,.fsl 1 (List.map cS x2.1.Release),.s (.int .u8 x2.1.Pre),bs x2.1.PreNum,bv x2.1.Post,bs x2.1.PostNum,bv x2.1.Dev,bs x2.1.DevNum,.fsl 1 (List.map cS x2.1.Local)])],[],4⟩ ?_
 refine jK 2 (pep_Order_ok (S_api_Pep.mk x1.1.Epoch x1.1.Release x1.1.Pre x1.1.PreNum x1.1.Post x1.1.PostNum x1.1.Dev x1.1.DevNum x1.1.Local) (S_api_Pep.mk x2.1.Epoch x2.1.Release x2.1.Pre x2.1.PreNum x2.1.Post x2.1.PostNum x2.1.Dev x2.1.DevNum x2.1.Local)) ?_
 intro x5 h5
 refine jG 3 1 ⟨[V 4 (iv x5)],[],4⟩ ?_
 refine jN ?_
 refine jc_ret ?_
 exact jx_retF (.inr rfl) (v:=iv x5) (by kernel_rfl) rfl (fle_refl _))
abbrev pep_text_r1:List LO:=[lo 1 (.box 24 (.tmp 0)) 0,lo 2 (.assign (.const (.string ⟨#[]⟩))) 9]
abbrev pep_text_r2:List LO:=[lo 4 (.fieldAddr 24 (.tmp 1) 1) 0,lo 5 (.load 22 (.tmp 4)) 22,lo 6 (.call ⟨.value (.func 102),#[.tmp 5,.const (.string ⟨#[46]⟩)],#[22,9]⟩) 9,lo 3 (.assign (.tmp 6)) 9]
abbrev pep_text_r3:List LO:=[lo 7 (.fieldAddr 24 (.tmp 1) 0) 0,lo 8 (.load 9 (.tmp 7)) 9,lo 9 (.binOp .neq 9 (.tmp 8) (.const (.string ⟨#[48]⟩)) 9) 4]
abbrev pep_text_r4:List LO:=[lo 10 (.fieldAddr 24 (.tmp 1) 0) 0,lo 11 (.load 9 (.tmp 10)) 9,lo 12 (.binOp .add 9 (.tmp 11) (.const (.string ⟨#[33]⟩)) 9) 9,lm 13 3 9,lo 14 (.binOp .add 9 (.tmp 12) (.tmp 13) 9) 9,lo 3 (.assign (.tmp 14)) 9]
abbrev pep_text_r5:List LO:=[lo 15 (.fieldAddr 24 (.tmp 1) 2) 0,lo 16 (.load 5 (.tmp 15)) 5]
abbrev pep_text_r6:List LO:=[lo 18 (.binOp .eql 5 (.tmp 16) (.const (.int .u8 97)) 5) 4,lo 17 (.assign (.tmp 18)) 4]
abbrev pep_text_r7:List LO:=[lo 19 (.binOp .eql 5 (.tmp 16) (.const (.int .u8 98)) 5) 4,lo 17 (.assign (.tmp 19)) 4]
abbrev pep_text_r8:List LO:=[lm 20 3 9,lo 21 (.fieldAddr 24 (.tmp 1) 2) 0,lo 22 (.load 5 (.tmp 21)) 5,lo 23 (.buildSlice 92 1 #[(0,.tmp 22)]) 92,lo 24 (.convert 92 9 (.tmp 23)) 9,lo 25 (.fieldAddr 24 (.tmp 1) 3) 0,lo 26 (.load 9 (.tmp 25)) 9,lo 27 (.binOp .add 9 (.tmp 24) (.tmp 26) 9) 9,lo 28 (.binOp .add 9 (.tmp 20) (.tmp 27) 9) 9,lo 3 (.assign (.tmp 28)) 9]
abbrev pep_text_r9:List LO:=[lo 30 (.binOp .eql 5 (.tmp 16) (.const (.int .u8 114)) 5) 4,lo 29 (.assign (.tmp 30)) 4]
abbrev pep_text_r10:List LO:=[lm 31 3 9,lo 32 (.fieldAddr 24 (.tmp 1) 3) 0,lo 33 (.load 9 (.tmp 32)) 9,lo 34 (.binOp .add 9 (.const (.string ⟨#[114,99]⟩)) (.tmp 33) 9) 9,lo 35 (.binOp .add 9 (.tmp 31) (.tmp 34) 9) 9,lo 3 (.assign (.tmp 35)) 9]
abbrev pep_text_r11:List LO:=[lo 36 (.fieldAddr 24 (.tmp 1) 4) 0,lo 37 (.load 4 (.tmp 36)) 4]
abbrev pep_text_r12:List LO:=[lm 38 3 9,lo 39 (.fieldAddr 24 (.tmp 1) 5) 0,lo 40 (.load 9 (.tmp 39)) 9,lo 41 (.binOp .add 9 (.const (.string ⟨#[46,112,111,115,116]⟩)) (.tmp 40) 9) 9,lo 42 (.binOp .add 9 (.tmp 38) (.tmp 41) 9) 9,lo 3 (.assign (.tmp 42)) 9]
abbrev pep_text_r13:List LO:=[lo 43 (.fieldAddr 24 (.tmp 1) 6) 0,lo 44 (.load 4 (.tmp 43)) 4]
abbrev pep_text_r14:List LO:=[lm 45 3 9,lo 46 (.fieldAddr 24 (.tmp 1) 7) 0,lo 47 (.load 9 (.tmp 46)) 9,lo 48 (.binOp .add 9 (.const (.string ⟨#[46,100,101,118]⟩)) (.tmp 47) 9) 9,lo 49 (.binOp .add 9 (.tmp 45) (.tmp 48) 9) 9,lo 3 (.assign (.tmp 49)) 9]
abbrev pep_text_r15:List LO:=[lo 50 (.fieldAddr 24 (.tmp 1) 8) 0,lo 51 (.load 22 (.tmp 50)) 22,lo 52 (.call ⟨.builtin .len,#[.tmp 51],#[22]⟩) 3,lo 53 (.binOp .gtr 3 (.tmp 52) (.const (.int .i64 0)) 3) 4]
abbrev pep_text_r16:List LO:=[lm 54 3 9,lo 55 (.fieldAddr 24 (.tmp 1) 8) 0,lo 56 (.load 22 (.tmp 55)) 22,lo 57 (.call ⟨.value (.func 102),#[.tmp 56,.const (.string ⟨#[46]⟩)],#[22,9]⟩) 9,lo 58 (.binOp .add 9 (.const (.string ⟨#[43]⟩)) (.tmp 57) 9) 9,lo 59 (.binOp .add 9 (.tmp 54) (.tmp 58) 9) 9,lo 3 (.assign (.tmp 59)) 9]
abbrev pep_text_r17:List LO:=[lm 60 3 9,lo 2 (.assign (.tmp 60)) 9]
abbrev pep_text_c:LC:=.seq (.reg false pep_text_r1) (.seq (.reg false pep_text_r2) (.seq (.seq (.reg false pep_text_r3) (.cond (.tmp 9) (.reg false pep_text_r4) .skip)) (.seq (.seq (.reg false pep_text_r5) (.block 0 (.seq (.seq (.reg false pep_text_r6) (.cond (.tmp 17) .skip (.reg false pep_text_r7))) (.cond (.tmp 17) (.reg false pep_text_r8) (.seq (.reg false pep_text_r9) (.cond (.tmp 29) (.reg false pep_text_r10) .skip)))))) (.seq (.seq (.reg false pep_text_r11) (.cond (.tmp 37) (.reg false pep_text_r12) .skip)) (.seq (.seq (.reg false pep_text_r13) (.cond (.tmp 44) (.reg false pep_text_r14) .skip)) (.seq (.seq (.reg false pep_text_r15) (.cond (.tmp 53) (.reg false pep_text_r16) .skip)) (.seq (.reg false pep_text_r17) .ret)))))))
theorem pep_text_k:FnOk E 64 61 [.tmp 2] pep_text_c:=⟨⟨Go.Proofs.Tryz.f64,by kernel_rfl,by kernel_rfl,by kernel_rfl,by kernel_rfl,by kernel_rfl⟩,rfl,rfl⟩
noncomputable def pep_text (a0:S_api_Pep):Option (Str):=Option.bind (strings_Join a0.Release [46]) (fun x1=>Option.bind ((if (!(a0.Epoch == [48]))=true then Option.bind (cat a0.Epoch [33]) (fun x5=>Option.bind (cat x5 x1) (fun x6=>some x6)) else some x1):Option (Str)) (fun x4=>Option.bind (Option.bind ((if (a0.Pre == 97)=true then some true else some (a0.Pre == 98)):Option (Bool)) (fun x13=>(if x13=true then Option.bind (cat (ofb [a0.Pre]) a0.PreNum) (fun x14=>Option.bind (cat x4 x14) (fun x15=>some x15)) else (if (a0.Pre == 114)=true then Option.bind (cat [114,99] a0.PreNum) (fun x16=>Option.bind (cat x4 x16) (fun x17=>some x17)) else some x4))):Option (Str)) (fun x12=>Option.bind ((if a0.Post=true then Option.bind (cat [46,112,111,115,116] a0.PostNum) (fun x21=>Option.bind (cat x12 x21) (fun x22=>some x22)) else some x12):Option (Str)) (fun x20=>Option.bind ((if a0.Dev=true then Option.bind (cat [46,100,101,118] a0.DevNum) (fun x26=>Option.bind (cat x20 x26) (fun x27=>some x27)) else some x20):Option (Str)) (fun x25=>Option.bind ((if (decide ((List.length a0.Local:Int) > 0))=true then Option.bind (strings_Join a0.Local [46]) (fun x32=>Option.bind (cat [43] x32) (fun x33=>Option.bind (cat x25 x33) (fun x34=>some x34))) else some x25):Option (Str)) (fun x31=>some x31))))))
theorem pep_text_ok (a0:S_api_Pep):Ct E 64 [.agg [bs a0.Epoch,.fsl 1 (List.map cS a0.Release),.s (.int .u8 a0.Pre),bs a0.PreNum,bv a0.Post,bs a0.PostNum,bv a0.Dev,bs a0.DevNum,.fsl 1 (List.map cS a0.Local)]] (pep_text a0) (fun r:Str=>bs r):=ct_intro (N:=61) (L:=pep_text_c) pep_text_k rfl (Nat.le_of_ble_eq_true rfl) (by kernel_rfl) (by
 unfold pep_text
 refine jS ⟨[V 1 (pt 0 9)],[W 0 9 [bs a0.Epoch,.fsl 1 (List.map cS a0.Release),.s (.int .u8 a0.Pre),bs a0.PreNum,bv a0.Post,bs a0.PostNum,bv a0.Dev,bs a0.DevNum,.fsl 1 (List.map cS a0.Local)]],1⟩ ?_
 refine jR ?_
 refine jG 0 2 ⟨[V 1 (pt 0 9),V 5 (.fsl 1 (List.map cS a0.Release))],[W 0 9 [bs a0.Epoch,.fsl 1 (List.map cS a0.Release),.s (.int .u8 a0.Pre),bs a0.PreNum,bv a0.Post,bs a0.PostNum,bv a0.Dev,bs a0.DevNum,.fsl 1 (List.map cS a0.Local)]],1⟩ ?_
 refine jK 2 (strings_Join_ok a0.Release [46]) ?_
 intro x1 h1
 refine jG 3 1 ⟨[V 1 (pt 0 9),V 3 (bs x1)],[W 0 9 [bs a0.Epoch,.fsl 1 (List.map cS a0.Release),.s (.int .u8 a0.Pre),bs a0.PreNum,bv a0.Post,bs a0.PostNum,bv a0.Dev,bs a0.DevNum,.fsl 1 (List.map cS a0.Local)]],1⟩ ?_
 refine jN ?_
 refine jc_seq ?_
 refine jc_bind (fun x4=>⟨[V 1 (pt 0 9),V 3 (bs x4)],[W 0 9 [bs a0.Epoch,.fsl 1 (List.map cS a0.Release),.s (.int .u8 a0.Pre),bs a0.PreNum,bv a0.Post,bs a0.PostNum,bv a0.Dev,bs a0.DevNum,.fsl 1 (List.map cS a0.Local)]],1⟩) (fun x4=>.normal) ?_ ?_
 ·refine jS ⟨[V 1 (pt 0 9),V 3 (bs x1),V 9 (bv (!(a0.Epoch == [48])))],[W 0 9 [bs a0.Epoch,.fsl 1 (List.map cS a0.Release),.s (.int .u8 a0.Pre),bs a0.PreNum,bv a0.Post,bs a0.PostNum,bv a0.Dev,bs a0.DevNum,.fsl 1 (List.map cS a0.Local)]],1⟩ ?_
  refine jIf ?_ ?_
  ·refine jc_reg ?_
   refine jG 0 2 ⟨[V 1 (pt 0 9),V 3 (bs x1),V 11 (bs a0.Epoch)],[W 0 9 [bs a0.Epoch,.fsl 1 (List.map cS a0.Release),.s (.int .u8 a0.Pre),bs a0.PreNum,bv a0.Post,bs a0.PostNum,bv a0.Dev,bs a0.DevNum,.fsl 1 (List.map cS a0.Local)]],1⟩ ?_
   refine jr_part (i:=2) (mo:=cat a0.Epoch [33]) rfl rfl rfl rfl (fun _ hc=>aop_cat (by kernel_rfl) (by kernel_rfl) hc) (fun _=>rfl) ?_
   intro x5 h5
   refine jG 3 1 ⟨[V 1 (pt 0 9),V 12 (bs x5),V 13 (bs x1)],[W 0 9 [bs a0.Epoch,.fsl 1 (List.map cS a0.Release),.s (.int .u8 a0.Pre),bs a0.PreNum,bv a0.Post,bs a0.PostNum,bv a0.Dev,bs a0.DevNum,.fsl 1 (List.map cS a0.Local)]],1⟩ ?_
   refine jr_part (i:=4) (mo:=cat x5 x1) rfl rfl rfl rfl (fun _ hc=>aop_cat (by kernel_rfl) (by kernel_rfl) hc) (fun _=>rfl) ?_
   intro x6 h6
   refine jG 5 1 ⟨[V 1 (pt 0 9),V 3 (bs x6)],[W 0 9 [bs a0.Epoch,.fsl 1 (List.map cS a0.Release),.s (.int .u8 a0.Pre),bs a0.PreNum,bv a0.Post,bs a0.PostNum,bv a0.Dev,bs a0.DevNum,.fsl 1 (List.map cS a0.Local)]],1⟩ ?_
   refine jr_nil rfl ?_
   exact jx_mid rfl (wkR [(0,some 0)] (fix_nil _) (pc (hC 0) allp_nil))
  refine jc_skip ?_
  exact jx_mid rfl (wkR [(0,some 0)] (fix_nil _) (pc (hC 0) allp_nil))
 intro x4
 refine jx_seqN ?_
 refine jc_seq ?_
 refine jc_bind (fun x12=>⟨[V 1 (pt 0 9),V 3 (bs x12)],[W 0 9 [bs a0.Epoch,.fsl 1 (List.map cS a0.Release),.s (.int .u8 a0.Pre),bs a0.PreNum,bv a0.Post,bs a0.PostNum,bv a0.Dev,bs a0.DevNum,.fsl 1 (List.map cS a0.Local)]],1⟩) (fun x12=>.normal) ?_ ?_
 ·refine jS ⟨[V 1 (pt 0 9),V 3 (bs x4),V 16 (.s (.int .u8 a0.Pre))],[W 0 9 [bs a0.Epoch,.fsl 1 (List.map cS a0.Release),.s (.int .u8 a0.Pre),bs a0.PreNum,bv a0.Post,bs a0.PostNum,bv a0.Dev,bs a0.DevNum,.fsl 1 (List.map cS a0.Local)]],1⟩ ?_
  refine jc_block ?_
  refine jc_seq ?_
  refine jc_bind (fun x13=>⟨[V 1 (pt 0 9),V 3 (bs x4),V 16 (.s (.int .u8 a0.Pre)),V 17 (bv x13)],[W 0 9 [bs a0.Epoch,.fsl 1 (List.map cS a0.Release),.s (.int .u8 a0.Pre),bs a0.PreNum,bv a0.Post,bs a0.PostNum,bv a0.Dev,bs a0.DevNum,.fsl 1 (List.map cS a0.Local)]],1⟩) (fun x13=>.normal) ?_ ?_
  ·refine jS ⟨[V 1 (pt 0 9),V 3 (bs x4),V 16 (.s (.int .u8 a0.Pre)),V 17 (bv (a0.Pre == 97))],[W 0 9 [bs a0.Epoch,.fsl 1 (List.map cS a0.Release),.s (.int .u8 a0.Pre),bs a0.PreNum,bv a0.Post,bs a0.PostNum,bv a0.Dev,bs a0.DevNum,.fsl 1 (List.map cS a0.Local)]],1⟩ ?_
   refine jIf ?_ ?_
   ·refine jc_skip ?_
    exact jx_mid rfl (wkR [(0,some 0)] (fix_nil _) (pc (hC 0) allp_nil))
   refine jT ⟨[V 1 (pt 0 9),V 3 (bs x4),V 16 (.s (.int .u8 a0.Pre)),V 17 (bv (a0.Pre == 98))],[W 0 9 [bs a0.Epoch,.fsl 1 (List.map cS a0.Release),.s (.int .u8 a0.Pre),bs a0.PreNum,bv a0.Post,bs a0.PostNum,bv a0.Dev,bs a0.DevNum,.fsl 1 (List.map cS a0.Local)]],1⟩ ?_
   exact jx_mid rfl (wkR [(0,some 0)] (fix_nil _) (pc (hC 0) allp_nil))
  intro x13
  refine jx_seqN ?_
  refine jIf ?_ ?_
  ·refine jc_reg ?_
   refine jG 0 4 ⟨[V 1 (pt 0 9),V 20 (bs x4),V 23 (.osl 1 0 (List.length [a0.Pre]) 1)],[W 0 9 [bs a0.Epoch,.fsl 1 (List.map cS a0.Release),.s (.int .u8 a0.Pre),bs a0.PreNum,bv a0.Post,bs a0.PostNum,bv a0.Dev,bs a0.DevNum,.fsl 1 (List.map cS a0.Local)],(1,.rows 1 (List.map cB [a0.Pre]))],2⟩ ?_
   refine jr_one (i:=4) rfl rfl rfl rfl (aop_ofb_o (e:=5) (id:=1) (l:=[a0.Pre]) (by kernel_rfl) (by kernel_rfl) (by kernel_rfl) (by kernel_rfl) (by kernel_rfl)) rfl ?_
   refine jG 5 2 ⟨[V 1 (pt 0 9),V 20 (bs x4),V 24 (bs (ofb [a0.Pre])),V 26 (bs a0.PreNum)],[W 0 9 [bs a0.Epoch,.fsl 1 (List.map cS a0.Release),.s (.int .u8 a0.Pre),bs a0.PreNum,bv a0.Post,bs a0.PostNum,bv a0.Dev,bs a0.DevNum,.fsl 1 (List.map cS a0.Local)]],3⟩ ?_
   refine jr_part (i:=7) (mo:=cat (ofb [a0.Pre]) a0.PreNum) rfl rfl rfl rfl (fun _ hc=>aop_cat (by kernel_rfl) (by kernel_rfl) hc) (fun _=>rfl) ?_
   intro x14 h14
   refine jr_part (i:=8) (mo:=cat x4 x14) rfl rfl rfl rfl (fun _ hc=>aop_cat (by kernel_rfl) (by kernel_rfl) hc) (fun _=>rfl) ?_
   intro x15 h15
   refine jG 9 1 ⟨[V 1 (pt 0 9),V 3 (bs x15)],[W 0 9 [bs a0.Epoch,.fsl 1 (List.map cS a0.Release),.s (.int .u8 a0.Pre),bs a0.PreNum,bv a0.Post,bs a0.PostNum,bv a0.Dev,bs a0.DevNum,.fsl 1 (List.map cS a0.Local)]],3⟩ ?_
   refine jr_nil rfl ?_
   refine jx_blkN ?_
   exact jx_mid rfl (wkR [(0,some 0)] (fix_nil _) (pc (hC 0) allp_nil))
  refine jS ⟨[V 1 (pt 0 9),V 3 (bs x4),V 29 (bv (a0.Pre == 114))],[W 0 9 [bs a0.Epoch,.fsl 1 (List.map cS a0.Release),.s (.int .u8 a0.Pre),bs a0.PreNum,bv a0.Post,bs a0.PostNum,bv a0.Dev,bs a0.DevNum,.fsl 1 (List.map cS a0.Local)]],1⟩ ?_
  refine jIf ?_ ?_
  ·refine jc_reg ?_
   refine jG 0 3 ⟨[V 1 (pt 0 9),V 31 (bs x4),V 33 (bs a0.PreNum)],[W 0 9 [bs a0.Epoch,.fsl 1 (List.map cS a0.Release),.s (.int .u8 a0.Pre),bs a0.PreNum,bv a0.Post,bs a0.PostNum,bv a0.Dev,bs a0.DevNum,.fsl 1 (List.map cS a0.Local)]],1⟩ ?_
   refine jr_part (i:=3) (mo:=cat [114,99] a0.PreNum) rfl rfl rfl rfl (fun _ hc=>aop_cat (by kernel_rfl) (by kernel_rfl) hc) (fun _=>rfl) ?_
   intro x16 h16
   refine jr_part (i:=4) (mo:=cat x4 x16) rfl rfl rfl rfl (fun _ hc=>aop_cat (by kernel_rfl) (by kernel_rfl) hc) (fun _=>rfl) ?_
   intro x17 h17
   refine jG 5 1 ⟨[V 1 (pt 0 9),V 3 (bs x17)],[W 0 9 [bs a0.Epoch,.fsl 1 (List.map cS a0.Release),.s (.int .u8 a0.Pre),bs a0.PreNum,bv a0.Post,bs a0.PostNum,bv a0.Dev,bs a0.DevNum,.fsl 1 (List.map cS a0.Local)]],1⟩ ?_
   refine jr_nil rfl ?_
   refine jx_blkN ?_
   exact jx_mid rfl (wkR [(0,some 0)] (fix_nil _) (pc (hC 0) allp_nil))
  refine jc_skip ?_
  refine jx_blkN ?_
  exact jx_mid rfl (wkR [(0,some 0)] (fix_nil _) (pc (hC 0) allp_nil))
 intro x12
 refine jx_seqN ?_
 refine jc_seq ?_
 refine jc_bind (fun x20=>⟨[V 1 (pt 0 9),V 3 (bs x20)],[W 0 9 [bs a0.Epoch,.fsl 1 (List.map cS a0.Release),.s (.int .u8 a0.Pre),bs a0.PreNum,bv a0.Post,bs a0.PostNum,bv a0.Dev,bs a0.DevNum,.fsl 1 (List.map cS a0.Local)]],1⟩) (fun x20=>.normal) ?_ ?_
 ·refine jS ⟨[V 1 (pt 0 9),V 3 (bs x12),V 37 (bv a0.Post)],[W 0 9 [bs a0.Epoch,.fsl 1 (List.map cS a0.Release),.s (.int .u8 a0.Pre),bs a0.PreNum,bv a0.Post,bs a0.PostNum,bv a0.Dev,bs a0.DevNum,.fsl 1 (List.map cS a0.Local)]],1⟩ ?_
  refine jIf ?_ ?_
  ·refine jc_reg ?_
   refine jG 0 3 ⟨[V 1 (pt 0 9),V 38 (bs x12),V 40 (bs a0.PostNum)],[W 0 9 [bs a0.Epoch,.fsl 1 (List.map cS a0.Release),.s (.int .u8 a0.Pre),bs a0.PreNum,bv a0.Post,bs a0.PostNum,bv a0.Dev,bs a0.DevNum,.fsl 1 (List.map cS a0.Local)]],1⟩ ?_
   refine jr_part (i:=3) (mo:=cat [46,112,111,115,116] a0.PostNum) rfl rfl rfl rfl (fun _ hc=>aop_cat (by kernel_rfl) (by kernel_rfl) hc) (fun _=>rfl) ?_
   intro x21 h21
   refine jr_part (i:=4) (mo:=cat x12 x21) rfl rfl rfl rfl (fun _ hc=>aop_cat (by kernel_rfl) (by kernel_rfl) hc) (fun _=>rfl) ?_
   intro x22 h22
   refine jG 5 1 ⟨[V 1 (pt 0 9),V 3 (bs x22)],[W 0 9 [bs a0.Epoch,.fsl 1 (List.map cS a0.Release),.s (.int .u8 a0.Pre),bs a0.PreNum,bv a0.Post,bs a0.PostNum,bv a0.Dev,bs a0.DevNum,.fsl 1 (List.map cS a0.Local)]],1⟩ ?_
   refine jr_nil rfl ?_
   exact jx_mid rfl (wkR [(0,some 0)] (fix_nil _) (pc (hC 0) allp_nil))
  refine jc_skip ?_
  exact jx_mid rfl (wkR [(0,some 0)] (fix_nil _) (pc (hC 0) allp_nil))
 intro x20
 refine jx_seqN ?_
 refine jc_seq ?_
 refine jc_bind (fun x25=>⟨[V 1 (pt 0 9),V 3 (bs x25)],[W 0 9 [bs a0.Epoch,.fsl 1 (List.map cS a0.Release),.s (.int .u8 a0.Pre),bs a0.PreNum,bv a0.Post,bs a0.PostNum,bv a0.Dev,bs a0.DevNum,.fsl 1 (List.map cS a0.Local)]],1⟩) (fun x25=>.normal) ?_ ?_
 ·refine jS ⟨[V 1 (pt 0 9),V 3 (bs x20),V 44 (bv a0.Dev)],[W 0 9 [bs a0.Epoch,.fsl 1 (List.map cS a0.Release),.s (.int .u8 a0.Pre),bs a0.PreNum,bv a0.Post,bs a0.PostNum,bv a0.Dev,bs a0.DevNum,.fsl 1 (List.map cS a0.Local)]],1⟩ ?_
  refine jIf ?_ ?_
  ·refine jc_reg ?_
   refine jG 0 3 ⟨[V 1 (pt 0 9),V 45 (bs x20),V 47 (bs a0.DevNum)],[W 0 9 [bs a0.Epoch,.fsl 1 (List.map cS a0.Release),.s (.int .u8 a0.Pre),bs a0.PreNum,bv a0.Post,bs a0.PostNum,bv a0.Dev,bs a0.DevNum,.fsl 1 (List.map cS a0.Local)]],1⟩ ?_
   refine jr_part (i:=3) (mo:=cat [46,100,101,118] a0.DevNum) rfl rfl rfl rfl (fun _ hc=>aop_cat (by kernel_rfl) (by kernel_rfl) hc) (fun _=>rfl) ?_
   intro x26 h26
   refine jr_part (i:=4) (mo:=cat x20 x26) rfl rfl rfl rfl (fun _ hc=>aop_cat (by kernel_rfl) (by kernel_rfl) hc) (fun _=>rfl) ?_
   intro x27 h27
   refine jG 5 1 ⟨[V 1 (pt 0 9),V 3 (bs x27)],[W 0 9 [bs a0.Epoch,.fsl 1 (List.map cS a0.Release),.s (.int .u8 a0.Pre),bs a0.PreNum,bv a0.Post,bs a0.PostNum,bv a0.Dev,bs a0.DevNum,.fsl 1 (List.map cS a0.Local)]],1⟩ ?_
   refine jr_nil rfl ?_
   exact jx_mid rfl (wkR [(0,some 0)] (fix_nil _) (pc (hC 0) allp_nil))
  refine jc_skip ?_
  exact jx_mid rfl (wkR [(0,some 0)] (fix_nil _) (pc (hC 0) allp_nil))
 intro x25
 refine jx_seqN ?_
 refine jc_seq ?_
 refine jc_bind (fun x31=>⟨[V 3 (bs x31)],[],0⟩) (fun x31=>.normal) ?_ ?_
 ·refine jR ?_
  refine jG 0 4 ⟨[V 1 (pt 0 9),V 3 (bs x25),V 53 (bv (decide ((List.length (List.map cS a0.Local):Int) > 0)))],[W 0 9 [bs a0.Epoch,.fsl 1 (List.map cS a0.Release),.s (.int .u8 a0.Pre),bs a0.PreNum,bv a0.Post,bs a0.PostNum,bv a0.Dev,bs a0.DevNum,.fsl 1 (List.map cS a0.Local)]],1⟩ ?_
  simp only[List.length_map]
  refine jN ?_
  refine jIf ?_ ?_
  ·refine jc_reg ?_
   refine jG 0 3 ⟨[V 54 (bs x25),V 56 (.fsl 1 (List.map cS a0.Local))],[],1⟩ ?_
   refine jK 3 (strings_Join_ok a0.Local [46]) ?_
   intro x32 h32
   refine jr_part (i:=4) (mo:=cat [43] x32) rfl rfl rfl rfl (fun _ hc=>aop_cat (by kernel_rfl) (by kernel_rfl) hc) (fun _=>rfl) ?_
   intro x33 h33
   refine jr_part (i:=5) (mo:=cat x25 x33) rfl rfl rfl rfl (fun _ hc=>aop_cat (by kernel_rfl) (by kernel_rfl) hc) (fun _=>rfl) ?_
   intro x34 h34
   refine jG 6 1 ⟨[V 3 (bs x34)],[],1⟩ ?_
   refine jr_nil rfl ?_
   exact jx_mid rfl (wkR [] (fix_nil _) allp_nil)
  refine jc_skip ?_
  exact jx_mid rfl (wkR [] (fix_nil _) allp_nil)
 intro x31
 refine jx_seqN ?_
 refine jS ⟨[V 2 (bs x31)],[],0⟩ ?_
 refine jc_ret ?_
 exact jx_retF (.inr rfl) (v:=bs x31) (by kernel_rfl) rfl (fle_refl _))
abbrev pep_Text_r1:List LO:=[lo 1 (.box 24 (.tmp 0)) 0,lo 2 (.assign (.const (.string ⟨#[]⟩))) 9]
abbrev pep_Text_r2:List LO:=[lo 3 (.load 24 (.tmp 1)) 24,lo 4 (.call ⟨.value (.func 17),#[.tmp 3],#[24]⟩) 4,lo 5 (.unOp .not 4 (.tmp 4)) 4]
abbrev pep_Text_r3:List LO:=[lo 2 (.assign (.const (.string ⟨#[]⟩))) 9]
abbrev pep_Text_r4:List LO:=[lo 6 (.load 24 (.tmp 1)) 24,lo 7 (.call ⟨.value (.func 64),#[.tmp 6],#[24]⟩) 9,lo 2 (.assign (.tmp 7)) 9]
abbrev pep_Text_c:LC:=.seq (.reg false pep_Text_r1) (.seq (.seq (.reg false pep_Text_r2) (.cond (.tmp 5) (.seq (.reg false pep_Text_r3) .ret) .skip)) (.seq (.reg false pep_Text_r4) .ret))
theorem pep_Text_k:FnOk E 19 8 [.tmp 2] pep_Text_c:=⟨⟨Go.Proofs.Tryz.f19,by kernel_rfl,by kernel_rfl,by kernel_rfl,by kernel_rfl,by kernel_rfl⟩,rfl,rfl⟩
noncomputable def pep_Text (a0:S_api_Pep):Option (Str):=Option.bind (pep_Fit a0) (fun x1=>(if (!x1)=true then some [] else Option.bind (pep_text a0) (fun x2=>some x2)))
theorem pep_Text_ok (a0:S_api_Pep):Ct E 19 [.agg [bs a0.Epoch,.fsl 1 (List.map cS a0.Release),.s (.int .u8 a0.Pre),bs a0.PreNum,bv a0.Post,bs a0.PostNum,bv a0.Dev,bs a0.DevNum,.fsl 1 (List.map cS a0.Local)]] (pep_Text a0) (fun r:Str=>bs r):=ct_intro (N:=8) (L:=pep_Text_c) pep_Text_k rfl (Nat.le_of_ble_eq_true rfl) (by kernel_rfl) (by
 unfold pep_Text
 refine jS ⟨[V 1 (pt 0 9)],[W 0 9 [bs a0.Epoch,.fsl 1 (List.map cS a0.Release),.s (.int .u8 a0.Pre),bs a0.PreNum,bv a0.Post,bs a0.PostNum,bv a0.Dev,bs a0.DevNum,.fsl 1 (List.map cS a0.Local)]],1⟩ ?_
 refine jc_seq ?_
 refine jR ?_
 refine jG 0 1 ⟨[V 1 (pt 0 9),V 3 (.agg [bs a0.Epoch,.fsl 1 (List.map cS a0.Release),.s (.int .u8 a0.Pre),bs a0.PreNum,bv a0.Post,bs a0.PostNum,bv a0.Dev,bs a0.DevNum,.fsl 1 (List.map cS a0.Local)])],[W 0 9 [bs a0.Epoch,.fsl 1 (List.map cS a0.Release),.s (.int .u8 a0.Pre),bs a0.PreNum,bv a0.Post,bs a0.PostNum,bv a0.Dev,bs a0.DevNum,.fsl 1 (List.map cS a0.Local)]],1⟩ ?_
 refine jK 1 (pep_Fit_ok a0) ?_
 intro x1 h1
 refine jG 2 1 ⟨[V 1 (pt 0 9),V 5 (bv (!x1))],[W 0 9 [bs a0.Epoch,.fsl 1 (List.map cS a0.Release),.s (.int .u8 a0.Pre),bs a0.PreNum,bv a0.Post,bs a0.PostNum,bv a0.Dev,bs a0.DevNum,.fsl 1 (List.map cS a0.Local)]],1⟩ ?_
 refine jN ?_
 refine jIf ?_ ?_
 ·refine jS ⟨[V 2 (bs [])],[],1⟩ ?_
  refine jc_ret ?_
  refine jx_seqR ?_
  exact jx_retF (.inr rfl) (v:=bs []) (by kernel_rfl) rfl (fle_refl _)
 refine jc_skip ?_
 refine jx_seqN ?_
 refine jR ?_
 refine jG 0 1 ⟨[V 6 (.agg [bs a0.Epoch,.fsl 1 (List.map cS a0.Release),.s (.int .u8 a0.Pre),bs a0.PreNum,bv a0.Post,bs a0.PostNum,bv a0.Dev,bs a0.DevNum,.fsl 1 (List.map cS a0.Local)])],[],1⟩ ?_
 refine jK 1 (pep_text_ok a0) ?_
 intro x2 h2
 refine jG 2 1 ⟨[V 2 (bs x2)],[],1⟩ ?_
 refine jN ?_
 refine jc_ret ?_
 exact jx_retF (.inr rfl) (v:=bs x2) (by kernel_rfl) rfl (fle_refl _))
abbrev pep_Normal_r1:List LO:=[lo 2 (.assign (.const (.string ⟨#[]⟩))) 9]
abbrev pep_Normal_r2:List LO:=[lm 6 0 9,lo 7 (.call ⟨.value (.func 8),#[.tmp 6],#[9]⟩) 28,lm 5 7 28,lo 8 (.extract (.tmp 5) 0) 24,lo 9 (.extract (.tmp 5) 1) 27,lo 3 (.alloc 24) 0,lo 4 (.alloc 27) 0,ln (.store 24 (.tmp 3) (.tmp 8)) 0,ln (.store 27 (.tmp 4) (.tmp 9)) 0]
abbrev pep_Normal_r3:List LO:=[lo 10 (.fieldAddr 27 (.tmp 4) 0) 0,lo 11 (.load 25 (.tmp 10)) 25,lo 12 (.binOp .neq 25 (.tmp 11) (.const (.int .i64 0)) 25) 4]
abbrev pep_Normal_r4:List LO:=[lo 2 (.assign (.const (.string ⟨#[]⟩))) 9]
abbrev pep_Normal_r5:List LO:=[lo 13 (.load 24 (.tmp 3)) 24,lo 14 (.call ⟨.value (.func 19),#[.tmp 13],#[24]⟩) 9,lo 2 (.assign (.tmp 14)) 9]
abbrev pep_Normal_c:LC:=.seq (.reg false pep_Normal_r1) (.seq (.reg false pep_Normal_r2) (.seq (.seq (.reg false pep_Normal_r3) (.cond (.tmp 12) (.seq (.reg false pep_Normal_r4) .ret) .skip)) (.seq (.reg false pep_Normal_r5) .ret)))
theorem pep_Normal_k:FnOk E 11 15 [.tmp 2] pep_Normal_c:=⟨⟨Go.Proofs.Tryz.f11,by kernel_rfl,by kernel_rfl,by kernel_rfl,by kernel_rfl,by kernel_rfl⟩,rfl,rfl⟩
noncomputable def pep_Normal (a0:Str):Option (Str):=Option.bind (pep_Parse a0) (fun x1=>(if (x1.2.Err != 0)=true then some [] else Option.bind (pep_Text (S_api_Pep.mk x1.1.Epoch x1.1.Release x1.1.Pre x1.1.PreNum x1.1.Post x1.1.PostNum x1.1.Dev x1.1.DevNum x1.1.Local)) (fun x2=>some x2)))
theorem pep_Normal_ok (a0:Str):Ct E 11 [bs a0] (pep_Normal a0) (fun r:Str=>bs r):=ct_intro (N:=15) (L:=pep_Normal_c) pep_Normal_k rfl (Nat.le_of_ble_eq_true rfl) (by kernel_rfl) (by
 unfold pep_Normal
 refine jS ⟨[V 0 (bs a0)],[],0⟩ ?_
 refine jR ?_
 refine jG 0 1 ⟨[V 6 (bs a0)],[],0⟩ ?_
 refine jK 1 (pep_Parse_ok a0) ?_
 intro x1 h1
 refine jG 2 7 ⟨[V 3 (pt 0 9),V 4 (pt 1 2)],[W 0 9 [bs x1.1.Epoch,.fsl 1 (List.map cS x1.1.Release),.s (.int .u8 x1.1.Pre),bs x1.1.PreNum,bv x1.1.Post,bs x1.1.PostNum,bv x1.1.Dev,bs x1.1.DevNum,.fsl 1 (List.map cS x1.1.Local)],W 1 2 [iv x1.2.Err,iv x1.2.At]],2⟩ ?_
 refine jN ?_
 refine jc_seq ?_
 refine jS ⟨[V 3 (pt 0 9),V 12 (bv (x1.2.Err != 0))],[W 0 9 [bs x1.1.Epoch,.fsl 1 (List.map cS x1.1.Release),.s (.int .u8 x1.1.Pre),bs x1.1.PreNum,bv x1.1.Post,bs x1.1.PostNum,bv x1.1.Dev,bs x1.1.DevNum,.fsl 1 (List.map cS x1.1.Local)]],2⟩ ?_
 refine jIf ?_ ?_
 ·refine jS ⟨[V 2 (bs [])],[],2⟩ ?_
  refine jc_ret ?_
  refine jx_seqR ?_
  exact jx_retF (.inr rfl) (v:=bs []) (by kernel_rfl) rfl (fle_refl _)
 refine jc_skip ?_
 refine jx_seqN ?_
 refine jR ?_
 refine jG 0 1 ⟨[V 13 (.agg [bs x1.1.Epoch,.fsl 1 (List.map cS x1.1.Release),.s (.int .u8 x1.1.Pre),bs x1.1.PreNum,bv x1.1.Post,bs x1.1.PostNum,bv x1.1.Dev,bs x1.1.DevNum,.fsl 1 (List.map cS x1.1.Local)])],[],2⟩ ?_
 refine jK 1 (pep_Text_ok (S_api_Pep.mk x1.1.Epoch x1.1.Release x1.1.Pre x1.1.PreNum x1.1.Post x1.1.PostNum x1.1.Dev x1.1.DevNum x1.1.Local)) ?_
 intro x2 h2
 refine jG 2 1 ⟨[V 2 (bs x2)],[],2⟩ ?_
 refine jN ?_
 refine jc_ret ?_
 exact jx_retF (.inr rfl) (v:=bs x2) (by kernel_rfl) rfl (fle_refl _))
abbrev law03_awake_r1:List LO:=[lo 0 (.assign (.const (.bool false))) 4]
abbrev law03_awake_r2:List LO:=[lo 8 (.call ⟨.value (.func 8),#[.const (.string ⟨#[49,46,48,46,120]⟩)],#[9]⟩) 28,lm 7 8 28,lo 9 (.extract (.tmp 7) 0) 24,lo 10 (.extract (.tmp 7) 1) 27,lo 1 (.alloc 24) 0,lo 2 (.alloc 27) 0,ln (.store 24 (.tmp 1) (.tmp 9)) 0,ln (.store 27 (.tmp 2) (.tmp 10)) 0]
abbrev law03_awake_r3:List LO:=[lo 12 (.call ⟨.value (.func 8),#[.const (.string ⟨#[]⟩)],#[9]⟩) 28,lm 11 12 28,lo 13 (.extract (.tmp 11) 0) 24,lo 14 (.extract (.tmp 11) 1) 27,lo 3 (.alloc 24) 0,lo 4 (.alloc 27) 0,ln (.store 24 (.tmp 3) (.tmp 13)) 0,ln (.store 27 (.tmp 4) (.tmp 14)) 0]
abbrev law03_awake_r4:List LO:=[lo 16 (.call ⟨.value (.func 8),#[.const (.string ⟨#[49,46,48,43]⟩)],#[9]⟩) 28,lm 15 16 28,lo 17 (.extract (.tmp 15) 0) 24,lo 18 (.extract (.tmp 15) 1) 27,lo 5 (.alloc 24) 0,lo 6 (.alloc 27) 0,ln (.store 24 (.tmp 5) (.tmp 17)) 0,ln (.store 27 (.tmp 6) (.tmp 18)) 0]
abbrev law03_awake_r5:List LO:=[lo 19 (.call ⟨.value (.func 11),#[.const (.string ⟨#[86,49,46,48,45,65,76,80,72,65,95,50]⟩)],#[9]⟩) 9,lo 20 (.binOp .eql 9 (.tmp 19) (.const (.string ⟨#[49,46,48,97,50]⟩)) 9) 4,lm 21 20 4,lg 22 (.call ⟨.value (.func 11),#[.const (.string ⟨#[49,33,50,45,51]⟩)],#[9]⟩) 9 21 true,lg 23 (.binOp .eql 9 (.tmp 22) (.const (.string ⟨#[49,33,50,46,112,111,115,116,51]⟩)) 9) 4 21 true,lo 24 (.pick (.tmp 21) (.tmp 23) (.const (.bool false))) 4,lm 25 24 4,lg 26 (.call ⟨.value (.func 11),#[.const (.string ⟨#[49,46,48,43,85,98,117,110,116,117,95,48,49]⟩)],#[9]⟩) 9 25 true,lg 27 (.binOp .eql 9 (.tmp 26) (.const (.string ⟨#[49,46,48,43,117,98,117,110,116,117,46,49]⟩)) 9) 4 25 true,lo 28 (.pick (.tmp 25) (.tmp 27) (.const (.bool false))) 4,lm 29 28 4,lg 30 (.call ⟨.value (.func 13),#[.const (.string ⟨#[49,46,48]⟩),.const (.string ⟨#[49]⟩)],#[9,9]⟩) 3 29 true,lg 31 (.binOp .eql 3 (.tmp 30) (.const (.int .i64 0)) 3) 4 29 true,lo 32 (.pick (.tmp 29) (.tmp 31) (.const (.bool false))) 4,lm 33 32 4,lg 34 (.call ⟨.value (.func 13),#[.const (.string ⟨#[49,46,48,46,100,101,118,49]⟩),.const (.string ⟨#[49,46,48,97,49,46,100,101,118,49]⟩)],#[9,9]⟩) 3 33 true,lg 35 (.binOp .eql 3 (.tmp 34) (.const (.int .i64 (-1))) 3) 4 33 true,lo 36 (.pick (.tmp 33) (.tmp 35) (.const (.bool false))) 4,lm 37 36 4,lg 38 (.call ⟨.value (.func 13),#[.const (.string ⟨#[49,46,48,43,49]⟩),.const (.string ⟨#[49,46,48,46,112,111,115,116,49]⟩)],#[9,9]⟩) 3 37 true,lg 39 (.binOp .eql 3 (.tmp 38) (.const (.int .i64 (-1))) 3) 4 37 true,lo 40 (.pick (.tmp 37) (.tmp 39) (.const (.bool false))) 4,lm 41 40 4,lg 42 (.load 27 (.tmp 2)) 27 41 true,lg 43 (.build 27 #[(0,.const (.int .i64 10)),(1,.const (.int .i64 3))]) 27 41 true,lg 44 (.binOp .eql 27 (.tmp 42) (.tmp 43) 27) 4 41 true,lo 45 (.pick (.tmp 41) (.tmp 44) (.const (.bool false))) 4,lm 46 45 4,lg 47 (.load 27 (.tmp 4)) 27 46 true,lg 48 (.build 27 #[(0,.const (.int .i64 11))]) 27 46 true,lg 49 (.binOp .eql 27 (.tmp 47) (.tmp 48) 27) 4 46 true,lo 50 (.pick (.tmp 46) (.tmp 49) (.const (.bool false))) 4,lm 51 50 4,lg 52 (.load 27 (.tmp 6)) 27 51 true,lg 53 (.build 27 #[(0,.const (.int .i64 11)),(1,.const (.int .i64 4))]) 27 51 true,lg 54 (.binOp .eql 27 (.tmp 52) (.tmp 53) 27) 4 51 true,lo 55 (.pick (.tmp 51) (.tmp 54) (.const (.bool false))) 4,lo 0 (.assign (.tmp 55)) 4]
abbrev law03_awake_c:LC:=.seq (.reg false law03_awake_r1) (.seq (.reg false law03_awake_r2) (.seq (.reg false law03_awake_r3) (.seq (.reg false law03_awake_r4) (.seq (.reg false law03_awake_r5) .ret))))
theorem law03_awake_k:FnOk E 15 56 [.tmp 0] law03_awake_c:=⟨⟨Go.Proofs.Tryz.f15,by kernel_rfl,by kernel_rfl,by kernel_rfl,by kernel_rfl,by kernel_rfl⟩,rfl,rfl⟩
noncomputable def law03_awake:Option (Bool):=Option.bind (pep_Parse [49,46,48,46,120]) (fun x1=>Option.bind (pep_Parse []) (fun x2=>Option.bind (pep_Parse [49,46,48,43]) (fun x3=>Option.bind (pep_Normal [86,49,46,48,45,65,76,80,72,65,95,50]) (fun x4=>Option.bind (if (x4 == [49,46,48,97,50])=true then Option.bind (pep_Normal [49,33,50,45,51]) (fun x7=>some (x7 == [49,33,50,46,112,111,115,116,51])) else some false:Option (Bool)) (fun x6=>Option.bind (if x6=true then Option.bind (pep_Normal [49,46,48,43,85,98,117,110,116,117,95,48,49]) (fun x10=>some (x10 == [49,46,48,43,117,98,117,110,116,117,46,49])) else some false:Option (Bool)) (fun x9=>Option.bind (if x9=true then Option.bind (pep_Compare [49,46,48] [49]) (fun x13=>some (x13 == 0)) else some false:Option (Bool)) (fun x12=>Option.bind (if x12=true then Option.bind (pep_Compare [49,46,48,46,100,101,118,49] [49,46,48,97,49,46,100,101,118,49]) (fun x16=>some (x16 == (-1))) else some false:Option (Bool)) (fun x15=>Option.bind (if x15=true then Option.bind (pep_Compare [49,46,48,43,49] [49,46,48,46,112,111,115,116,49]) (fun x19=>some (x19 == (-1))) else some false:Option (Bool)) (fun x18=>some (((x18 && ((x1.2.Err == 10) && (x1.2.At == 3))) && ((x2.2.Err == 11) && (x2.2.At == 0))) && ((x3.2.Err == 11) && (x3.2.At == 4))))))))))))
theorem law03_awake_ok:Ct E 15 [] (law03_awake) (fun r:Bool=>bv r):=ct_intro (N:=56) (L:=law03_awake_c) law03_awake_k rfl (Nat.le_of_ble_eq_true rfl) (by kernel_rfl) (by
 unfold law03_awake
 refine jS ⟨[],[],0⟩ ?_
 refine jR ?_
 refine jK 0 (pep_Parse_ok [49,46,48,46,120]) ?_
 intro x1 h1
 refine jG 1 7 ⟨[V 2 (pt 1 2)],[W 1 2 [iv x1.2.Err,iv x1.2.At]],2⟩ ?_
 refine jN ?_
 refine jR ?_
 refine jK 0 (pep_Parse_ok []) ?_
 intro x2 h2
 refine jG 1 7 ⟨[V 2 (pt 1 2),V 4 (pt 3 2)],[W 1 2 [iv x1.2.Err,iv x1.2.At],W 3 2 [iv x2.2.Err,iv x2.2.At]],4⟩ ?_
 refine jN ?_
 refine jR ?_
 refine jK 0 (pep_Parse_ok [49,46,48,43]) ?_
 intro x3 h3
 refine jG 1 7 ⟨[V 2 (pt 1 2),V 4 (pt 3 2),V 6 (pt 5 2)],[W 1 2 [iv x1.2.Err,iv x1.2.At],W 3 2 [iv x2.2.Err,iv x2.2.At],W 5 2 [iv x3.2.Err,iv x3.2.At]],6⟩ ?_
 refine jN ?_
 refine jR ?_
 refine jK 0 (pep_Normal_ok [86,49,46,48,45,65,76,80,72,65,95,50]) ?_
 intro x4 h4
 refine jG 1 2 ⟨[V 2 (pt 1 2),V 4 (pt 3 2),V 6 (pt 5 2),V 21 (bv (x4 == [49,46,48,97,50]))],[W 1 2 [iv x1.2.Err,iv x1.2.At],W 3 2 [iv x2.2.Err,iv x2.2.At],W 5 2 [iv x3.2.Err,iv x3.2.At]],6⟩ ?_
 refine jr_bind 3 3 (fun x6=>⟨[V 2 (pt 0 2),V 4 (pt 1 2),V 6 (pt 2 2),V 24 (bv x6)],[W 0 2 [iv x1.2.Err,iv x1.2.At],W 1 2 [iv x2.2.Err,iv x2.2.At],W 2 2 [iv x3.2.Err,iv x3.2.At]],3⟩) ?_ ?_
 ·refine jSp 21 ?_ ?_
  ·refine jK 0 (pep_Normal_ok [49,33,50,45,51]) ?_
   intro x7 h7
   refine jG 1 2 ⟨[V 2 (pt 1 2),V 4 (pt 3 2),V 6 (pt 5 2),V 24 (bv (x7 == [49,33,50,46,112,111,115,116,51]))],[W 1 2 [iv x1.2.Err,iv x1.2.At],W 3 2 [iv x2.2.Err,iv x2.2.At],W 5 2 [iv x3.2.Err,iv x3.2.At]],6⟩ ?_
   refine jr_nil rfl ?_
   exact jx_mid rfl (wkR [(0,some 1),(1,some 3),(2,some 5)] (fix_nil _) (pc (hC 1) (pc (hC 3) (pc (hC 5) allp_nil))))
  refine jG 0 3 ⟨[V 2 (pt 1 2),V 4 (pt 3 2),V 6 (pt 5 2),V 24 (bv false)],[W 1 2 [iv x1.2.Err,iv x1.2.At],W 3 2 [iv x2.2.Err,iv x2.2.At],W 5 2 [iv x3.2.Err,iv x3.2.At]],6⟩ ?_
  refine jr_nil rfl ?_
  exact jx_mid rfl (wkR [(0,some 1),(1,some 3),(2,some 5)] (fix_nil _) (pc (hC 1) (pc (hC 3) (pc (hC 5) allp_nil))))
 intro x6
 refine jG 6 1 ⟨[V 2 (pt 0 2),V 4 (pt 1 2),V 6 (pt 2 2),V 25 (bv x6)],[W 0 2 [iv x1.2.Err,iv x1.2.At],W 1 2 [iv x2.2.Err,iv x2.2.At],W 2 2 [iv x3.2.Err,iv x3.2.At]],3⟩ ?_
 refine jr_bind 7 3 (fun x9=>⟨[V 2 (pt 0 2),V 4 (pt 1 2),V 6 (pt 2 2),V 28 (bv x9)],[W 0 2 [iv x1.2.Err,iv x1.2.At],W 1 2 [iv x2.2.Err,iv x2.2.At],W 2 2 [iv x3.2.Err,iv x3.2.At]],3⟩) ?_ ?_
 ·refine jSp 25 ?_ ?_
  ·refine jK 0 (pep_Normal_ok [49,46,48,43,85,98,117,110,116,117,95,48,49]) ?_
   intro x10 h10
   refine jG 1 2 ⟨[V 2 (pt 0 2),V 4 (pt 1 2),V 6 (pt 2 2),V 28 (bv (x10 == [49,46,48,43,117,98,117,110,116,117,46,49]))],[W 0 2 [iv x1.2.Err,iv x1.2.At],W 1 2 [iv x2.2.Err,iv x2.2.At],W 2 2 [iv x3.2.Err,iv x3.2.At]],3⟩ ?_
   refine jr_nil rfl ?_
   exact jx_mid rfl (wkR [(0,some 0),(1,some 1),(2,some 2)] (fix_nil _) (pc (hC 0) (pc (hC 1) (pc (hC 2) allp_nil))))
  refine jG 0 3 ⟨[V 2 (pt 0 2),V 4 (pt 1 2),V 6 (pt 2 2),V 28 (bv false)],[W 0 2 [iv x1.2.Err,iv x1.2.At],W 1 2 [iv x2.2.Err,iv x2.2.At],W 2 2 [iv x3.2.Err,iv x3.2.At]],3⟩ ?_
  refine jr_nil rfl ?_
  exact jx_mid rfl (wkR [(0,some 0),(1,some 1),(2,some 2)] (fix_nil _) (pc (hC 0) (pc (hC 1) (pc (hC 2) allp_nil))))
 intro x9
 refine jG 10 1 ⟨[V 2 (pt 0 2),V 4 (pt 1 2),V 6 (pt 2 2),V 29 (bv x9)],[W 0 2 [iv x1.2.Err,iv x1.2.At],W 1 2 [iv x2.2.Err,iv x2.2.At],W 2 2 [iv x3.2.Err,iv x3.2.At]],3⟩ ?_
 refine jr_bind 11 3 (fun x12=>⟨[V 2 (pt 0 2),V 4 (pt 1 2),V 6 (pt 2 2),V 32 (bv x12)],[W 0 2 [iv x1.2.Err,iv x1.2.At],W 1 2 [iv x2.2.Err,iv x2.2.At],W 2 2 [iv x3.2.Err,iv x3.2.At]],3⟩) ?_ ?_
 ·refine jSp 29 ?_ ?_
  ·refine jK 0 (pep_Compare_ok [49,46,48] [49]) ?_
   intro x13 h13
   refine jG 1 2 ⟨[V 2 (pt 0 2),V 4 (pt 1 2),V 6 (pt 2 2),V 32 (bv (x13 == 0))],[W 0 2 [iv x1.2.Err,iv x1.2.At],W 1 2 [iv x2.2.Err,iv x2.2.At],W 2 2 [iv x3.2.Err,iv x3.2.At]],3⟩ ?_
   refine jr_nil rfl ?_
   exact jx_mid rfl (wkR [(0,some 0),(1,some 1),(2,some 2)] (fix_nil _) (pc (hC 0) (pc (hC 1) (pc (hC 2) allp_nil))))
  refine jG 0 3 ⟨[V 2 (pt 0 2),V 4 (pt 1 2),V 6 (pt 2 2),V 32 (bv false)],[W 0 2 [iv x1.2.Err,iv x1.2.At],W 1 2 [iv x2.2.Err,iv x2.2.At],W 2 2 [iv x3.2.Err,iv x3.2.At]],3⟩ ?_
  refine jr_nil rfl ?_
  exact jx_mid rfl (wkR [(0,some 0),(1,some 1),(2,some 2)] (fix_nil _) (pc (hC 0) (pc (hC 1) (pc (hC 2) allp_nil))))
 intro x12
 refine jG 14 1 ⟨[V 2 (pt 0 2),V 4 (pt 1 2),V 6 (pt 2 2),V 33 (bv x12)],[W 0 2 [iv x1.2.Err,iv x1.2.At],W 1 2 [iv x2.2.Err,iv x2.2.At],W 2 2 [iv x3.2.Err,iv x3.2.At]],3⟩ ?_
 refine jr_bind 15 3 (fun x15=>⟨[V 2 (pt 0 2),V 4 (pt 1 2),V 6 (pt 2 2),V 36 (bv x15)],[W 0 2 [iv x1.2.Err,iv x1.2.At],W 1 2 [iv x2.2.Err,iv x2.2.At],W 2 2 [iv x3.2.Err,iv x3.2.At]],3⟩) ?_ ?_
 ·refine jSp 33 ?_ ?_
  ·refine jK 0 (pep_Compare_ok [49,46,48,46,100,101,118,49] [49,46,48,97,49,46,100,101,118,49]) ?_
   intro x16 h16
   refine jG 1 2 ⟨[V 2 (pt 0 2),V 4 (pt 1 2),V 6 (pt 2 2),V 36 (bv (x16 == (-1)))],[W 0 2 [iv x1.2.Err,iv x1.2.At],W 1 2 [iv x2.2.Err,iv x2.2.At],W 2 2 [iv x3.2.Err,iv x3.2.At]],3⟩ ?_
   refine jr_nil rfl ?_
   exact jx_mid rfl (wkR [(0,some 0),(1,some 1),(2,some 2)] (fix_nil _) (pc (hC 0) (pc (hC 1) (pc (hC 2) allp_nil))))
  refine jG 0 3 ⟨[V 2 (pt 0 2),V 4 (pt 1 2),V 6 (pt 2 2),V 36 (bv false)],[W 0 2 [iv x1.2.Err,iv x1.2.At],W 1 2 [iv x2.2.Err,iv x2.2.At],W 2 2 [iv x3.2.Err,iv x3.2.At]],3⟩ ?_
  refine jr_nil rfl ?_
  exact jx_mid rfl (wkR [(0,some 0),(1,some 1),(2,some 2)] (fix_nil _) (pc (hC 0) (pc (hC 1) (pc (hC 2) allp_nil))))
 intro x15
 refine jG 18 1 ⟨[V 2 (pt 0 2),V 4 (pt 1 2),V 6 (pt 2 2),V 37 (bv x15)],[W 0 2 [iv x1.2.Err,iv x1.2.At],W 1 2 [iv x2.2.Err,iv x2.2.At],W 2 2 [iv x3.2.Err,iv x3.2.At]],3⟩ ?_
 refine jr_bind 19 3 (fun x18=>⟨[V 2 (pt 0 2),V 4 (pt 1 2),V 6 (pt 2 2),V 40 (bv x18)],[W 0 2 [iv x1.2.Err,iv x1.2.At],W 1 2 [iv x2.2.Err,iv x2.2.At],W 2 2 [iv x3.2.Err,iv x3.2.At]],3⟩) ?_ ?_
 ·refine jSp 37 ?_ ?_
  ·refine jK 0 (pep_Compare_ok [49,46,48,43,49] [49,46,48,46,112,111,115,116,49]) ?_
   intro x19 h19
   refine jG 1 2 ⟨[V 2 (pt 0 2),V 4 (pt 1 2),V 6 (pt 2 2),V 40 (bv (x19 == (-1)))],[W 0 2 [iv x1.2.Err,iv x1.2.At],W 1 2 [iv x2.2.Err,iv x2.2.At],W 2 2 [iv x3.2.Err,iv x3.2.At]],3⟩ ?_
   refine jr_nil rfl ?_
   exact jx_mid rfl (wkR [(0,some 0),(1,some 1),(2,some 2)] (fix_nil _) (pc (hC 0) (pc (hC 1) (pc (hC 2) allp_nil))))
  refine jG 0 3 ⟨[V 2 (pt 0 2),V 4 (pt 1 2),V 6 (pt 2 2),V 40 (bv false)],[W 0 2 [iv x1.2.Err,iv x1.2.At],W 1 2 [iv x2.2.Err,iv x2.2.At],W 2 2 [iv x3.2.Err,iv x3.2.At]],3⟩ ?_
  refine jr_nil rfl ?_
  exact jx_mid rfl (wkR [(0,some 0),(1,some 1),(2,some 2)] (fix_nil _) (pc (hC 0) (pc (hC 1) (pc (hC 2) allp_nil))))
 intro x18
 refine jG 22 16 ⟨[V 0 (bv (((x18 && ((x1.2.Err == 10) && (x1.2.At == 3))) && ((x2.2.Err == 11) && (x2.2.At == 0))) && ((x3.2.Err == 11) && (x3.2.At == 4))))],[],3⟩ ?_
 refine jN ?_
 refine jc_ret ?_
 exact jx_retF (.inr rfl) (v:=bv (((x18 && ((x1.2.Err == 10) && (x1.2.At == 3))) && ((x2.2.Err == 11) && (x2.2.At == 0))) && ((x3.2.Err == 11) && (x3.2.At == 4)))) (by kernel_rfl) rfl (fle_refl _))
abbrev ref03_number_r1:List LO:=[lo 2 (.assign (.const (.bool false))) 4]
abbrev ref03_number_r2:List LO:=[lm 3 0 9,lo 4 (.binOp .neq 9 (.tmp 3) (.const (.string ⟨#[]⟩)) 9) 4,lm 5 4 4,lmg 6 0 9 5 true,lg 7 (.call ⟨.value (.func 44),#[.tmp 6,.const (.int .i64 0),.const (.int .i64 1)],#[9,3,3]⟩) 3 5 true,lmg 8 0 9 5 true,lg 9 (.call ⟨.builtin .len,#[.tmp 8],#[9]⟩) 3 5 true,lg 10 (.binOp .eql 3 (.tmp 7) (.tmp 9) 3) 4 5 true,lo 11 (.pick (.tmp 5) (.tmp 10) (.const (.bool false))) 4,lm 12 11 4,lmg 13 0 9 12 true,lg 14 (.call ⟨.value (.func 98),#[.tmp 13],#[9]⟩) 9 12 true,lmg 15 0 9 12 true,lg 16 (.binOp .eql 9 (.tmp 14) (.tmp 15) 9) 4 12 true,lo 17 (.pick (.tmp 12) (.tmp 16) (.const (.bool false))) 4,lo 2 (.assign (.tmp 17)) 4]
abbrev ref03_number_c:LC:=.seq (.reg false ref03_number_r1) (.seq (.reg false ref03_number_r2) .ret)
theorem ref03_number_k:FnOk E 61 18 [.tmp 2] ref03_number_c:=⟨⟨Go.Proofs.Tryz.f61,by kernel_rfl,by kernel_rfl,by kernel_rfl,by kernel_rfl,by kernel_rfl⟩,rfl,rfl⟩
noncomputable def ref03_number (a0:Str):Option (Bool):=Option.bind (if (!(a0 == []))=true then Option.bind (ref01_Run a0 0 1) (fun x3=>some (x3 == (List.length a0:Int))) else some false:Option (Bool)) (fun x2=>Option.bind (if x2=true then Option.bind (ref01_Trim a0) (fun x6=>some (x6 == a0)) else some false:Option (Bool)) (fun x5=>some x5))
theorem ref03_number_ok (a0:Str):Ct E 61 [bs a0] (ref03_number a0) (fun r:Bool=>bv r):=ct_intro (N:=18) (L:=ref03_number_c) ref03_number_k rfl (Nat.le_of_ble_eq_true rfl) (by kernel_rfl) (by
 unfold ref03_number
 refine jS ⟨[V 0 (bs a0)],[],0⟩ ?_
 refine jR ?_
 refine jG 0 3 ⟨[V 0 (bs a0),V 5 (bv (!(a0 == [])))],[],0⟩ ?_
 refine jr_bind 3 6 (fun x2=>⟨[V 0 (bs a0),V 11 (bv x2)],[],0⟩) ?_ ?_
 ·refine jSp 5 ?_ ?_
  ·refine jG 0 1 ⟨[V 0 (bs a0),(5,.lit true),V 6 (bs a0)],[],0⟩ ?_
   refine jK 1 (ref01_Run_ok a0 0 1) ?_
   intro x3 h3
   refine jG 2 4 ⟨[V 0 (bs a0),V 11 (bv (x3 == (List.length a0:Int)))],[],0⟩ ?_
   refine jr_nil rfl ?_
   exact jx_mid rfl (wkR [] (fix_nil _) allp_nil)
  refine jG 0 6 ⟨[V 0 (bs a0),V 11 (bv false)],[],0⟩ ?_
  refine jr_nil rfl ?_
  exact jx_mid rfl (wkR [] (fix_nil _) allp_nil)
 intro x2
 refine jG 9 1 ⟨[V 0 (bs a0),V 12 (bv x2)],[],0⟩ ?_
 refine jr_bind 10 5 (fun x5=>⟨[V 17 (bv x5)],[],0⟩) ?_ ?_
 ·refine jSp 12 ?_ ?_
  ·refine jG 0 1 ⟨[V 0 (bs a0),(12,.lit true),V 13 (bs a0)],[],0⟩ ?_
   refine jK 1 (ref01_Trim_ok a0) ?_
   intro x6 h6
   refine jG 2 3 ⟨[V 17 (bv (x6 == a0))],[],0⟩ ?_
   refine jr_nil rfl ?_
   exact jx_mid rfl (wkR [] (fix_nil _) allp_nil)
  refine jG 0 5 ⟨[V 17 (bv false)],[],0⟩ ?_
  refine jr_nil rfl ?_
  exact jx_mid rfl (wkR [] (fix_nil _) allp_nil)
 intro x5
 refine jG 15 1 ⟨[V 2 (bv x5)],[],0⟩ ?_
 refine jN ?_
 refine jc_ret ?_
 exact jx_retF (.inr rfl) (v:=bv x5) (by kernel_rfl) rfl (fle_refl _))
abbrev ref03_part_r1:List LO:=[lo 2 (.assign (.const (.bool false))) 4]
abbrev ref03_part_r2:List LO:=[lm 3 0 9,lo 4 (.binOp .eql 9 (.tmp 3) (.const (.string ⟨#[]⟩)) 9) 4,lm 5 4 4,lmg 6 0 9 5 false,lg 7 (.call ⟨.value (.func 44),#[.tmp 6,.const (.int .i64 0),.const (.int .i64 5)],#[9,3,3]⟩) 3 5 false,lmg 8 0 9 5 false,lg 9 (.call ⟨.builtin .len,#[.tmp 8],#[9]⟩) 3 5 false,lg 10 (.binOp .neq 3 (.tmp 7) (.tmp 9) 3) 4 5 false,lo 11 (.pick (.tmp 5) (.const (.bool true)) (.tmp 10)) 4,lm 12 11 4,lmg 13 0 9 12 false,lg 14 (.call ⟨.value (.func 43),#[.tmp 13],#[9]⟩) 9 12 false,lmg 15 0 9 12 false,lg 16 (.binOp .neq 9 (.tmp 14) (.tmp 15) 9) 4 12 false,lo 17 (.pick (.tmp 12) (.const (.bool true)) (.tmp 16)) 4]
abbrev ref03_part_r3:List LO:=[lo 2 (.assign (.const (.bool false))) 4]
abbrev ref03_part_r4:List LO:=[lm 18 0 9,lo 19 (.call ⟨.value (.func 44),#[.tmp 18,.const (.int .i64 0),.const (.int .i64 1)],#[9,3,3]⟩) 3,lm 20 0 9,lo 21 (.call ⟨.builtin .len,#[.tmp 20],#[9]⟩) 3,lo 22 (.binOp .neq 3 (.tmp 19) (.tmp 21) 3) 4,lm 23 22 4,lmg 24 0 9 23 false,lg 25 (.call ⟨.value (.func 98),#[.tmp 24],#[9]⟩) 9 23 false,lmg 26 0 9 23 false,lg 27 (.binOp .eql 9 (.tmp 25) (.tmp 26) 9) 4 23 false,lo 28 (.pick (.tmp 23) (.const (.bool true)) (.tmp 27)) 4,lo 2 (.assign (.tmp 28)) 4]
abbrev ref03_part_c:LC:=.seq (.reg false ref03_part_r1) (.seq (.seq (.reg false ref03_part_r2) (.cond (.tmp 17) (.seq (.reg false ref03_part_r3) .ret) .skip)) (.seq (.reg false ref03_part_r4) .ret))
theorem ref03_part_k:FnOk E 62 29 [.tmp 2] ref03_part_c:=⟨⟨Go.Proofs.Tryz.f62,by kernel_rfl,by kernel_rfl,by kernel_rfl,by kernel_rfl,by kernel_rfl⟩,rfl,rfl⟩
noncomputable def ref03_part (a0:Str):Option (Bool):=Option.bind (if (a0 == [])=true then some true else Option.bind (ref01_Run a0 0 5) (fun x3=>some (x3 != (List.length a0:Int))):Option (Bool)) (fun x2=>Option.bind (if x2=true then some true else Option.bind (ref01_Lower a0) (fun x6=>some (!(x6 == a0))):Option (Bool)) (fun x5=>(if x5=true then some false else Option.bind (ref01_Run a0 0 1) (fun x7=>Option.bind (if (x7 != (List.length a0:Int))=true then some true else Option.bind (ref01_Trim a0) (fun x10=>some (x10 == a0)):Option (Bool)) (fun x9=>some x9)))))
theorem ref03_part_ok (a0:Str):Ct E 62 [bs a0] (ref03_part a0) (fun r:Bool=>bv r):=ct_intro (N:=29) (L:=ref03_part_c) ref03_part_k rfl (Nat.le_of_ble_eq_true rfl) (by kernel_rfl) (by
 unfold ref03_part
 refine jS ⟨[V 0 (bs a0)],[],0⟩ ?_
 refine jc_seq ?_
 refine jR ?_
 refine jG 0 3 ⟨[V 0 (bs a0),V 5 (bv (a0 == []))],[],0⟩ ?_
 refine jr_bind 3 6 (fun x2=>⟨[V 0 (bs a0),V 11 (bv x2)],[],0⟩) ?_ ?_
 ·refine jSp 5 ?_ ?_
  ·refine jG 0 6 ⟨[V 0 (bs a0),V 11 (bv true)],[],0⟩ ?_
   refine jr_nil rfl ?_
   exact jx_mid rfl (wkR [] (fix_nil _) allp_nil)
  refine jG 0 1 ⟨[V 0 (bs a0),(5,.lit false),V 6 (bs a0)],[],0⟩ ?_
  refine jK 1 (ref01_Run_ok a0 0 5) ?_
  intro x3 h3
  refine jG 2 4 ⟨[V 0 (bs a0),V 11 (bv (x3 != (List.length a0:Int)))],[],0⟩ ?_
  refine jr_nil rfl ?_
  exact jx_mid rfl (wkR [] (fix_nil _) allp_nil)
 intro x2
 refine jG 9 1 ⟨[V 0 (bs a0),V 12 (bv x2)],[],0⟩ ?_
 refine jr_bind 10 5 (fun x5=>⟨[V 0 (bs a0),V 17 (bv x5)],[],0⟩) ?_ ?_
 ·refine jSp 12 ?_ ?_
  ·refine jG 0 5 ⟨[V 0 (bs a0),V 17 (bv true)],[],0⟩ ?_
   refine jr_nil rfl ?_
   exact jx_mid rfl (wkR [] (fix_nil _) allp_nil)
  refine jG 0 1 ⟨[V 0 (bs a0),(12,.lit false),V 13 (bs a0)],[],0⟩ ?_
  refine jK 1 (ref01_Lower_ok a0) ?_
  intro x6 h6
  refine jG 2 3 ⟨[V 0 (bs a0),V 17 (bv (!(x6 == a0)))],[],0⟩ ?_
  refine jr_nil rfl ?_
  exact jx_mid rfl (wkR [] (fix_nil _) allp_nil)
 intro x5
 refine jN ?_
 refine jIf ?_ ?_
 ·refine jS ⟨[V 2 (bv false)],[],0⟩ ?_
  refine jc_ret ?_
  refine jx_seqR ?_
  exact jx_retF (.inr rfl) (v:=bv false) (by kernel_rfl) rfl (fle_refl _)
 refine jc_skip ?_
 refine jx_seqN ?_
 refine jR ?_
 refine jG 0 1 ⟨[V 0 (bs a0),V 18 (bs a0)],[],0⟩ ?_
 refine jK 1 (ref01_Run_ok a0 0 1) ?_
 intro x7 h7
 refine jG 2 4 ⟨[V 0 (bs a0),V 23 (bv (x7 != (List.length a0:Int)))],[],0⟩ ?_
 refine jr_bind 6 5 (fun x9=>⟨[V 28 (bv x9)],[],0⟩) ?_ ?_
 ·refine jSp 23 ?_ ?_
  ·refine jG 0 5 ⟨[V 28 (bv true)],[],0⟩ ?_
   refine jr_nil rfl ?_
   exact jx_mid rfl (wkR [] (fix_nil _) allp_nil)
  refine jG 0 1 ⟨[V 0 (bs a0),(23,.lit false),V 24 (bs a0)],[],0⟩ ?_
  refine jK 1 (ref01_Trim_ok a0) ?_
  intro x10 h10
  refine jG 2 3 ⟨[V 28 (bv (x10 == a0))],[],0⟩ ?_
  refine jr_nil rfl ?_
  exact jx_mid rfl (wkR [] (fix_nil _) allp_nil)
 intro x9
 refine jG 11 1 ⟨[V 2 (bv x9)],[],0⟩ ?_
 refine jN ?_
 refine jc_ret ?_
 exact jx_retF (.inr rfl) (v:=bv x9) (by kernel_rfl) rfl (fle_refl _))
abbrev ref03_asked_r1:List LO:=[lo 4 (.assign (.const (.bool false))) 4]
abbrev ref03_asked_r2:List LO:=[lm 5 0 4]
abbrev ref03_asked_r3:List LO:=[lm 6 1 9,lo 7 (.call ⟨.value (.func 61),#[.tmp 6],#[9]⟩) 4,lo 4 (.assign (.tmp 7)) 4]
abbrev ref03_asked_r4:List LO:=[lm 8 1 9,lo 9 (.binOp .eql 9 (.tmp 8) (.const (.string ⟨#[]⟩)) 9) 4,lo 4 (.assign (.tmp 9)) 4]
abbrev ref03_asked_c:LC:=.seq (.reg false ref03_asked_r1) (.seq (.seq (.reg false ref03_asked_r2) (.cond (.tmp 5) (.seq (.reg false ref03_asked_r3) .ret) .skip)) (.seq (.reg false ref03_asked_r4) .ret))
theorem ref03_asked_k:FnOk E 63 10 [.tmp 4] ref03_asked_c:=⟨⟨Go.Proofs.Tryz.f63,by kernel_rfl,by kernel_rfl,by kernel_rfl,by kernel_rfl,by kernel_rfl⟩,rfl,rfl⟩
noncomputable def ref03_asked (a0:Bool) (a1:Str):Option (Bool):=(if a0=true then Option.bind (ref03_number a1) (fun x1=>some x1) else some (a1 == []))
theorem ref03_asked_ok (a0:Bool) (a1:Str):Ct E 63 [bv a0,bs a1] (ref03_asked a0 a1) (fun r:Bool=>bv r):=ct_intro (N:=10) (L:=ref03_asked_c) ref03_asked_k rfl (Nat.le_of_ble_eq_true rfl) (by kernel_rfl) (by
 unfold ref03_asked
 refine jS ⟨[V 0 (bv a0),V 1 (bs a1)],[],0⟩ ?_
 refine jc_seq ?_
 refine jS ⟨[V 1 (bs a1),V 5 (bv a0)],[],0⟩ ?_
 refine jIf ?_ ?_
 ·refine jR ?_
  refine jG 0 1 ⟨[V 6 (bs a1)],[],0⟩ ?_
  refine jK 1 (ref03_number_ok a1) ?_
  intro x1 h1
  refine jG 2 1 ⟨[V 4 (bv x1)],[],0⟩ ?_
  refine jN ?_
  refine jc_ret ?_
  refine jx_seqR ?_
  exact jx_retF (.inr rfl) (v:=bv x1) (by kernel_rfl) rfl (fle_refl _)
 refine jc_skip ?_
 refine jx_seqN ?_
 refine jS ⟨[V 4 (bv (a1 == []))],[],0⟩ ?_
 refine jc_ret ?_
 exact jx_retF (.inr rfl) (v:=bv (a1 == [])) (by kernel_rfl) rfl (fle_refl _))
abbrev ref03_Fit_r1:List LO:=[lo 1 (.box 24 (.tmp 0)) 0,lo 2 (.assign (.const (.bool false))) 4]
abbrev ref03_Fit_r2:List LO:=[lo 5 (.fieldAddr 24 (.tmp 1) 0) 0,lo 6 (.load 9 (.tmp 5)) 9,lo 7 (.call ⟨.value (.func 61),#[.tmp 6],#[9]⟩) 4,lo 8 (.unOp .not 4 (.tmp 7)) 4,lm 9 8 4,lg 10 (.fieldAddr 24 (.tmp 1) 1) 0 9 false,lg 11 (.load 22 (.tmp 10)) 22 9 false,lg 12 (.call ⟨.builtin .len,#[.tmp 11],#[22]⟩) 3 9 false,lg 13 (.binOp .eql 3 (.tmp 12) (.const (.int .i64 0)) 3) 4 9 false,lo 14 (.pick (.tmp 9) (.const (.bool true)) (.tmp 13)) 4,lm 15 14 4,lg 16 (.fieldAddr 24 (.tmp 1) 2) 0 15 false,lg 17 (.load 5 (.tmp 16)) 5 15 false,lg 18 (.binOp .neq 5 (.tmp 17) (.const (.int .u8 0)) 5) 4 15 false,lmg 19 18 4 15 false,lg 20 (.fieldAddr 24 (.tmp 1) 2) 0 19 true,lg 21 (.load 5 (.tmp 20)) 5 19 true,lg 22 (.binOp .neq 5 (.tmp 21) (.const (.int .u8 97)) 5) 4 19 true,lg 23 (.pick (.tmp 19) (.tmp 22) (.const (.bool false))) 4 15 false,lmg 24 23 4 15 false,lg 25 (.fieldAddr 24 (.tmp 1) 2) 0 24 true,lg 26 (.load 5 (.tmp 25)) 5 24 true,lg 27 (.binOp .neq 5 (.tmp 26) (.const (.int .u8 98)) 5) 4 24 true,lg 28 (.pick (.tmp 24) (.tmp 27) (.const (.bool false))) 4 15 false,lmg 29 28 4 15 false,lg 30 (.fieldAddr 24 (.tmp 1) 2) 0 29 true,lg 31 (.load 5 (.tmp 30)) 5 29 true,lg 32 (.binOp .neq 5 (.tmp 31) (.const (.int .u8 114)) 5) 4 29 true,lg 33 (.pick (.tmp 29) (.tmp 32) (.const (.bool false))) 4 15 false,lo 34 (.pick (.tmp 15) (.const (.bool true)) (.tmp 33)) 4]
abbrev ref03_Fit_r3:List LO:=[lo 2 (.assign (.const (.bool false))) 4]
abbrev ref03_Fit_r4:List LO:=[lo 3 (.assign (.const (.int .i64 0))) 3]
abbrev ref03_Fit_r5:List LO:=[lm 35 3 3,lo 36 (.fieldAddr 24 (.tmp 1) 1) 0,lo 37 (.load 22 (.tmp 36)) 22,lo 38 (.call ⟨.builtin .len,#[.tmp 37],#[22]⟩) 3,lo 39 (.binOp .lss 3 (.tmp 35) (.tmp 38) 3) 4]
abbrev ref03_Fit_r6:List LO:=[lo 42 (.fieldAddr 24 (.tmp 1) 1) 0,lo 43 (.load 22 (.tmp 42)) 22,lm 44 3 3,lo 45 (.indexAddr 22 (.tmp 43) (.tmp 44)) 0,lo 46 (.load 9 (.tmp 45)) 9,lo 47 (.call ⟨.value (.func 61),#[.tmp 46],#[9]⟩) 4,lo 48 (.unOp .not 4 (.tmp 47)) 4]
abbrev ref03_Fit_r7:List LO:=[lo 2 (.assign (.const (.bool false))) 4]
abbrev ref03_Fit_r8:List LO:=[lm 40 3 3,lo 41 (.binOp .add 3 (.tmp 40) (.const (.int .i64 1)) 3) 3,lo 3 (.assign (.tmp 41)) 3]
abbrev ref03_Fit_r9:List LO:=[lo 4 (.assign (.const (.int .i64 0))) 3]
abbrev ref03_Fit_r10:List LO:=[lm 49 4 3,lo 50 (.fieldAddr 24 (.tmp 1) 8) 0,lo 51 (.load 22 (.tmp 50)) 22,lo 52 (.call ⟨.builtin .len,#[.tmp 51],#[22]⟩) 3,lo 53 (.binOp .lss 3 (.tmp 49) (.tmp 52) 3) 4]
abbrev ref03_Fit_r11:List LO:=[lo 56 (.fieldAddr 24 (.tmp 1) 8) 0,lo 57 (.load 22 (.tmp 56)) 22,lm 58 4 3,lo 59 (.indexAddr 22 (.tmp 57) (.tmp 58)) 0,lo 60 (.load 9 (.tmp 59)) 9,lo 61 (.call ⟨.value (.func 62),#[.tmp 60],#[9]⟩) 4,lo 62 (.unOp .not 4 (.tmp 61)) 4]
abbrev ref03_Fit_r12:List LO:=[lo 2 (.assign (.const (.bool false))) 4]
abbrev ref03_Fit_r13:List LO:=[lm 54 4 3,lo 55 (.binOp .add 3 (.tmp 54) (.const (.int .i64 1)) 3) 3,lo 4 (.assign (.tmp 55)) 3]
abbrev ref03_Fit_r14:List LO:=[lo 63 (.fieldAddr 24 (.tmp 1) 2) 0,lo 64 (.load 5 (.tmp 63)) 5,lo 65 (.binOp .neq 5 (.tmp 64) (.const (.int .u8 0)) 5) 4,lo 66 (.fieldAddr 24 (.tmp 1) 3) 0,lo 67 (.load 9 (.tmp 66)) 9,lo 68 (.call ⟨.value (.func 63),#[.tmp 65,.tmp 67],#[4,9]⟩) 4,lm 69 68 4,lg 70 (.fieldAddr 24 (.tmp 1) 4) 0 69 true,lg 71 (.load 4 (.tmp 70)) 4 69 true,lg 72 (.fieldAddr 24 (.tmp 1) 5) 0 69 true,lg 73 (.load 9 (.tmp 72)) 9 69 true,lg 74 (.call ⟨.value (.func 63),#[.tmp 71,.tmp 73],#[4,9]⟩) 4 69 true,lo 75 (.pick (.tmp 69) (.tmp 74) (.const (.bool false))) 4,lm 76 75 4,lg 77 (.fieldAddr 24 (.tmp 1) 6) 0 76 true,lg 78 (.load 4 (.tmp 77)) 4 76 true,lg 79 (.fieldAddr 24 (.tmp 1) 7) 0 76 true,lg 80 (.load 9 (.tmp 79)) 9 76 true,lg 81 (.call ⟨.value (.func 63),#[.tmp 78,.tmp 80],#[4,9]⟩) 4 76 true,lo 82 (.pick (.tmp 76) (.tmp 81) (.const (.bool false))) 4,lo 2 (.assign (.tmp 82)) 4]
abbrev ref03_Fit_c:LC:=.seq (.reg false ref03_Fit_r1) (.seq (.seq (.reg false ref03_Fit_r2) (.cond (.tmp 34) (.seq (.reg false ref03_Fit_r3) .ret) .skip)) (.seq (.seq (.reg false ref03_Fit_r4) (.block 0 (.loop (.seq (.seq (.reg false ref03_Fit_r5) (.cond (.tmp 39) .skip (.exit 0))) (.seq (.block 1 (.seq (.reg false ref03_Fit_r6) (.cond (.tmp 48) (.seq (.reg false ref03_Fit_r7) .ret) .skip))) (.reg false ref03_Fit_r8)))))) (.seq (.seq (.reg false ref03_Fit_r9) (.block 2 (.loop (.seq (.seq (.reg false ref03_Fit_r10) (.cond (.tmp 53) .skip (.exit 2))) (.seq (.block 3 (.seq (.reg false ref03_Fit_r11) (.cond (.tmp 62) (.seq (.reg false ref03_Fit_r12) .ret) .skip))) (.reg false ref03_Fit_r13)))))) (.seq (.reg false ref03_Fit_r14) .ret))))
theorem ref03_Fit_k:FnOk E 18 83 [.tmp 2] ref03_Fit_c:=⟨⟨Go.Proofs.Tryz.f18,by kernel_rfl,by kernel_rfl,by kernel_rfl,by kernel_rfl,by kernel_rfl⟩,rfl,rfl⟩
noncomputable def ref03_Fit_l1 (a0:S_api_Pep):Int→Option (Step (Int) ((Unit) ⊕ (Unit))):=fun x4=>(if (decide (x4 < (List.length a0.Release:Int)))=true then Option.bind (ixl a0.Release x4) (fun x8=>Option.bind (ref03_number x8) (fun x9=>(if (!x9)=true then some (Step.done (Sum.inl ())) else some (Step.next (w64 (x4 + 1)))))) else some (Step.done (Sum.inr ())))
noncomputable def ref03_Fit_l2 (a0:S_api_Pep):Int→Option (Step (Int) ((Unit) ⊕ (Unit))):=fun x12=>(if (decide (x12 < (List.length a0.Local:Int)))=true then Option.bind (ixl a0.Local x12) (fun x16=>Option.bind (ref03_part x16) (fun x17=>(if (!x17)=true then some (Step.done (Sum.inl ())) else some (Step.next (w64 (x12 + 1)))))) else some (Step.done (Sum.inr ())))
noncomputable def ref03_Fit (a0:S_api_Pep):Option (Bool):=Option.bind (ref03_number a0.Epoch) (fun x1=>(if (((!x1) || ((List.length a0.Release:Int) == 0)) || ((((a0.Pre != 0) && (a0.Pre != 97)) && (a0.Pre != 98)) && (a0.Pre != 114)))=true then some false else Option.bind (loopC (ref03_Fit_l1 a0) 0) (fun y=>match y with | Sum.inl _=>some false | Sum.inr _=>Option.bind (loopC (ref03_Fit_l2 a0) 0) (fun y=>match y with | Sum.inl _=>some false | Sum.inr _=>Option.bind (ref03_asked (a0.Pre != 0) a0.PreNum) (fun x18=>Option.bind (if x18=true then Option.bind (ref03_asked a0.Post a0.PostNum) (fun x21=>some x21) else some false:Option (Bool)) (fun x20=>Option.bind (if x20=true then Option.bind (ref03_asked a0.Dev a0.DevNum) (fun x24=>some x24) else some false:Option (Bool)) (fun x23=>some x23)))))))
theorem ref03_Fit_ok (a0:S_api_Pep):Ct E 18 [.agg [bs a0.Epoch,.fsl 1 (List.map cS a0.Release),.s (.int .u8 a0.Pre),bs a0.PreNum,bv a0.Post,bs a0.PostNum,bv a0.Dev,bs a0.DevNum,.fsl 1 (List.map cS a0.Local)]] (ref03_Fit a0) (fun r:Bool=>bv r):=ct_intro (N:=83) (L:=ref03_Fit_c) ref03_Fit_k rfl (Nat.le_of_ble_eq_true rfl) (by kernel_rfl) (by
 unfold ref03_Fit
 refine jS ⟨[V 1 (pt 0 9)],[W 0 9 [bs a0.Epoch,.fsl 1 (List.map cS a0.Release),.s (.int .u8 a0.Pre),bs a0.PreNum,bv a0.Post,bs a0.PostNum,bv a0.Dev,bs a0.DevNum,.fsl 1 (List.map cS a0.Local)]],1⟩ ?_
 refine jc_seq ?_
 refine jR ?_
 refine jG 0 2 ⟨[V 1 (pt 0 9),V 6 (bs a0.Epoch)],[W 0 9 [bs a0.Epoch,.fsl 1 (List.map cS a0.Release),.s (.int .u8 a0.Pre),bs a0.PreNum,bv a0.Post,bs a0.PostNum,bv a0.Dev,bs a0.DevNum,.fsl 1 (List.map cS a0.Local)]],1⟩ ?_
 refine jK 2 (ref03_number_ok a0.Epoch) ?_
 intro x1 h1
 refine jG 3 27 ⟨[V 1 (pt 0 9),V 34 (bv (((!x1) || ((List.length (List.map cS a0.Release):Int) == 0)) || ((((a0.Pre != 0) && (a0.Pre != 97)) && (a0.Pre != 98)) && (a0.Pre != 114))))],[W 0 9 [bs a0.Epoch,.fsl 1 (List.map cS a0.Release),.s (.int .u8 a0.Pre),bs a0.PreNum,bv a0.Post,bs a0.PostNum,bv a0.Dev,bs a0.DevNum,.fsl 1 (List.map cS a0.Local)]],1⟩ ?_
 simp only[List.length_map]
 refine jN ?_
 refine jIf ?_ ?_
 ·refine jS ⟨[V 2 (bv false)],[],1⟩ ?_
  refine jc_ret ?_
  refine jx_seqR ?_
  exact jx_retF (.inr rfl) (v:=bv false) (by kernel_rfl) rfl (fle_refl _)
 refine jc_skip ?_
 refine jx_seqN ?_
 refine jc_seq ?_
 refine jS ⟨[V 1 (pt 0 9),V 3 (iv 0)],[W 0 9 [bs a0.Epoch,.fsl 1 (List.map cS a0.Release),.s (.int .u8 a0.Pre),bs a0.PreNum,bv a0.Post,bs a0.PostNum,bv a0.Dev,bs a0.DevNum,.fsl 1 (List.map cS a0.Local)]],1⟩ ?_
 refine jc_block ?_
 refine jc_bind (fun y=>match y with | Sum.inl _=>⟨[V 2 (bv false)],[],0⟩ | Sum.inr _=>⟨[V 1 (pt 0 9)],[W 0 9 [bs a0.Epoch,.fsl 1 (List.map cS a0.Release),.s (.int .u8 a0.Pre),bs a0.PreNum,bv a0.Post,bs a0.PostNum,bv a0.Dev,bs a0.DevNum,.fsl 1 (List.map cS a0.Local)]],1⟩) (fun y=>match y with | Sum.inl _=>.ret | Sum.inr _=>(.exit 0)) (jc_loop (fun x4=>⟨[V 1 (pt 0 9),V 3 (iv x4)],[W 0 9 [bs a0.Epoch,.fsl 1 (List.map cS a0.Release),.s (.int .u8 a0.Pre),bs a0.PreNum,bv a0.Post,bs a0.PostNum,bv a0.Dev,bs a0.DevNum,.fsl 1 (List.map cS a0.Local)]],1⟩) (wkR [(0,some 0)] (fix_nil _) (pc (hC 0) allp_nil)) ?_) ?_
 ·intro x4
  unfold ref03_Fit_l1
  refine jc_seq ?_
  refine jR ?_
  refine jG 0 5 ⟨[V 1 (pt 0 9),V 3 (iv x4),V 39 (bv (decide (x4 < (List.length (List.map cS a0.Release):Int))))],[W 0 9 [bs a0.Epoch,.fsl 1 (List.map cS a0.Release),.s (.int .u8 a0.Pre),bs a0.PreNum,bv a0.Post,bs a0.PostNum,bv a0.Dev,bs a0.DevNum,.fsl 1 (List.map cS a0.Local)]],1⟩ ?_
  simp only[List.length_map]
  refine jN ?_
  refine jIf ?_ ?_
  ·refine jc_skip ?_
   refine jx_seqN ?_
   refine jc_seq ?_
   refine jc_block ?_
   refine jR ?_
   refine jG 0 3 ⟨[V 1 (pt 0 9),V 3 (iv x4),V 43 (.fsl 1 (List.map cS a0.Release)),V 44 (iv x4)],[W 0 9 [bs a0.Epoch,.fsl 1 (List.map cS a0.Release),.s (.int .u8 a0.Pre),bs a0.PreNum,bv a0.Post,bs a0.PostNum,bv a0.Dev,bs a0.DevNum,.fsl 1 (List.map cS a0.Local)]],1⟩ ?_
   refine jr_part (i:=3) (mo:=ixl a0.Release x4) rfl rfl rfl rfl (fun _ hc=>aop_ixf (c:=cS) (sz:=1) (e:=9) (kk:=.i64) (by kernel_rfl) (by kernel_rfl) (by kernel_rfl) (by kernel_rfl) hc) (fun _=>rfl) ?_
   intro x8 h8
   refine jG 4 1 ⟨[V 1 (pt 0 9),V 3 (iv x4),V 46 (bs x8)],[W 0 9 [bs a0.Epoch,.fsl 1 (List.map cS a0.Release),.s (.int .u8 a0.Pre),bs a0.PreNum,bv a0.Post,bs a0.PostNum,bv a0.Dev,bs a0.DevNum,.fsl 1 (List.map cS a0.Local)]],1⟩ ?_
   refine jK 5 (ref03_number_ok x8) ?_
   intro x9 h9
   refine jG 6 1 ⟨[V 1 (pt 0 9),V 3 (iv x4),V 48 (bv (!x9))],[W 0 9 [bs a0.Epoch,.fsl 1 (List.map cS a0.Release),.s (.int .u8 a0.Pre),bs a0.PreNum,bv a0.Post,bs a0.PostNum,bv a0.Dev,bs a0.DevNum,.fsl 1 (List.map cS a0.Local)]],1⟩ ?_
   refine jN ?_
   refine jIf ?_ ?_
   ·refine jS ⟨[V 2 (bv false)],[],1⟩ ?_
    refine jc_ret ?_
    refine jx_blkR ?_
    refine jx_seqR ?_
    exact jx_done rfl nofun (wkR [] (fix_nil _) allp_nil)
   refine jc_skip ?_
   refine jx_blkN ?_
   refine jx_seqN ?_
   refine jT ⟨[V 1 (pt 0 9),V 3 (iv (w64 (x4 + 1)))],[W 0 9 [bs a0.Epoch,.fsl 1 (List.map cS a0.Release),.s (.int .u8 a0.Pre),bs a0.PreNum,bv a0.Post,bs a0.PostNum,bv a0.Dev,bs a0.DevNum,.fsl 1 (List.map cS a0.Local)]],1⟩ ?_
   exact jx_next (wkR [(0,some 0)] (fix_nil _) (pc (hC 0) allp_nil))
  refine jc_exit ?_
  refine jx_seqE ?_
  exact jx_done rfl nofun (wkR [(0,some 0)] (fix_nil _) (pc (hC 0) allp_nil))
 rintro (_ | _)
 ·refine jx_blkR ?_
  refine jx_seqR ?_
  exact jx_retF (.inr rfl) (v:=bv false) (by kernel_rfl) rfl (fle_refl _)
 refine jx_blkE ?_
 refine jx_seqN ?_
 refine jc_seq ?_
 refine jS ⟨[V 1 (pt 0 9),V 4 (iv 0)],[W 0 9 [bs a0.Epoch,.fsl 1 (List.map cS a0.Release),.s (.int .u8 a0.Pre),bs a0.PreNum,bv a0.Post,bs a0.PostNum,bv a0.Dev,bs a0.DevNum,.fsl 1 (List.map cS a0.Local)]],1⟩ ?_
 refine jc_block ?_
 refine jc_bind (fun y=>match y with | Sum.inl _=>⟨[V 2 (bv false)],[],0⟩ | Sum.inr _=>⟨[V 1 (pt 0 9)],[W 0 9 [bs a0.Epoch,.fsl 1 (List.map cS a0.Release),.s (.int .u8 a0.Pre),bs a0.PreNum,bv a0.Post,bs a0.PostNum,bv a0.Dev,bs a0.DevNum,.fsl 1 (List.map cS a0.Local)]],1⟩) (fun y=>match y with | Sum.inl _=>.ret | Sum.inr _=>(.exit 2)) (jc_loop (fun x12=>⟨[V 1 (pt 0 9),V 4 (iv x12)],[W 0 9 [bs a0.Epoch,.fsl 1 (List.map cS a0.Release),.s (.int .u8 a0.Pre),bs a0.PreNum,bv a0.Post,bs a0.PostNum,bv a0.Dev,bs a0.DevNum,.fsl 1 (List.map cS a0.Local)]],1⟩) (wkR [(0,some 0)] (fix_nil _) (pc (hC 0) allp_nil)) ?_) ?_
 ·intro x12
  unfold ref03_Fit_l2
  refine jc_seq ?_
  refine jR ?_
  refine jG 0 5 ⟨[V 1 (pt 0 9),V 4 (iv x12),V 53 (bv (decide (x12 < (List.length (List.map cS a0.Local):Int))))],[W 0 9 [bs a0.Epoch,.fsl 1 (List.map cS a0.Release),.s (.int .u8 a0.Pre),bs a0.PreNum,bv a0.Post,bs a0.PostNum,bv a0.Dev,bs a0.DevNum,.fsl 1 (List.map cS a0.Local)]],1⟩ ?_
  simp only[List.length_map]
  refine jN ?_
  refine jIf ?_ ?_
  ·refine jc_skip ?_
   refine jx_seqN ?_
   refine jc_seq ?_
   refine jc_block ?_
   refine jR ?_
   refine jG 0 3 ⟨[V 1 (pt 0 9),V 4 (iv x12),V 57 (.fsl 1 (List.map cS a0.Local)),V 58 (iv x12)],[W 0 9 [bs a0.Epoch,.fsl 1 (List.map cS a0.Release),.s (.int .u8 a0.Pre),bs a0.PreNum,bv a0.Post,bs a0.PostNum,bv a0.Dev,bs a0.DevNum,.fsl 1 (List.map cS a0.Local)]],1⟩ ?_
   refine jr_part (i:=3) (mo:=ixl a0.Local x12) rfl rfl rfl rfl (fun _ hc=>aop_ixf (c:=cS) (sz:=1) (e:=9) (kk:=.i64) (by kernel_rfl) (by kernel_rfl) (by kernel_rfl) (by kernel_rfl) hc) (fun _=>rfl) ?_
   intro x16 h16
   refine jG 4 1 ⟨[V 1 (pt 0 9),V 4 (iv x12),V 60 (bs x16)],[W 0 9 [bs a0.Epoch,.fsl 1 (List.map cS a0.Release),.s (.int .u8 a0.Pre),bs a0.PreNum,bv a0.Post,bs a0.PostNum,bv a0.Dev,bs a0.DevNum,.fsl 1 (List.map cS a0.Local)]],1⟩ ?_
   refine jK 5 (ref03_part_ok x16) ?_
   intro x17 h17
   refine jG 6 1 ⟨[V 1 (pt 0 9),V 4 (iv x12),V 62 (bv (!x17))],[W 0 9 [bs a0.Epoch,.fsl 1 (List.map cS a0.Release),.s (.int .u8 a0.Pre),bs a0.PreNum,bv a0.Post,bs a0.PostNum,bv a0.Dev,bs a0.DevNum,.fsl 1 (List.map cS a0.Local)]],1⟩ ?_
   refine jN ?_
   refine jIf ?_ ?_
   ·refine jS ⟨[V 2 (bv false)],[],1⟩ ?_
    refine jc_ret ?_
    refine jx_blkR ?_
    refine jx_seqR ?_
    exact jx_done rfl nofun (wkR [] (fix_nil _) allp_nil)
   refine jc_skip ?_
   refine jx_blkN ?_
   refine jx_seqN ?_
   refine jT ⟨[V 1 (pt 0 9),V 4 (iv (w64 (x12 + 1)))],[W 0 9 [bs a0.Epoch,.fsl 1 (List.map cS a0.Release),.s (.int .u8 a0.Pre),bs a0.PreNum,bv a0.Post,bs a0.PostNum,bv a0.Dev,bs a0.DevNum,.fsl 1 (List.map cS a0.Local)]],1⟩ ?_
   exact jx_next (wkR [(0,some 0)] (fix_nil _) (pc (hC 0) allp_nil))
  refine jc_exit ?_
  refine jx_seqE ?_
  exact jx_done rfl nofun (wkR [(0,some 0)] (fix_nil _) (pc (hC 0) allp_nil))
 rintro (_ | _)
 ·refine jx_blkR ?_
  refine jx_seqR ?_
  exact jx_retF (.inr rfl) (v:=bv false) (by kernel_rfl) rfl (fle_refl _)
 refine jx_blkE ?_
 refine jx_seqN ?_
 refine jR ?_
 refine jG 0 5 ⟨[V 1 (pt 0 9),V 65 (bv (a0.Pre != 0)),V 67 (bs a0.PreNum)],[W 0 9 [bs a0.Epoch,.fsl 1 (List.map cS a0.Release),.s (.int .u8 a0.Pre),bs a0.PreNum,bv a0.Post,bs a0.PostNum,bv a0.Dev,bs a0.DevNum,.fsl 1 (List.map cS a0.Local)]],1⟩ ?_
 refine jK 5 (ref03_asked_ok (a0.Pre != 0) a0.PreNum) ?_
 intro x18 h18
 refine jG 6 1 ⟨[V 1 (pt 0 9),V 69 (bv x18)],[W 0 9 [bs a0.Epoch,.fsl 1 (List.map cS a0.Release),.s (.int .u8 a0.Pre),bs a0.PreNum,bv a0.Post,bs a0.PostNum,bv a0.Dev,bs a0.DevNum,.fsl 1 (List.map cS a0.Local)]],1⟩ ?_
 refine jr_bind 7 6 (fun x20=>⟨[V 1 (pt 0 9),V 75 (bv x20)],[W 0 9 [bs a0.Epoch,.fsl 1 (List.map cS a0.Release),.s (.int .u8 a0.Pre),bs a0.PreNum,bv a0.Post,bs a0.PostNum,bv a0.Dev,bs a0.DevNum,.fsl 1 (List.map cS a0.Local)]],1⟩) ?_ ?_
 ·refine jSp 69 ?_ ?_
  ·refine jG 0 4 ⟨[V 1 (pt 0 9),(69,.lit true),V 71 (bv a0.Post),V 73 (bs a0.PostNum)],[W 0 9 [bs a0.Epoch,.fsl 1 (List.map cS a0.Release),.s (.int .u8 a0.Pre),bs a0.PreNum,bv a0.Post,bs a0.PostNum,bv a0.Dev,bs a0.DevNum,.fsl 1 (List.map cS a0.Local)]],1⟩ ?_
   refine jK 4 (ref03_asked_ok a0.Post a0.PostNum) ?_
   intro x21 h21
   refine jG 5 1 ⟨[V 1 (pt 0 9),V 75 (bv x21)],[W 0 9 [bs a0.Epoch,.fsl 1 (List.map cS a0.Release),.s (.int .u8 a0.Pre),bs a0.PreNum,bv a0.Post,bs a0.PostNum,bv a0.Dev,bs a0.DevNum,.fsl 1 (List.map cS a0.Local)]],1⟩ ?_
   refine jr_nil rfl ?_
   exact jx_mid rfl (wkR [(0,some 0)] (fix_nil _) (pc (hC 0) allp_nil))
  refine jG 0 6 ⟨[V 1 (pt 0 9),V 75 (bv false)],[W 0 9 [bs a0.Epoch,.fsl 1 (List.map cS a0.Release),.s (.int .u8 a0.Pre),bs a0.PreNum,bv a0.Post,bs a0.PostNum,bv a0.Dev,bs a0.DevNum,.fsl 1 (List.map cS a0.Local)]],1⟩ ?_
  refine jr_nil rfl ?_
  exact jx_mid rfl (wkR [(0,some 0)] (fix_nil _) (pc (hC 0) allp_nil))
 intro x20
 refine jG 13 1 ⟨[V 1 (pt 0 9),V 76 (bv x20)],[W 0 9 [bs a0.Epoch,.fsl 1 (List.map cS a0.Release),.s (.int .u8 a0.Pre),bs a0.PreNum,bv a0.Post,bs a0.PostNum,bv a0.Dev,bs a0.DevNum,.fsl 1 (List.map cS a0.Local)]],1⟩ ?_
 refine jr_bind 14 6 (fun x23=>⟨[V 82 (bv x23)],[],0⟩) ?_ ?_
 ·refine jSp 76 ?_ ?_
  ·refine jG 0 4 ⟨[(76,.lit true),V 78 (bv a0.Dev),V 80 (bs a0.DevNum)],[],1⟩ ?_
   refine jK 4 (ref03_asked_ok a0.Dev a0.DevNum) ?_
   intro x24 h24
   refine jG 5 1 ⟨[V 82 (bv x24)],[],1⟩ ?_
   refine jr_nil rfl ?_
   exact jx_mid rfl (wkR [] (fix_nil _) allp_nil)
  refine jG 0 6 ⟨[V 82 (bv false)],[],1⟩ ?_
  refine jr_nil rfl ?_
  exact jx_mid rfl (wkR [] (fix_nil _) allp_nil)
 intro x23
 refine jG 20 1 ⟨[V 2 (bv x23)],[],0⟩ ?_
 refine jN ?_
 refine jc_ret ?_
 exact jx_retF (.inr rfl) (v:=bv x23) (by kernel_rfl) rfl (fle_refl _))
abbrev ref03_Same_r1:List LO:=[lo 2 (.box 24 (.tmp 0)) 0,lo 3 (.box 24 (.tmp 1)) 0,lo 4 (.assign (.const (.bool false))) 4]
abbrev ref03_Same_r2:List LO:=[lo 7 (.fieldAddr 24 (.tmp 2) 0) 0,lo 8 (.load 9 (.tmp 7)) 9,lo 9 (.fieldAddr 24 (.tmp 3) 0) 0,lo 10 (.load 9 (.tmp 9)) 9,lo 11 (.binOp .neq 9 (.tmp 8) (.tmp 10) 9) 4,lm 12 11 4,lg 13 (.fieldAddr 24 (.tmp 2) 2) 0 12 false,lg 14 (.load 5 (.tmp 13)) 5 12 false,lg 15 (.fieldAddr 24 (.tmp 3) 2) 0 12 false,lg 16 (.load 5 (.tmp 15)) 5 12 false,lg 17 (.binOp .neq 5 (.tmp 14) (.tmp 16) 5) 4 12 false,lo 18 (.pick (.tmp 12) (.const (.bool true)) (.tmp 17)) 4,lm 19 18 4,lg 20 (.fieldAddr 24 (.tmp 2) 3) 0 19 false,lg 21 (.load 9 (.tmp 20)) 9 19 false,lg 22 (.fieldAddr 24 (.tmp 3) 3) 0 19 false,lg 23 (.load 9 (.tmp 22)) 9 19 false,lg 24 (.binOp .neq 9 (.tmp 21) (.tmp 23) 9) 4 19 false,lo 25 (.pick (.tmp 19) (.const (.bool true)) (.tmp 24)) 4,lm 26 25 4,lg 27 (.fieldAddr 24 (.tmp 2) 4) 0 26 false,lg 28 (.load 4 (.tmp 27)) 4 26 false,lg 29 (.fieldAddr 24 (.tmp 3) 4) 0 26 false,lg 30 (.load 4 (.tmp 29)) 4 26 false,lg 31 (.binOp .neq 4 (.tmp 28) (.tmp 30) 4) 4 26 false,lo 32 (.pick (.tmp 26) (.const (.bool true)) (.tmp 31)) 4,lm 33 32 4,lg 34 (.fieldAddr 24 (.tmp 2) 5) 0 33 false,lg 35 (.load 9 (.tmp 34)) 9 33 false,lg 36 (.fieldAddr 24 (.tmp 3) 5) 0 33 false,lg 37 (.load 9 (.tmp 36)) 9 33 false,lg 38 (.binOp .neq 9 (.tmp 35) (.tmp 37) 9) 4 33 false,lo 39 (.pick (.tmp 33) (.const (.bool true)) (.tmp 38)) 4,lm 40 39 4,lg 41 (.fieldAddr 24 (.tmp 2) 6) 0 40 false,lg 42 (.load 4 (.tmp 41)) 4 40 false,lg 43 (.fieldAddr 24 (.tmp 3) 6) 0 40 false,lg 44 (.load 4 (.tmp 43)) 4 40 false,lg 45 (.binOp .neq 4 (.tmp 42) (.tmp 44) 4) 4 40 false,lo 46 (.pick (.tmp 40) (.const (.bool true)) (.tmp 45)) 4,lm 47 46 4,lg 48 (.fieldAddr 24 (.tmp 2) 7) 0 47 false,lg 49 (.load 9 (.tmp 48)) 9 47 false,lg 50 (.fieldAddr 24 (.tmp 3) 7) 0 47 false,lg 51 (.load 9 (.tmp 50)) 9 47 false,lg 52 (.binOp .neq 9 (.tmp 49) (.tmp 51) 9) 4 47 false,lo 53 (.pick (.tmp 47) (.const (.bool true)) (.tmp 52)) 4,lm 54 53 4,lg 55 (.fieldAddr 24 (.tmp 2) 1) 0 54 false,lg 56 (.load 22 (.tmp 55)) 22 54 false,lg 57 (.call ⟨.builtin .len,#[.tmp 56],#[22]⟩) 3 54 false,lg 58 (.fieldAddr 24 (.tmp 3) 1) 0 54 false,lg 59 (.load 22 (.tmp 58)) 22 54 false,lg 60 (.call ⟨.builtin .len,#[.tmp 59],#[22]⟩) 3 54 false,lg 61 (.binOp .neq 3 (.tmp 57) (.tmp 60) 3) 4 54 false,lo 62 (.pick (.tmp 54) (.const (.bool true)) (.tmp 61)) 4,lm 63 62 4,lg 64 (.fieldAddr 24 (.tmp 2) 8) 0 63 false,lg 65 (.load 22 (.tmp 64)) 22 63 false,lg 66 (.call ⟨.builtin .len,#[.tmp 65],#[22]⟩) 3 63 false,lg 67 (.fieldAddr 24 (.tmp 3) 8) 0 63 false,lg 68 (.load 22 (.tmp 67)) 22 63 false,lg 69 (.call ⟨.builtin .len,#[.tmp 68],#[22]⟩) 3 63 false,lg 70 (.binOp .neq 3 (.tmp 66) (.tmp 69) 3) 4 63 false,lo 71 (.pick (.tmp 63) (.const (.bool true)) (.tmp 70)) 4]
abbrev ref03_Same_r3:List LO:=[lo 4 (.assign (.const (.bool false))) 4]
abbrev ref03_Same_r4:List LO:=[lo 5 (.assign (.const (.int .i64 0))) 3]
abbrev ref03_Same_r5:List LO:=[lm 72 5 3,lo 73 (.fieldAddr 24 (.tmp 2) 1) 0,lo 74 (.load 22 (.tmp 73)) 22,lo 75 (.call ⟨.builtin .len,#[.tmp 74],#[22]⟩) 3,lo 76 (.binOp .lss 3 (.tmp 72) (.tmp 75) 3) 4]
abbrev ref03_Same_r6:List LO:=[lo 79 (.fieldAddr 24 (.tmp 2) 1) 0,lo 80 (.load 22 (.tmp 79)) 22,lm 81 5 3,lo 82 (.indexAddr 22 (.tmp 80) (.tmp 81)) 0,lo 83 (.load 9 (.tmp 82)) 9,lo 84 (.fieldAddr 24 (.tmp 3) 1) 0,lo 85 (.load 22 (.tmp 84)) 22,lm 86 5 3,lo 87 (.indexAddr 22 (.tmp 85) (.tmp 86)) 0,lo 88 (.load 9 (.tmp 87)) 9,lo 89 (.binOp .neq 9 (.tmp 83) (.tmp 88) 9) 4]
abbrev ref03_Same_r7:List LO:=[lo 4 (.assign (.const (.bool false))) 4]
abbrev ref03_Same_r8:List LO:=[lm 77 5 3,lo 78 (.binOp .add 3 (.tmp 77) (.const (.int .i64 1)) 3) 3,lo 5 (.assign (.tmp 78)) 3]
abbrev ref03_Same_r9:List LO:=[lo 6 (.assign (.const (.int .i64 0))) 3]
abbrev ref03_Same_r10:List LO:=[lm 90 6 3,lo 91 (.fieldAddr 24 (.tmp 2) 8) 0,lo 92 (.load 22 (.tmp 91)) 22,lo 93 (.call ⟨.builtin .len,#[.tmp 92],#[22]⟩) 3,lo 94 (.binOp .lss 3 (.tmp 90) (.tmp 93) 3) 4]
abbrev ref03_Same_r11:List LO:=[lo 97 (.fieldAddr 24 (.tmp 2) 8) 0,lo 98 (.load 22 (.tmp 97)) 22,lm 99 6 3,lo 100 (.indexAddr 22 (.tmp 98) (.tmp 99)) 0,lo 101 (.load 9 (.tmp 100)) 9,lo 102 (.fieldAddr 24 (.tmp 3) 8) 0,lo 103 (.load 22 (.tmp 102)) 22,lm 104 6 3,lo 105 (.indexAddr 22 (.tmp 103) (.tmp 104)) 0,lo 106 (.load 9 (.tmp 105)) 9,lo 107 (.binOp .neq 9 (.tmp 101) (.tmp 106) 9) 4]
abbrev ref03_Same_r12:List LO:=[lo 4 (.assign (.const (.bool false))) 4]
abbrev ref03_Same_r13:List LO:=[lm 95 6 3,lo 96 (.binOp .add 3 (.tmp 95) (.const (.int .i64 1)) 3) 3,lo 6 (.assign (.tmp 96)) 3]
abbrev ref03_Same_r14:List LO:=[lo 4 (.assign (.const (.bool true))) 4]
abbrev ref03_Same_c:LC:=.seq (.reg false ref03_Same_r1) (.seq (.seq (.reg false ref03_Same_r2) (.cond (.tmp 71) (.seq (.reg false ref03_Same_r3) .ret) .skip)) (.seq (.seq (.reg false ref03_Same_r4) (.block 0 (.loop (.seq (.seq (.reg false ref03_Same_r5) (.cond (.tmp 76) .skip (.exit 0))) (.seq (.block 1 (.seq (.reg true ref03_Same_r6) (.cond (.tmp 89) (.seq (.reg false ref03_Same_r7) .ret) .skip))) (.reg false ref03_Same_r8)))))) (.seq (.seq (.reg false ref03_Same_r9) (.block 2 (.loop (.seq (.seq (.reg false ref03_Same_r10) (.cond (.tmp 94) .skip (.exit 2))) (.seq (.block 3 (.seq (.reg true ref03_Same_r11) (.cond (.tmp 107) (.seq (.reg false ref03_Same_r12) .ret) .skip))) (.reg false ref03_Same_r13)))))) (.seq (.reg false ref03_Same_r14) .ret))))
theorem ref03_Same_k:FnOk E 10 108 [.tmp 4] ref03_Same_c:=⟨⟨Go.Proofs.Tryz.f10,by kernel_rfl,by kernel_rfl,by kernel_rfl,by kernel_rfl,by kernel_rfl⟩,rfl,rfl⟩
noncomputable def ref03_Same_l1 (a0:S_api_Pep) (a1:S_api_Pep):Int→Option (Step (Int) ((Unit) ⊕ (Unit))):=fun x3=>(if (decide (x3 < (List.length a0.Release:Int)))=true then Option.bind (ixl a0.Release x3) (fun x7=>Option.bind (ixl a1.Release x3) (fun x8=>(if (!(x7 == x8))=true then some (Step.done (Sum.inl ())) else some (Step.next (w64 (x3 + 1)))))) else some (Step.done (Sum.inr ())))
noncomputable def ref03_Same_l2 (a0:S_api_Pep) (a1:S_api_Pep):Int→Option (Step (Int) ((Unit) ⊕ (Unit))):=fun x11=>(if (decide (x11 < (List.length a0.Local:Int)))=true then Option.bind (ixl a0.Local x11) (fun x15=>Option.bind (ixl a1.Local x11) (fun x16=>(if (!(x15 == x16))=true then some (Step.done (Sum.inl ())) else some (Step.next (w64 (x11 + 1)))))) else some (Step.done (Sum.inr ())))
noncomputable def ref03_Same (a0:S_api_Pep) (a1:S_api_Pep):Option (Bool):=(if (((((((((!(a0.Epoch == a1.Epoch)) || (a0.Pre != a1.Pre)) || (!(a0.PreNum == a1.PreNum))) || (!(a0.Post == a1.Post))) || (!(a0.PostNum == a1.PostNum))) || (!(a0.Dev == a1.Dev))) || (!(a0.DevNum == a1.DevNum))) || ((List.length a0.Release:Int) != (List.length a1.Release:Int))) || ((List.length a0.Local:Int) != (List.length a1.Local:Int)))=true then some false else Option.bind (loopC (ref03_Same_l1 a0 a1) 0) (fun y=>match y with | Sum.inl _=>some false | Sum.inr _=>Option.bind (loopC (ref03_Same_l2 a0 a1) 0) (fun y=>match y with | Sum.inl _=>some false | Sum.inr _=>some true)))
theorem ref03_Same_ok (a0:S_api_Pep) (a1:S_api_Pep):Ct E 10 [.agg [bs a0.Epoch,.fsl 1 (List.map cS a0.Release),.s (.int .u8 a0.Pre),bs a0.PreNum,bv a0.Post,bs a0.PostNum,bv a0.Dev,bs a0.DevNum,.fsl 1 (List.map cS a0.Local)],.agg [bs a1.Epoch,.fsl 1 (List.map cS a1.Release),.s (.int .u8 a1.Pre),bs a1.PreNum,bv a1.Post,bs a1.PostNum,bv a1.Dev,bs a1.DevNum,.fsl 1 (List.map cS a1.Local)]] (ref03_Same a0 a1) (fun r:Bool=>bv r):=ct_intro (N:=108) (L:=ref03_Same_c) ref03_Same_k rfl (Nat.le_of_ble_eq_true rfl) (by kernel_rfl) (by
 unfold ref03_Same
 refine jS ⟨[V 2 (pt 0 9),V 3 (pt 1 9)],[W 0 9 [bs a0.Epoch,.fsl 1 (List.map cS a0.Release),.s (.int .u8 a0.Pre),bs a0.PreNum,bv a0.Post,bs a0.PostNum,bv a0.Dev,bs a0.DevNum,.fsl 1 (List.map cS a0.Local)],W 1 9 [bs a1.Epoch,.fsl 1 (List.map cS a1.Release),.s (.int .u8 a1.Pre),bs a1.PreNum,bv a1.Post,bs a1.PostNum,bv a1.Dev,bs a1.DevNum,.fsl 1 (List.map cS a1.Local)]],2⟩ ?_
 refine jc_seq ?_
 refine jR ?_
 refine jG 0 65 ⟨[V 2 (pt 0 9),V 3 (pt 1 9),V 71 (bv (((((((((!(a0.Epoch == a1.Epoch)) || (a0.Pre != a1.Pre)) || (!(a0.PreNum == a1.PreNum))) || (!(a0.Post == a1.Post))) || (!(a0.PostNum == a1.PostNum))) || (!(a0.Dev == a1.Dev))) || (!(a0.DevNum == a1.DevNum))) || ((List.length (List.map cS a0.Release):Int) != (List.length (List.map cS a1.Release):Int))) || ((List.length (List.map cS a0.Local):Int) != (List.length (List.map cS a1.Local):Int))))],[W 0 9 [bs a0.Epoch,.fsl 1 (List.map cS a0.Release),.s (.int .u8 a0.Pre),bs a0.PreNum,bv a0.Post,bs a0.PostNum,bv a0.Dev,bs a0.DevNum,.fsl 1 (List.map cS a0.Local)],W 1 9 [bs a1.Epoch,.fsl 1 (List.map cS a1.Release),.s (.int .u8 a1.Pre),bs a1.PreNum,bv a1.Post,bs a1.PostNum,bv a1.Dev,bs a1.DevNum,.fsl 1 (List.map cS a1.Local)]],2⟩ ?_
 simp only[List.length_map]
 refine jN ?_
 refine jIf ?_ ?_
 ·refine jS ⟨[V 4 (bv false)],[],2⟩ ?_
  refine jc_ret ?_
  refine jx_seqR ?_
  exact jx_retF (.inr rfl) (v:=bv false) (by kernel_rfl) rfl (fle_refl _)
 refine jc_skip ?_
 refine jx_seqN ?_
 refine jc_seq ?_
 refine jS ⟨[V 2 (pt 0 9),V 3 (pt 1 9),V 5 (iv 0)],[W 0 9 [bs a0.Epoch,.fsl 1 (List.map cS a0.Release),.s (.int .u8 a0.Pre),bs a0.PreNum,bv a0.Post,bs a0.PostNum,bv a0.Dev,bs a0.DevNum,.fsl 1 (List.map cS a0.Local)],W 1 9 [bs a1.Epoch,.fsl 1 (List.map cS a1.Release),.s (.int .u8 a1.Pre),bs a1.PreNum,bv a1.Post,bs a1.PostNum,bv a1.Dev,bs a1.DevNum,.fsl 1 (List.map cS a1.Local)]],2⟩ ?_
 refine jc_block ?_
 refine jc_bind (fun y=>match y with | Sum.inl _=>⟨[V 4 (bv false)],[],0⟩ | Sum.inr _=>⟨[V 2 (pt 0 9),V 3 (pt 1 9)],[W 0 9 [bs a0.Epoch,.fsl 1 (List.map cS a0.Release),.s (.int .u8 a0.Pre),bs a0.PreNum,bv a0.Post,bs a0.PostNum,bv a0.Dev,bs a0.DevNum,.fsl 1 (List.map cS a0.Local)],W 1 9 [bs a1.Epoch,.fsl 1 (List.map cS a1.Release),.s (.int .u8 a1.Pre),bs a1.PreNum,bv a1.Post,bs a1.PostNum,bv a1.Dev,bs a1.DevNum,.fsl 1 (List.map cS a1.Local)]],2⟩) (fun y=>match y with | Sum.inl _=>.ret | Sum.inr _=>(.exit 0)) (jc_loop (fun x3=>⟨[V 2 (pt 0 9),V 3 (pt 1 9),V 5 (iv x3)],[W 0 9 [bs a0.Epoch,.fsl 1 (List.map cS a0.Release),.s (.int .u8 a0.Pre),bs a0.PreNum,bv a0.Post,bs a0.PostNum,bv a0.Dev,bs a0.DevNum,.fsl 1 (List.map cS a0.Local)],W 1 9 [bs a1.Epoch,.fsl 1 (List.map cS a1.Release),.s (.int .u8 a1.Pre),bs a1.PreNum,bv a1.Post,bs a1.PostNum,bv a1.Dev,bs a1.DevNum,.fsl 1 (List.map cS a1.Local)]],2⟩) (wkR [(0,some 0),(1,some 1)] (fix_nil _) (pc (hC 0) (pc (hC 1) allp_nil))) ?_) ?_
 ·intro x3
  unfold ref03_Same_l1
  refine jc_seq ?_
  refine jR ?_
  refine jG 0 5 ⟨[V 2 (pt 0 9),V 3 (pt 1 9),V 5 (iv x3),V 76 (bv (decide (x3 < (List.length (List.map cS a0.Release):Int))))],[W 0 9 [bs a0.Epoch,.fsl 1 (List.map cS a0.Release),.s (.int .u8 a0.Pre),bs a0.PreNum,bv a0.Post,bs a0.PostNum,bv a0.Dev,bs a0.DevNum,.fsl 1 (List.map cS a0.Local)],W 1 9 [bs a1.Epoch,.fsl 1 (List.map cS a1.Release),.s (.int .u8 a1.Pre),bs a1.PreNum,bv a1.Post,bs a1.PostNum,bv a1.Dev,bs a1.DevNum,.fsl 1 (List.map cS a1.Local)]],2⟩ ?_
  simp only[List.length_map]
  refine jN ?_
  refine jIf ?_ ?_
  ·refine jc_skip ?_
   refine jx_seqN ?_
   refine jc_seq ?_
   refine jc_block ?_
   refine jR ?_
   refine jG 0 3 ⟨[V 2 (pt 0 9),V 3 (pt 1 9),V 5 (iv x3),V 80 (.fsl 1 (List.map cS a0.Release)),V 81 (iv x3)],[W 0 9 [bs a0.Epoch,.fsl 1 (List.map cS a0.Release),.s (.int .u8 a0.Pre),bs a0.PreNum,bv a0.Post,bs a0.PostNum,bv a0.Dev,bs a0.DevNum,.fsl 1 (List.map cS a0.Local)],W 1 9 [bs a1.Epoch,.fsl 1 (List.map cS a1.Release),.s (.int .u8 a1.Pre),bs a1.PreNum,bv a1.Post,bs a1.PostNum,bv a1.Dev,bs a1.DevNum,.fsl 1 (List.map cS a1.Local)]],2⟩ ?_
   refine jr_part (i:=3) (mo:=ixl a0.Release x3) rfl rfl rfl rfl (fun _ hc=>aop_ixf (c:=cS) (sz:=1) (e:=9) (kk:=.i64) (by kernel_rfl) (by kernel_rfl) (by kernel_rfl) (by kernel_rfl) hc) (fun _=>rfl) ?_
   intro x7 h7
   refine jG 4 4 ⟨[V 2 (pt 0 9),V 3 (pt 1 9),V 5 (iv x3),V 83 (bs x7),V 85 (.fsl 1 (List.map cS a1.Release)),V 86 (iv x3)],[W 0 9 [bs a0.Epoch,.fsl 1 (List.map cS a0.Release),.s (.int .u8 a0.Pre),bs a0.PreNum,bv a0.Post,bs a0.PostNum,bv a0.Dev,bs a0.DevNum,.fsl 1 (List.map cS a0.Local)],W 1 9 [bs a1.Epoch,.fsl 1 (List.map cS a1.Release),.s (.int .u8 a1.Pre),bs a1.PreNum,bv a1.Post,bs a1.PostNum,bv a1.Dev,bs a1.DevNum,.fsl 1 (List.map cS a1.Local)]],2⟩ ?_
   refine jr_part (i:=8) (mo:=ixl a1.Release x3) rfl rfl rfl rfl (fun _ hc=>aop_ixf (c:=cS) (sz:=1) (e:=9) (kk:=.i64) (by kernel_rfl) (by kernel_rfl) (by kernel_rfl) (by kernel_rfl) hc) (fun _=>rfl) ?_
   intro x8 h8
   refine jG 9 2 ⟨[V 2 (pt 0 9),V 3 (pt 1 9),V 5 (iv x3),V 89 (bv (!(x7 == x8)))],[W 0 9 [bs a0.Epoch,.fsl 1 (List.map cS a0.Release),.s (.int .u8 a0.Pre),bs a0.PreNum,bv a0.Post,bs a0.PostNum,bv a0.Dev,bs a0.DevNum,.fsl 1 (List.map cS a0.Local)],W 1 9 [bs a1.Epoch,.fsl 1 (List.map cS a1.Release),.s (.int .u8 a1.Pre),bs a1.PreNum,bv a1.Post,bs a1.PostNum,bv a1.Dev,bs a1.DevNum,.fsl 1 (List.map cS a1.Local)]],2⟩ ?_
   refine jN ?_
   refine jIf ?_ ?_
   ·refine jS ⟨[V 4 (bv false)],[],2⟩ ?_
    refine jc_ret ?_
    refine jx_blkR ?_
    refine jx_seqR ?_
    exact jx_done rfl nofun (wkR [] (fix_nil _) allp_nil)
   refine jc_skip ?_
   refine jx_blkN ?_
   refine jx_seqN ?_
   refine jT ⟨[V 2 (pt 0 9),V 3 (pt 1 9),V 5 (iv (w64 (x3 + 1)))],[W 0 9 [bs a0.Epoch,.fsl 1 (List.map cS a0.Release),.s (.int .u8 a0.Pre),bs a0.PreNum,bv a0.Post,bs a0.PostNum,bv a0.Dev,bs a0.DevNum,.fsl 1 (List.map cS a0.Local)],W 1 9 [bs a1.Epoch,.fsl 1 (List.map cS a1.Release),.s (.int .u8 a1.Pre),bs a1.PreNum,bv a1.Post,bs a1.PostNum,bv a1.Dev,bs a1.DevNum,.fsl 1 (List.map cS a1.Local)]],2⟩ ?_
   exact jx_next (wkR [(0,some 0),(1,some 1)] (fix_nil _) (pc (hC 0) (pc (hC 1) allp_nil)))
  refine jc_exit ?_
  refine jx_seqE ?_
  exact jx_done rfl nofun (wkR [(0,some 0),(1,some 1)] (fix_nil _) (pc (hC 0) (pc (hC 1) allp_nil)))
 rintro (_ | _)
 ·refine jx_blkR ?_
  refine jx_seqR ?_
  exact jx_retF (.inr rfl) (v:=bv false) (by kernel_rfl) rfl (fle_refl _)
 refine jx_blkE ?_
 refine jx_seqN ?_
 refine jc_seq ?_
 refine jS ⟨[V 2 (pt 0 9),V 3 (pt 1 9),V 6 (iv 0)],[W 0 9 [bs a0.Epoch,.fsl 1 (List.map cS a0.Release),.s (.int .u8 a0.Pre),bs a0.PreNum,bv a0.Post,bs a0.PostNum,bv a0.Dev,bs a0.DevNum,.fsl 1 (List.map cS a0.Local)],W 1 9 [bs a1.Epoch,.fsl 1 (List.map cS a1.Release),.s (.int .u8 a1.Pre),bs a1.PreNum,bv a1.Post,bs a1.PostNum,bv a1.Dev,bs a1.DevNum,.fsl 1 (List.map cS a1.Local)]],2⟩ ?_
 refine jc_block ?_
 refine jc_bind (fun y=>match y with | Sum.inl _=>⟨[V 4 (bv false)],[],0⟩ | Sum.inr _=>⟨[],[],0⟩) (fun y=>match y with | Sum.inl _=>.ret | Sum.inr _=>(.exit 2)) (jc_loop (fun x11=>⟨[V 2 (pt 0 9),V 3 (pt 1 9),V 6 (iv x11)],[W 0 9 [bs a0.Epoch,.fsl 1 (List.map cS a0.Release),.s (.int .u8 a0.Pre),bs a0.PreNum,bv a0.Post,bs a0.PostNum,bv a0.Dev,bs a0.DevNum,.fsl 1 (List.map cS a0.Local)],W 1 9 [bs a1.Epoch,.fsl 1 (List.map cS a1.Release),.s (.int .u8 a1.Pre),bs a1.PreNum,bv a1.Post,bs a1.PostNum,bv a1.Dev,bs a1.DevNum,.fsl 1 (List.map cS a1.Local)]],2⟩) (wkR [(0,some 0),(1,some 1)] (fix_nil _) (pc (hC 0) (pc (hC 1) allp_nil))) ?_) ?_
 ·intro x11
  unfold ref03_Same_l2
  refine jc_seq ?_
  refine jR ?_
  refine jG 0 5 ⟨[V 2 (pt 0 9),V 3 (pt 1 9),V 6 (iv x11),V 94 (bv (decide (x11 < (List.length (List.map cS a0.Local):Int))))],[W 0 9 [bs a0.Epoch,.fsl 1 (List.map cS a0.Release),.s (.int .u8 a0.Pre),bs a0.PreNum,bv a0.Post,bs a0.PostNum,bv a0.Dev,bs a0.DevNum,.fsl 1 (List.map cS a0.Local)],W 1 9 [bs a1.Epoch,.fsl 1 (List.map cS a1.Release),.s (.int .u8 a1.Pre),bs a1.PreNum,bv a1.Post,bs a1.PostNum,bv a1.Dev,bs a1.DevNum,.fsl 1 (List.map cS a1.Local)]],2⟩ ?_
  simp only[List.length_map]
  refine jN ?_
  refine jIf ?_ ?_
  ·refine jc_skip ?_
   refine jx_seqN ?_
   refine jc_seq ?_
   refine jc_block ?_
   refine jR ?_
   refine jG 0 3 ⟨[V 2 (pt 0 9),V 3 (pt 1 9),V 6 (iv x11),V 98 (.fsl 1 (List.map cS a0.Local)),V 99 (iv x11)],[W 0 9 [bs a0.Epoch,.fsl 1 (List.map cS a0.Release),.s (.int .u8 a0.Pre),bs a0.PreNum,bv a0.Post,bs a0.PostNum,bv a0.Dev,bs a0.DevNum,.fsl 1 (List.map cS a0.Local)],W 1 9 [bs a1.Epoch,.fsl 1 (List.map cS a1.Release),.s (.int .u8 a1.Pre),bs a1.PreNum,bv a1.Post,bs a1.PostNum,bv a1.Dev,bs a1.DevNum,.fsl 1 (List.map cS a1.Local)]],2⟩ ?_
   refine jr_part (i:=3) (mo:=ixl a0.Local x11) rfl rfl rfl rfl (fun _ hc=>aop_ixf (c:=cS) (sz:=1) (e:=9) (kk:=.i64) (by kernel_rfl) (by kernel_rfl) (by kernel_rfl) (by kernel_rfl) hc) (fun _=>rfl) ?_
   intro x15 h15
   refine jG 4 4 ⟨[V 2 (pt 0 9),V 3 (pt 1 9),V 6 (iv x11),V 101 (bs x15),V 103 (.fsl 1 (List.map cS a1.Local)),V 104 (iv x11)],[W 0 9 [bs a0.Epoch,.fsl 1 (List.map cS a0.Release),.s (.int .u8 a0.Pre),bs a0.PreNum,bv a0.Post,bs a0.PostNum,bv a0.Dev,bs a0.DevNum,.fsl 1 (List.map cS a0.Local)],W 1 9 [bs a1.Epoch,.fsl 1 (List.map cS a1.Release),.s (.int .u8 a1.Pre),bs a1.PreNum,bv a1.Post,bs a1.PostNum,bv a1.Dev,bs a1.DevNum,.fsl 1 (List.map cS a1.Local)]],2⟩ ?_
   refine jr_part (i:=8) (mo:=ixl a1.Local x11) rfl rfl rfl rfl (fun _ hc=>aop_ixf (c:=cS) (sz:=1) (e:=9) (kk:=.i64) (by kernel_rfl) (by kernel_rfl) (by kernel_rfl) (by kernel_rfl) hc) (fun _=>rfl) ?_
   intro x16 h16
   refine jG 9 2 ⟨[V 2 (pt 0 9),V 3 (pt 1 9),V 6 (iv x11),V 107 (bv (!(x15 == x16)))],[W 0 9 [bs a0.Epoch,.fsl 1 (List.map cS a0.Release),.s (.int .u8 a0.Pre),bs a0.PreNum,bv a0.Post,bs a0.PostNum,bv a0.Dev,bs a0.DevNum,.fsl 1 (List.map cS a0.Local)],W 1 9 [bs a1.Epoch,.fsl 1 (List.map cS a1.Release),.s (.int .u8 a1.Pre),bs a1.PreNum,bv a1.Post,bs a1.PostNum,bv a1.Dev,bs a1.DevNum,.fsl 1 (List.map cS a1.Local)]],2⟩ ?_
   refine jN ?_
   refine jIf ?_ ?_
   ·refine jS ⟨[V 4 (bv false)],[],2⟩ ?_
    refine jc_ret ?_
    refine jx_blkR ?_
    refine jx_seqR ?_
    exact jx_done rfl nofun (wkR [] (fix_nil _) allp_nil)
   refine jc_skip ?_
   refine jx_blkN ?_
   refine jx_seqN ?_
   refine jT ⟨[V 2 (pt 0 9),V 3 (pt 1 9),V 6 (iv (w64 (x11 + 1)))],[W 0 9 [bs a0.Epoch,.fsl 1 (List.map cS a0.Release),.s (.int .u8 a0.Pre),bs a0.PreNum,bv a0.Post,bs a0.PostNum,bv a0.Dev,bs a0.DevNum,.fsl 1 (List.map cS a0.Local)],W 1 9 [bs a1.Epoch,.fsl 1 (List.map cS a1.Release),.s (.int .u8 a1.Pre),bs a1.PreNum,bv a1.Post,bs a1.PostNum,bv a1.Dev,bs a1.DevNum,.fsl 1 (List.map cS a1.Local)]],2⟩ ?_
   exact jx_next (wkR [(0,some 0),(1,some 1)] (fix_nil _) (pc (hC 0) (pc (hC 1) allp_nil)))
  refine jc_exit ?_
  refine jx_seqE ?_
  exact jx_done rfl nofun (wkR [] (fix_nil _) allp_nil)
 rintro (_ | _)
 ·refine jx_blkR ?_
  refine jx_seqR ?_
  exact jx_retF (.inr rfl) (v:=bv false) (by kernel_rfl) rfl (fle_refl _)
 refine jx_blkE ?_
 refine jx_seqN ?_
 refine jS ⟨[V 4 (bv true)],[],0⟩ ?_
 refine jc_ret ?_
 exact jx_retF (.inr rfl) (v:=bv true) (by kernel_rfl) rfl (fle_refl _))
abbrev ref03_raw_r1:List LO:=[lo 1 (.box 24 (.tmp 0)) 0,lo 2 (.assign (.const (.string ⟨#[]⟩))) 9]
abbrev ref03_raw_r2:List LO:=[lo 3 (.assign (.const (.string ⟨#[]⟩))) 9]
abbrev ref03_raw_r3:List LO:=[lo 6 (.fieldAddr 24 (.tmp 1) 0) 0,lo 7 (.load 9 (.tmp 6)) 9,lo 8 (.binOp .neq 9 (.tmp 7) (.const (.string ⟨#[48]⟩)) 9) 4]
abbrev ref03_raw_r4:List LO:=[lo 9 (.fieldAddr 24 (.tmp 1) 0) 0,lo 10 (.load 9 (.tmp 9)) 9,lo 11 (.binOp .add 9 (.tmp 10) (.const (.string ⟨#[33]⟩)) 9) 9,lo 3 (.assign (.tmp 11)) 9]
abbrev ref03_raw_r5:List LO:=[lo 4 (.assign (.const (.int .i64 0))) 3]
abbrev ref03_raw_r6:List LO:=[lm 12 4 3,lo 13 (.fieldAddr 24 (.tmp 1) 1) 0,lo 14 (.load 22 (.tmp 13)) 22,lo 15 (.call ⟨.builtin .len,#[.tmp 14],#[22]⟩) 3,lo 16 (.binOp .lss 3 (.tmp 12) (.tmp 15) 3) 4]
abbrev ref03_raw_r7:List LO:=[lm 19 4 3,lo 20 (.binOp .gtr 3 (.tmp 19) (.const (.int .i64 0)) 3) 4]
abbrev ref03_raw_r8:List LO:=[lm 21 3 9,lo 22 (.binOp .add 9 (.tmp 21) (.const (.string ⟨#[46]⟩)) 9) 9,lo 3 (.assign (.tmp 22)) 9]
abbrev ref03_raw_r9:List LO:=[lm 23 3 9,lo 24 (.fieldAddr 24 (.tmp 1) 1) 0,lo 25 (.load 22 (.tmp 24)) 22,lm 26 4 3,lo 27 (.indexAddr 22 (.tmp 25) (.tmp 26)) 0,lo 28 (.load 9 (.tmp 27)) 9,lo 29 (.binOp .add 9 (.tmp 23) (.tmp 28) 9) 9,lo 3 (.assign (.tmp 29)) 9]
abbrev ref03_raw_r10:List LO:=[lm 17 4 3,lo 18 (.binOp .add 3 (.tmp 17) (.const (.int .i64 1)) 3) 3,lo 4 (.assign (.tmp 18)) 3]
abbrev ref03_raw_r11:List LO:=[lo 30 (.fieldAddr 24 (.tmp 1) 2) 0,lo 31 (.load 5 (.tmp 30)) 5]
abbrev ref03_raw_r12:List LO:=[lo 33 (.binOp .eql 5 (.tmp 31) (.const (.int .u8 97)) 5) 4,lo 32 (.assign (.tmp 33)) 4]
abbrev ref03_raw_r13:List LO:=[lo 34 (.binOp .eql 5 (.tmp 31) (.const (.int .u8 98)) 5) 4,lo 32 (.assign (.tmp 34)) 4]
abbrev ref03_raw_r14:List LO:=[lm 35 3 9,lo 36 (.fieldAddr 24 (.tmp 1) 2) 0,lo 37 (.load 5 (.tmp 36)) 5,lo 38 (.buildSlice 92 1 #[(0,.tmp 37)]) 92,lo 39 (.convert 92 9 (.tmp 38)) 9,lo 40 (.binOp .add 9 (.tmp 35) (.tmp 39) 9) 9,lo 41 (.fieldAddr 24 (.tmp 1) 3) 0,lo 42 (.load 9 (.tmp 41)) 9,lo 43 (.binOp .add 9 (.tmp 40) (.tmp 42) 9) 9,lo 3 (.assign (.tmp 43)) 9]
abbrev ref03_raw_r15:List LO:=[lo 45 (.binOp .eql 5 (.tmp 31) (.const (.int .u8 114)) 5) 4,lo 44 (.assign (.tmp 45)) 4]
abbrev ref03_raw_r16:List LO:=[lm 46 3 9,lo 47 (.binOp .add 9 (.tmp 46) (.const (.string ⟨#[114,99]⟩)) 9) 9,lo 48 (.fieldAddr 24 (.tmp 1) 3) 0,lo 49 (.load 9 (.tmp 48)) 9,lo 50 (.binOp .add 9 (.tmp 47) (.tmp 49) 9) 9,lo 3 (.assign (.tmp 50)) 9]
abbrev ref03_raw_r17:List LO:=[lo 51 (.fieldAddr 24 (.tmp 1) 4) 0,lo 52 (.load 4 (.tmp 51)) 4]
abbrev ref03_raw_r18:List LO:=[lm 53 3 9,lo 54 (.binOp .add 9 (.tmp 53) (.const (.string ⟨#[46,112,111,115,116]⟩)) 9) 9,lo 55 (.fieldAddr 24 (.tmp 1) 5) 0,lo 56 (.load 9 (.tmp 55)) 9,lo 57 (.binOp .add 9 (.tmp 54) (.tmp 56) 9) 9,lo 3 (.assign (.tmp 57)) 9]
abbrev ref03_raw_r19:List LO:=[lo 58 (.fieldAddr 24 (.tmp 1) 6) 0,lo 59 (.load 4 (.tmp 58)) 4]
abbrev ref03_raw_r20:List LO:=[lm 60 3 9,lo 61 (.binOp .add 9 (.tmp 60) (.const (.string ⟨#[46,100,101,118]⟩)) 9) 9,lo 62 (.fieldAddr 24 (.tmp 1) 7) 0,lo 63 (.load 9 (.tmp 62)) 9,lo 64 (.binOp .add 9 (.tmp 61) (.tmp 63) 9) 9,lo 3 (.assign (.tmp 64)) 9]
abbrev ref03_raw_r21:List LO:=[lo 5 (.assign (.const (.int .i64 0))) 3]
abbrev ref03_raw_r22:List LO:=[lm 65 5 3,lo 66 (.fieldAddr 24 (.tmp 1) 8) 0,lo 67 (.load 22 (.tmp 66)) 22,lo 68 (.call ⟨.builtin .len,#[.tmp 67],#[22]⟩) 3,lo 69 (.binOp .lss 3 (.tmp 65) (.tmp 68) 3) 4]
abbrev ref03_raw_r23:List LO:=[lm 72 5 3,lo 73 (.binOp .eql 3 (.tmp 72) (.const (.int .i64 0)) 3) 4]
abbrev ref03_raw_r24:List LO:=[lm 74 3 9,lo 75 (.binOp .add 9 (.tmp 74) (.const (.string ⟨#[43]⟩)) 9) 9,lo 3 (.assign (.tmp 75)) 9]
abbrev ref03_raw_r25:List LO:=[lm 76 3 9,lo 77 (.binOp .add 9 (.tmp 76) (.const (.string ⟨#[46]⟩)) 9) 9,lo 3 (.assign (.tmp 77)) 9]
abbrev ref03_raw_r26:List LO:=[lm 78 3 9,lo 79 (.fieldAddr 24 (.tmp 1) 8) 0,lo 80 (.load 22 (.tmp 79)) 22,lm 81 5 3,lo 82 (.indexAddr 22 (.tmp 80) (.tmp 81)) 0,lo 83 (.load 9 (.tmp 82)) 9,lo 84 (.binOp .add 9 (.tmp 78) (.tmp 83) 9) 9,lo 3 (.assign (.tmp 84)) 9]
abbrev ref03_raw_r27:List LO:=[lm 70 5 3,lo 71 (.binOp .add 3 (.tmp 70) (.const (.int .i64 1)) 3) 3,lo 5 (.assign (.tmp 71)) 3]
abbrev ref03_raw_r28:List LO:=[lm 85 3 9,lo 2 (.assign (.tmp 85)) 9]
abbrev ref03_raw_c:LC:=.seq (.reg false ref03_raw_r1) (.seq (.reg false ref03_raw_r2) (.seq (.seq (.reg false ref03_raw_r3) (.cond (.tmp 8) (.reg false ref03_raw_r4) .skip)) (.seq (.seq (.reg false ref03_raw_r5) (.block 0 (.loop (.seq (.seq (.reg false ref03_raw_r6) (.cond (.tmp 16) .skip (.exit 0))) (.seq (.block 1 (.seq (.seq (.reg false ref03_raw_r7) (.cond (.tmp 20) (.reg false ref03_raw_r8) .skip)) (.reg false ref03_raw_r9))) (.reg false ref03_raw_r10)))))) (.seq (.seq (.reg false ref03_raw_r11) (.block 2 (.seq (.seq (.reg false ref03_raw_r12) (.cond (.tmp 32) .skip (.reg false ref03_raw_r13))) (.cond (.tmp 32) (.reg false ref03_raw_r14) (.seq (.reg false ref03_raw_r15) (.cond (.tmp 44) (.reg false ref03_raw_r16) .skip)))))) (.seq (.seq (.reg false ref03_raw_r17) (.cond (.tmp 52) (.reg false ref03_raw_r18) .skip)) (.seq (.seq (.reg false ref03_raw_r19) (.cond (.tmp 59) (.reg false ref03_raw_r20) .skip)) (.seq (.seq (.reg false ref03_raw_r21) (.block 3 (.loop (.seq (.seq (.reg false ref03_raw_r22) (.cond (.tmp 69) .skip (.exit 3))) (.seq (.block 4 (.seq (.seq (.reg false ref03_raw_r23) (.cond (.tmp 73) (.reg false ref03_raw_r24) (.reg false ref03_raw_r25))) (.reg false ref03_raw_r26))) (.reg false ref03_raw_r27)))))) (.seq (.reg false ref03_raw_r28) .ret))))))))
theorem ref03_raw_k:FnOk E 52 86 [.tmp 2] ref03_raw_c:=⟨⟨Go.Proofs.Tryz.f52,by kernel_rfl,by kernel_rfl,by kernel_rfl,by kernel_rfl,by kernel_rfl⟩,rfl,rfl⟩
noncomputable def ref03_raw_l1 (a0:S_api_Pep):(Str × Int)→Option (Step (Str × Int) (Str)):=fun (x6,x7)=>(if (decide (x7 < (List.length a0.Release:Int)))=true then Option.bind ((if (decide (x7 > 0))=true then Option.bind (cat x6 [46]) (fun x17=>some x17) else some x6):Option (Str)) (fun x16=>Option.bind (ixl a0.Release x7) (fun x18=>Option.bind (cat x16 x18) (fun x19=>some (Step.next (x19,(w64 (x7 + 1))))))) else some (Step.done x6))
noncomputable def ref03_raw_l2 (a0:S_api_Pep):(Str × Int)→Option (Step (Str × Int) (Str)):=fun (x45,x46)=>(if (decide (x46 < (List.length a0.Local:Int)))=true then Option.bind ((if (x46 == 0)=true then Option.bind (cat x45 [43]) (fun x58=>some x58) else Option.bind (cat x45 [46]) (fun x59=>some x59)):Option (Str)) (fun x57=>Option.bind (ixl a0.Local x46) (fun x60=>Option.bind (cat x57 x60) (fun x61=>some (Step.next (x61,(w64 (x46 + 1))))))) else some (Step.done x45))
noncomputable def ref03_raw (a0:S_api_Pep):Option (Str):=Option.bind ((if (!(a0.Epoch == [48]))=true then Option.bind (cat a0.Epoch [33]) (fun x3=>some x3) else some []):Option (Str)) (fun x2=>Option.bind (loopC (ref03_raw_l1 a0) (x2,0)) (fun x14=>Option.bind (Option.bind ((if (a0.Pre == 97)=true then some true else some (a0.Pre == 98)):Option (Bool)) (fun x26=>(if x26=true then Option.bind (cat x14 (ofb [a0.Pre])) (fun x27=>Option.bind (cat x27 a0.PreNum) (fun x28=>some x28)) else (if (a0.Pre == 114)=true then Option.bind (cat x14 [114,99]) (fun x29=>Option.bind (cat x29 a0.PreNum) (fun x30=>some x30)) else some x14))):Option (Str)) (fun x25=>Option.bind ((if a0.Post=true then Option.bind (cat x25 [46,112,111,115,116]) (fun x34=>Option.bind (cat x34 a0.PostNum) (fun x35=>some x35)) else some x25):Option (Str)) (fun x33=>Option.bind ((if a0.Dev=true then Option.bind (cat x33 [46,100,101,118]) (fun x39=>Option.bind (cat x39 a0.DevNum) (fun x40=>some x40)) else some x33):Option (Str)) (fun x38=>Option.bind (loopC (ref03_raw_l2 a0) (x38,0)) (fun x54=>some x54))))))
theorem ref03_raw_ok (a0:S_api_Pep):Ct E 52 [.agg [bs a0.Epoch,.fsl 1 (List.map cS a0.Release),.s (.int .u8 a0.Pre),bs a0.PreNum,bv a0.Post,bs a0.PostNum,bv a0.Dev,bs a0.DevNum,.fsl 1 (List.map cS a0.Local)]] (ref03_raw a0) (fun r:Str=>bs r):=ct_intro (N:=86) (L:=ref03_raw_c) ref03_raw_k rfl (Nat.le_of_ble_eq_true rfl) (by kernel_rfl) (by
 unfold ref03_raw
 refine jS ⟨[V 1 (pt 0 9)],[W 0 9 [bs a0.Epoch,.fsl 1 (List.map cS a0.Release),.s (.int .u8 a0.Pre),bs a0.PreNum,bv a0.Post,bs a0.PostNum,bv a0.Dev,bs a0.DevNum,.fsl 1 (List.map cS a0.Local)]],1⟩ ?_
 refine jS ⟨[V 1 (pt 0 9),V 3 (bs [])],[W 0 9 [bs a0.Epoch,.fsl 1 (List.map cS a0.Release),.s (.int .u8 a0.Pre),bs a0.PreNum,bv a0.Post,bs a0.PostNum,bv a0.Dev,bs a0.DevNum,.fsl 1 (List.map cS a0.Local)]],1⟩ ?_
 refine jc_seq ?_
 refine jc_bind (fun x2=>⟨[V 1 (pt 0 9),V 3 (bs x2)],[W 0 9 [bs a0.Epoch,.fsl 1 (List.map cS a0.Release),.s (.int .u8 a0.Pre),bs a0.PreNum,bv a0.Post,bs a0.PostNum,bv a0.Dev,bs a0.DevNum,.fsl 1 (List.map cS a0.Local)]],1⟩) (fun x2=>.normal) ?_ ?_
 ·refine jS ⟨[V 1 (pt 0 9),V 3 (bs []),V 8 (bv (!(a0.Epoch == [48])))],[W 0 9 [bs a0.Epoch,.fsl 1 (List.map cS a0.Release),.s (.int .u8 a0.Pre),bs a0.PreNum,bv a0.Post,bs a0.PostNum,bv a0.Dev,bs a0.DevNum,.fsl 1 (List.map cS a0.Local)]],1⟩ ?_
  refine jIf ?_ ?_
  ·refine jc_reg ?_
   refine jG 0 2 ⟨[V 1 (pt 0 9),V 10 (bs a0.Epoch)],[W 0 9 [bs a0.Epoch,.fsl 1 (List.map cS a0.Release),.s (.int .u8 a0.Pre),bs a0.PreNum,bv a0.Post,bs a0.PostNum,bv a0.Dev,bs a0.DevNum,.fsl 1 (List.map cS a0.Local)]],1⟩ ?_
   refine jr_part (i:=2) (mo:=cat a0.Epoch [33]) rfl rfl rfl rfl (fun _ hc=>aop_cat (by kernel_rfl) (by kernel_rfl) hc) (fun _=>rfl) ?_
   intro x3 h3
   refine jG 3 1 ⟨[V 1 (pt 0 9),V 3 (bs x3)],[W 0 9 [bs a0.Epoch,.fsl 1 (List.map cS a0.Release),.s (.int .u8 a0.Pre),bs a0.PreNum,bv a0.Post,bs a0.PostNum,bv a0.Dev,bs a0.DevNum,.fsl 1 (List.map cS a0.Local)]],1⟩ ?_
   refine jr_nil rfl ?_
   exact jx_mid rfl (wkR [(0,some 0)] (fix_nil _) (pc (hC 0) allp_nil))
  refine jc_skip ?_
  exact jx_mid rfl (wkR [(0,some 0)] (fix_nil _) (pc (hC 0) allp_nil))
 intro x2
 refine jx_seqN ?_
 refine jc_seq ?_
 refine jS ⟨[V 1 (pt 0 9),V 3 (bs x2),V 4 (iv 0)],[W 0 9 [bs a0.Epoch,.fsl 1 (List.map cS a0.Release),.s (.int .u8 a0.Pre),bs a0.PreNum,bv a0.Post,bs a0.PostNum,bv a0.Dev,bs a0.DevNum,.fsl 1 (List.map cS a0.Local)]],1⟩ ?_
 refine jc_block ?_
 refine jc_bind (fun x14=>⟨[V 1 (pt 0 9),V 3 (bs x14)],[W 0 9 [bs a0.Epoch,.fsl 1 (List.map cS a0.Release),.s (.int .u8 a0.Pre),bs a0.PreNum,bv a0.Post,bs a0.PostNum,bv a0.Dev,bs a0.DevNum,.fsl 1 (List.map cS a0.Local)]],1⟩) (fun x14=>(.exit 0)) (jc_loop (fun (x6,x7)=>⟨[V 1 (pt 0 9),V 3 (bs x6),V 4 (iv x7)],[W 0 9 [bs a0.Epoch,.fsl 1 (List.map cS a0.Release),.s (.int .u8 a0.Pre),bs a0.PreNum,bv a0.Post,bs a0.PostNum,bv a0.Dev,bs a0.DevNum,.fsl 1 (List.map cS a0.Local)]],1⟩) (wkR [(0,some 0)] (fix_nil _) (pc (hC 0) allp_nil)) ?_) ?_
 ·rintro⟨x6,x7⟩
  unfold ref03_raw_l1
  refine jc_seq ?_
  refine jR ?_
  refine jG 0 5 ⟨[V 1 (pt 0 9),V 3 (bs x6),V 4 (iv x7),V 16 (bv (decide (x7 < (List.length (List.map cS a0.Release):Int))))],[W 0 9 [bs a0.Epoch,.fsl 1 (List.map cS a0.Release),.s (.int .u8 a0.Pre),bs a0.PreNum,bv a0.Post,bs a0.PostNum,bv a0.Dev,bs a0.DevNum,.fsl 1 (List.map cS a0.Local)]],1⟩ ?_
  simp only[List.length_map]
  refine jN ?_
  refine jIf ?_ ?_
  ·refine jc_skip ?_
   refine jx_seqN ?_
   refine jc_seq ?_
   refine jc_block ?_
   refine jc_seq ?_
   refine jc_bind (fun x16=>⟨[V 1 (pt 0 9),V 3 (bs x16),V 4 (iv x7)],[W 0 9 [bs a0.Epoch,.fsl 1 (List.map cS a0.Release),.s (.int .u8 a0.Pre),bs a0.PreNum,bv a0.Post,bs a0.PostNum,bv a0.Dev,bs a0.DevNum,.fsl 1 (List.map cS a0.Local)]],1⟩) (fun x16=>.normal) ?_ ?_
   ·refine jS ⟨[V 1 (pt 0 9),V 3 (bs x6),V 4 (iv x7),V 20 (bv (decide (x7 > 0)))],[W 0 9 [bs a0.Epoch,.fsl 1 (List.map cS a0.Release),.s (.int .u8 a0.Pre),bs a0.PreNum,bv a0.Post,bs a0.PostNum,bv a0.Dev,bs a0.DevNum,.fsl 1 (List.map cS a0.Local)]],1⟩ ?_
    refine jIf ?_ ?_
    ·refine jc_reg ?_
     refine jG 0 1 ⟨[V 1 (pt 0 9),V 4 (iv x7),V 21 (bs x6)],[W 0 9 [bs a0.Epoch,.fsl 1 (List.map cS a0.Release),.s (.int .u8 a0.Pre),bs a0.PreNum,bv a0.Post,bs a0.PostNum,bv a0.Dev,bs a0.DevNum,.fsl 1 (List.map cS a0.Local)]],1⟩ ?_
     refine jr_part (i:=1) (mo:=cat x6 [46]) rfl rfl rfl rfl (fun _ hc=>aop_cat (by kernel_rfl) (by kernel_rfl) hc) (fun _=>rfl) ?_
     intro x17 h17
     refine jG 2 1 ⟨[V 1 (pt 0 9),V 3 (bs x17),V 4 (iv x7)],[W 0 9 [bs a0.Epoch,.fsl 1 (List.map cS a0.Release),.s (.int .u8 a0.Pre),bs a0.PreNum,bv a0.Post,bs a0.PostNum,bv a0.Dev,bs a0.DevNum,.fsl 1 (List.map cS a0.Local)]],1⟩ ?_
     refine jr_nil rfl ?_
     exact jx_mid rfl (wkR [(0,some 0)] (fix_nil _) (pc (hC 0) allp_nil))
    refine jc_skip ?_
    exact jx_mid rfl (wkR [(0,some 0)] (fix_nil _) (pc (hC 0) allp_nil))
   intro x16
   refine jx_seqN ?_
   refine jc_reg ?_
   refine jG 0 4 ⟨[V 1 (pt 0 9),V 4 (iv x7),V 23 (bs x16),V 25 (.fsl 1 (List.map cS a0.Release)),V 26 (iv x7)],[W 0 9 [bs a0.Epoch,.fsl 1 (List.map cS a0.Release),.s (.int .u8 a0.Pre),bs a0.PreNum,bv a0.Post,bs a0.PostNum,bv a0.Dev,bs a0.DevNum,.fsl 1 (List.map cS a0.Local)]],1⟩ ?_
   refine jr_part (i:=4) (mo:=ixl a0.Release x7) rfl rfl rfl rfl (fun _ hc=>aop_ixf (c:=cS) (sz:=1) (e:=9) (kk:=.i64) (by kernel_rfl) (by kernel_rfl) (by kernel_rfl) (by kernel_rfl) hc) (fun _=>rfl) ?_
   intro x18 h18
   refine jG 5 1 ⟨[V 1 (pt 0 9),V 4 (iv x7),V 23 (bs x16),V 28 (bs x18)],[W 0 9 [bs a0.Epoch,.fsl 1 (List.map cS a0.Release),.s (.int .u8 a0.Pre),bs a0.PreNum,bv a0.Post,bs a0.PostNum,bv a0.Dev,bs a0.DevNum,.fsl 1 (List.map cS a0.Local)]],1⟩ ?_
   refine jr_part (i:=6) (mo:=cat x16 x18) rfl rfl rfl rfl (fun _ hc=>aop_cat (by kernel_rfl) (by kernel_rfl) hc) (fun _=>rfl) ?_
   intro x19 h19
   refine jG 7 1 ⟨[V 1 (pt 0 9),V 3 (bs x19),V 4 (iv x7)],[W 0 9 [bs a0.Epoch,.fsl 1 (List.map cS a0.Release),.s (.int .u8 a0.Pre),bs a0.PreNum,bv a0.Post,bs a0.PostNum,bv a0.Dev,bs a0.DevNum,.fsl 1 (List.map cS a0.Local)]],1⟩ ?_
   refine jr_nil rfl ?_
   refine jx_blkN ?_
   refine jx_seqN ?_
   refine jT ⟨[V 1 (pt 0 9),V 3 (bs x19),V 4 (iv (w64 (x7 + 1)))],[W 0 9 [bs a0.Epoch,.fsl 1 (List.map cS a0.Release),.s (.int .u8 a0.Pre),bs a0.PreNum,bv a0.Post,bs a0.PostNum,bv a0.Dev,bs a0.DevNum,.fsl 1 (List.map cS a0.Local)]],1⟩ ?_
   exact jx_next (wkR [(0,some 0)] (fix_nil _) (pc (hC 0) allp_nil))
  refine jc_exit ?_
  refine jx_seqE ?_
  exact jx_done rfl nofun (wkR [(0,some 0)] (fix_nil _) (pc (hC 0) allp_nil))
 intro x14
 refine jx_blkE ?_
 refine jx_seqN ?_
 refine jc_seq ?_
 refine jc_bind (fun x25=>⟨[V 1 (pt 0 9),V 3 (bs x25)],[W 0 9 [bs a0.Epoch,.fsl 1 (List.map cS a0.Release),.s (.int .u8 a0.Pre),bs a0.PreNum,bv a0.Post,bs a0.PostNum,bv a0.Dev,bs a0.DevNum,.fsl 1 (List.map cS a0.Local)]],1⟩) (fun x25=>.normal) ?_ ?_
 ·refine jS ⟨[V 1 (pt 0 9),V 3 (bs x14),V 31 (.s (.int .u8 a0.Pre))],[W 0 9 [bs a0.Epoch,.fsl 1 (List.map cS a0.Release),.s (.int .u8 a0.Pre),bs a0.PreNum,bv a0.Post,bs a0.PostNum,bv a0.Dev,bs a0.DevNum,.fsl 1 (List.map cS a0.Local)]],1⟩ ?_
  refine jc_block ?_
  refine jc_seq ?_
  refine jc_bind (fun x26=>⟨[V 1 (pt 0 9),V 3 (bs x14),V 31 (.s (.int .u8 a0.Pre)),V 32 (bv x26)],[W 0 9 [bs a0.Epoch,.fsl 1 (List.map cS a0.Release),.s (.int .u8 a0.Pre),bs a0.PreNum,bv a0.Post,bs a0.PostNum,bv a0.Dev,bs a0.DevNum,.fsl 1 (List.map cS a0.Local)]],1⟩) (fun x26=>.normal) ?_ ?_
  ·refine jS ⟨[V 1 (pt 0 9),V 3 (bs x14),V 31 (.s (.int .u8 a0.Pre)),V 32 (bv (a0.Pre == 97))],[W 0 9 [bs a0.Epoch,.fsl 1 (List.map cS a0.Release),.s (.int .u8 a0.Pre),bs a0.PreNum,bv a0.Post,bs a0.PostNum,bv a0.Dev,bs a0.DevNum,.fsl 1 (List.map cS a0.Local)]],1⟩ ?_
   refine jIf ?_ ?_
   ·refine jc_skip ?_
    exact jx_mid rfl (wkR [(0,some 0)] (fix_nil _) (pc (hC 0) allp_nil))
   refine jT ⟨[V 1 (pt 0 9),V 3 (bs x14),V 31 (.s (.int .u8 a0.Pre)),V 32 (bv (a0.Pre == 98))],[W 0 9 [bs a0.Epoch,.fsl 1 (List.map cS a0.Release),.s (.int .u8 a0.Pre),bs a0.PreNum,bv a0.Post,bs a0.PostNum,bv a0.Dev,bs a0.DevNum,.fsl 1 (List.map cS a0.Local)]],1⟩ ?_
   exact jx_mid rfl (wkR [(0,some 0)] (fix_nil _) (pc (hC 0) allp_nil))
  intro x26
  refine jx_seqN ?_
  refine jIf ?_ ?_
  ·refine jc_reg ?_
   refine jG 0 4 ⟨[V 1 (pt 0 9),V 35 (bs x14),V 38 (.osl 1 0 (List.length [a0.Pre]) 1)],[W 0 9 [bs a0.Epoch,.fsl 1 (List.map cS a0.Release),.s (.int .u8 a0.Pre),bs a0.PreNum,bv a0.Post,bs a0.PostNum,bv a0.Dev,bs a0.DevNum,.fsl 1 (List.map cS a0.Local)],(1,.rows 1 (List.map cB [a0.Pre]))],2⟩ ?_
   refine jr_one (i:=4) rfl rfl rfl rfl (aop_ofb_o (e:=5) (id:=1) (l:=[a0.Pre]) (by kernel_rfl) (by kernel_rfl) (by kernel_rfl) (by kernel_rfl) (by kernel_rfl)) rfl ?_
   refine jr_part (i:=5) (mo:=cat x14 (ofb [a0.Pre])) rfl rfl rfl rfl (fun _ hc=>aop_cat (by kernel_rfl) (by kernel_rfl) hc) (fun _=>rfl) ?_
   intro x27 h27
   refine jG 6 2 ⟨[V 1 (pt 0 9),V 40 (bs x27),V 42 (bs a0.PreNum)],[W 0 9 [bs a0.Epoch,.fsl 1 (List.map cS a0.Release),.s (.int .u8 a0.Pre),bs a0.PreNum,bv a0.Post,bs a0.PostNum,bv a0.Dev,bs a0.DevNum,.fsl 1 (List.map cS a0.Local)]],3⟩ ?_
   refine jr_part (i:=8) (mo:=cat x27 a0.PreNum) rfl rfl rfl rfl (fun _ hc=>aop_cat (by kernel_rfl) (by kernel_rfl) hc) (fun _=>rfl) ?_
   intro x28 h28
   refine jG 9 1 ⟨[V 1 (pt 0 9),V 3 (bs x28)],[W 0 9 [bs a0.Epoch,.fsl 1 (List.map cS a0.Release),.s (.int .u8 a0.Pre),bs a0.PreNum,bv a0.Post,bs a0.PostNum,bv a0.Dev,bs a0.DevNum,.fsl 1 (List.map cS a0.Local)]],3⟩ ?_
   refine jr_nil rfl ?_
   refine jx_blkN ?_
   exact jx_mid rfl (wkR [(0,some 0)] (fix_nil _) (pc (hC 0) allp_nil))
  refine jS ⟨[V 1 (pt 0 9),V 3 (bs x14),V 44 (bv (a0.Pre == 114))],[W 0 9 [bs a0.Epoch,.fsl 1 (List.map cS a0.Release),.s (.int .u8 a0.Pre),bs a0.PreNum,bv a0.Post,bs a0.PostNum,bv a0.Dev,bs a0.DevNum,.fsl 1 (List.map cS a0.Local)]],1⟩ ?_
  refine jIf ?_ ?_
  ·refine jc_reg ?_
   refine jG 0 1 ⟨[V 1 (pt 0 9),V 46 (bs x14)],[W 0 9 [bs a0.Epoch,.fsl 1 (List.map cS a0.Release),.s (.int .u8 a0.Pre),bs a0.PreNum,bv a0.Post,bs a0.PostNum,bv a0.Dev,bs a0.DevNum,.fsl 1 (List.map cS a0.Local)]],1⟩ ?_
   refine jr_part (i:=1) (mo:=cat x14 [114,99]) rfl rfl rfl rfl (fun _ hc=>aop_cat (by kernel_rfl) (by kernel_rfl) hc) (fun _=>rfl) ?_
   intro x29 h29
   refine jG 2 2 ⟨[V 1 (pt 0 9),V 47 (bs x29),V 49 (bs a0.PreNum)],[W 0 9 [bs a0.Epoch,.fsl 1 (List.map cS a0.Release),.s (.int .u8 a0.Pre),bs a0.PreNum,bv a0.Post,bs a0.PostNum,bv a0.Dev,bs a0.DevNum,.fsl 1 (List.map cS a0.Local)]],1⟩ ?_
   refine jr_part (i:=4) (mo:=cat x29 a0.PreNum) rfl rfl rfl rfl (fun _ hc=>aop_cat (by kernel_rfl) (by kernel_rfl) hc) (fun _=>rfl) ?_
   intro x30 h30
   refine jG 5 1 ⟨[V 1 (pt 0 9),V 3 (bs x30)],[W 0 9 [bs a0.Epoch,.fsl 1 (List.map cS a0.Release),.s (.int .u8 a0.Pre),bs a0.PreNum,bv a0.Post,bs a0.PostNum,bv a0.Dev,bs a0.DevNum,.fsl 1 (List.map cS a0.Local)]],1⟩ ?_
   refine jr_nil rfl ?_
   refine jx_blkN ?_
   exact jx_mid rfl (wkR [(0,some 0)] (fix_nil _) (pc (hC 0) allp_nil))
  refine jc_skip ?_
  refine jx_blkN ?_
  exact jx_mid rfl (wkR [(0,some 0)] (fix_nil _) (pc (hC 0) allp_nil))
 intro x25
 refine jx_seqN ?_
 refine jc_seq ?_
 refine jc_bind (fun x33=>⟨[V 1 (pt 0 9),V 3 (bs x33)],[W 0 9 [bs a0.Epoch,.fsl 1 (List.map cS a0.Release),.s (.int .u8 a0.Pre),bs a0.PreNum,bv a0.Post,bs a0.PostNum,bv a0.Dev,bs a0.DevNum,.fsl 1 (List.map cS a0.Local)]],1⟩) (fun x33=>.normal) ?_ ?_
 ·refine jS ⟨[V 1 (pt 0 9),V 3 (bs x25),V 52 (bv a0.Post)],[W 0 9 [bs a0.Epoch,.fsl 1 (List.map cS a0.Release),.s (.int .u8 a0.Pre),bs a0.PreNum,bv a0.Post,bs a0.PostNum,bv a0.Dev,bs a0.DevNum,.fsl 1 (List.map cS a0.Local)]],1⟩ ?_
  refine jIf ?_ ?_
  ·refine jc_reg ?_
   refine jG 0 1 ⟨[V 1 (pt 0 9),V 53 (bs x25)],[W 0 9 [bs a0.Epoch,.fsl 1 (List.map cS a0.Release),.s (.int .u8 a0.Pre),bs a0.PreNum,bv a0.Post,bs a0.PostNum,bv a0.Dev,bs a0.DevNum,.fsl 1 (List.map cS a0.Local)]],1⟩ ?_
   refine jr_part (i:=1) (mo:=cat x25 [46,112,111,115,116]) rfl rfl rfl rfl (fun _ hc=>aop_cat (by kernel_rfl) (by kernel_rfl) hc) (fun _=>rfl) ?_
   intro x34 h34
   refine jG 2 2 ⟨[V 1 (pt 0 9),V 54 (bs x34),V 56 (bs a0.PostNum)],[W 0 9 [bs a0.Epoch,.fsl 1 (List.map cS a0.Release),.s (.int .u8 a0.Pre),bs a0.PreNum,bv a0.Post,bs a0.PostNum,bv a0.Dev,bs a0.DevNum,.fsl 1 (List.map cS a0.Local)]],1⟩ ?_
   refine jr_part (i:=4) (mo:=cat x34 a0.PostNum) rfl rfl rfl rfl (fun _ hc=>aop_cat (by kernel_rfl) (by kernel_rfl) hc) (fun _=>rfl) ?_
   intro x35 h35
   refine jG 5 1 ⟨[V 1 (pt 0 9),V 3 (bs x35)],[W 0 9 [bs a0.Epoch,.fsl 1 (List.map cS a0.Release),.s (.int .u8 a0.Pre),bs a0.PreNum,bv a0.Post,bs a0.PostNum,bv a0.Dev,bs a0.DevNum,.fsl 1 (List.map cS a0.Local)]],1⟩ ?_
   refine jr_nil rfl ?_
   exact jx_mid rfl (wkR [(0,some 0)] (fix_nil _) (pc (hC 0) allp_nil))
  refine jc_skip ?_
  exact jx_mid rfl (wkR [(0,some 0)] (fix_nil _) (pc (hC 0) allp_nil))
 intro x33
 refine jx_seqN ?_
 refine jc_seq ?_
 refine jc_bind (fun x38=>⟨[V 1 (pt 0 9),V 3 (bs x38)],[W 0 9 [bs a0.Epoch,.fsl 1 (List.map cS a0.Release),.s (.int .u8 a0.Pre),bs a0.PreNum,bv a0.Post,bs a0.PostNum,bv a0.Dev,bs a0.DevNum,.fsl 1 (List.map cS a0.Local)]],1⟩) (fun x38=>.normal) ?_ ?_
 ·refine jS ⟨[V 1 (pt 0 9),V 3 (bs x33),V 59 (bv a0.Dev)],[W 0 9 [bs a0.Epoch,.fsl 1 (List.map cS a0.Release),.s (.int .u8 a0.Pre),bs a0.PreNum,bv a0.Post,bs a0.PostNum,bv a0.Dev,bs a0.DevNum,.fsl 1 (List.map cS a0.Local)]],1⟩ ?_
  refine jIf ?_ ?_
  ·refine jc_reg ?_
   refine jG 0 1 ⟨[V 1 (pt 0 9),V 60 (bs x33)],[W 0 9 [bs a0.Epoch,.fsl 1 (List.map cS a0.Release),.s (.int .u8 a0.Pre),bs a0.PreNum,bv a0.Post,bs a0.PostNum,bv a0.Dev,bs a0.DevNum,.fsl 1 (List.map cS a0.Local)]],1⟩ ?_
   refine jr_part (i:=1) (mo:=cat x33 [46,100,101,118]) rfl rfl rfl rfl (fun _ hc=>aop_cat (by kernel_rfl) (by kernel_rfl) hc) (fun _=>rfl) ?_
   intro x39 h39
   refine jG 2 2 ⟨[V 1 (pt 0 9),V 61 (bs x39),V 63 (bs a0.DevNum)],[W 0 9 [bs a0.Epoch,.fsl 1 (List.map cS a0.Release),.s (.int .u8 a0.Pre),bs a0.PreNum,bv a0.Post,bs a0.PostNum,bv a0.Dev,bs a0.DevNum,.fsl 1 (List.map cS a0.Local)]],1⟩ ?_
   refine jr_part (i:=4) (mo:=cat x39 a0.DevNum) rfl rfl rfl rfl (fun _ hc=>aop_cat (by kernel_rfl) (by kernel_rfl) hc) (fun _=>rfl) ?_
   intro x40 h40
   refine jG 5 1 ⟨[V 1 (pt 0 9),V 3 (bs x40)],[W 0 9 [bs a0.Epoch,.fsl 1 (List.map cS a0.Release),.s (.int .u8 a0.Pre),bs a0.PreNum,bv a0.Post,bs a0.PostNum,bv a0.Dev,bs a0.DevNum,.fsl 1 (List.map cS a0.Local)]],1⟩ ?_
   refine jr_nil rfl ?_
   exact jx_mid rfl (wkR [(0,some 0)] (fix_nil _) (pc (hC 0) allp_nil))
  refine jc_skip ?_
  exact jx_mid rfl (wkR [(0,some 0)] (fix_nil _) (pc (hC 0) allp_nil))
 intro x38
 refine jx_seqN ?_
 refine jc_seq ?_
 refine jS ⟨[V 1 (pt 0 9),V 3 (bs x38),V 5 (iv 0)],[W 0 9 [bs a0.Epoch,.fsl 1 (List.map cS a0.Release),.s (.int .u8 a0.Pre),bs a0.PreNum,bv a0.Post,bs a0.PostNum,bv a0.Dev,bs a0.DevNum,.fsl 1 (List.map cS a0.Local)]],1⟩ ?_
 refine jc_block ?_
 refine jc_bind (fun x54=>⟨[V 3 (bs x54)],[],0⟩) (fun x54=>(.exit 3)) (jc_loop (fun (x45,x46)=>⟨[V 1 (pt 0 9),V 3 (bs x45),V 5 (iv x46)],[W 0 9 [bs a0.Epoch,.fsl 1 (List.map cS a0.Release),.s (.int .u8 a0.Pre),bs a0.PreNum,bv a0.Post,bs a0.PostNum,bv a0.Dev,bs a0.DevNum,.fsl 1 (List.map cS a0.Local)]],1⟩) (wkR [(0,some 0)] (fix_nil _) (pc (hC 0) allp_nil)) ?_) ?_
 ·rintro⟨x45,x46⟩
  unfold ref03_raw_l2
  refine jc_seq ?_
  refine jR ?_
  refine jG 0 5 ⟨[V 1 (pt 0 9),V 3 (bs x45),V 5 (iv x46),V 69 (bv (decide (x46 < (List.length (List.map cS a0.Local):Int))))],[W 0 9 [bs a0.Epoch,.fsl 1 (List.map cS a0.Release),.s (.int .u8 a0.Pre),bs a0.PreNum,bv a0.Post,bs a0.PostNum,bv a0.Dev,bs a0.DevNum,.fsl 1 (List.map cS a0.Local)]],1⟩ ?_
  simp only[List.length_map]
  refine jN ?_
  refine jIf ?_ ?_
  ·refine jc_skip ?_
   refine jx_seqN ?_
   refine jc_seq ?_
   refine jc_block ?_
   refine jc_seq ?_
   refine jc_bind (fun x57=>⟨[V 1 (pt 0 9),V 3 (bs x57),V 5 (iv x46)],[W 0 9 [bs a0.Epoch,.fsl 1 (List.map cS a0.Release),.s (.int .u8 a0.Pre),bs a0.PreNum,bv a0.Post,bs a0.PostNum,bv a0.Dev,bs a0.DevNum,.fsl 1 (List.map cS a0.Local)]],1⟩) (fun x57=>.normal) ?_ ?_
   ·refine jS ⟨[V 1 (pt 0 9),V 3 (bs x45),V 5 (iv x46),V 73 (bv (x46 == 0))],[W 0 9 [bs a0.Epoch,.fsl 1 (List.map cS a0.Release),.s (.int .u8 a0.Pre),bs a0.PreNum,bv a0.Post,bs a0.PostNum,bv a0.Dev,bs a0.DevNum,.fsl 1 (List.map cS a0.Local)]],1⟩ ?_
    refine jIf ?_ ?_
    ·refine jc_reg ?_
     refine jG 0 1 ⟨[V 1 (pt 0 9),V 5 (iv x46),V 74 (bs x45)],[W 0 9 [bs a0.Epoch,.fsl 1 (List.map cS a0.Release),.s (.int .u8 a0.Pre),bs a0.PreNum,bv a0.Post,bs a0.PostNum,bv a0.Dev,bs a0.DevNum,.fsl 1 (List.map cS a0.Local)]],1⟩ ?_
     refine jr_part (i:=1) (mo:=cat x45 [43]) rfl rfl rfl rfl (fun _ hc=>aop_cat (by kernel_rfl) (by kernel_rfl) hc) (fun _=>rfl) ?_
     intro x58 h58
     refine jG 2 1 ⟨[V 1 (pt 0 9),V 3 (bs x58),V 5 (iv x46)],[W 0 9 [bs a0.Epoch,.fsl 1 (List.map cS a0.Release),.s (.int .u8 a0.Pre),bs a0.PreNum,bv a0.Post,bs a0.PostNum,bv a0.Dev,bs a0.DevNum,.fsl 1 (List.map cS a0.Local)]],1⟩ ?_
     refine jr_nil rfl ?_
     exact jx_mid rfl (wkR [(0,some 0)] (fix_nil _) (pc (hC 0) allp_nil))
    refine jc_reg ?_
    refine jG 0 1 ⟨[V 1 (pt 0 9),V 5 (iv x46),V 76 (bs x45)],[W 0 9 [bs a0.Epoch,.fsl 1 (List.map cS a0.Release),.s (.int .u8 a0.Pre),bs a0.PreNum,bv a0.Post,bs a0.PostNum,bv a0.Dev,bs a0.DevNum,.fsl 1 (List.map cS a0.Local)]],1⟩ ?_
    refine jr_part (i:=1) (mo:=cat x45 [46]) rfl rfl rfl rfl (fun _ hc=>aop_cat (by kernel_rfl) (by kernel_rfl) hc) (fun _=>rfl) ?_
    intro x59 h59
    refine jG 2 1 ⟨[V 1 (pt 0 9),V 3 (bs x59),V 5 (iv x46)],[W 0 9 [bs a0.Epoch,.fsl 1 (List.map cS a0.Release),.s (.int .u8 a0.Pre),bs a0.PreNum,bv a0.Post,bs a0.PostNum,bv a0.Dev,bs a0.DevNum,.fsl 1 (List.map cS a0.Local)]],1⟩ ?_
    refine jr_nil rfl ?_
    exact jx_mid rfl (wkR [(0,some 0)] (fix_nil _) (pc (hC 0) allp_nil))
   intro x57
   refine jx_seqN ?_
   refine jc_reg ?_
   refine jG 0 4 ⟨[V 1 (pt 0 9),V 5 (iv x46),V 78 (bs x57),V 80 (.fsl 1 (List.map cS a0.Local)),V 81 (iv x46)],[W 0 9 [bs a0.Epoch,.fsl 1 (List.map cS a0.Release),.s (.int .u8 a0.Pre),bs a0.PreNum,bv a0.Post,bs a0.PostNum,bv a0.Dev,bs a0.DevNum,.fsl 1 (List.map cS a0.Local)]],1⟩ ?_
   refine jr_part (i:=4) (mo:=ixl a0.Local x46) rfl rfl rfl rfl (fun _ hc=>aop_ixf (c:=cS) (sz:=1) (e:=9) (kk:=.i64) (by kernel_rfl) (by kernel_rfl) (by kernel_rfl) (by kernel_rfl) hc) (fun _=>rfl) ?_
   intro x60 h60
   refine jG 5 1 ⟨[V 1 (pt 0 9),V 5 (iv x46),V 78 (bs x57),V 83 (bs x60)],[W 0 9 [bs a0.Epoch,.fsl 1 (List.map cS a0.Release),.s (.int .u8 a0.Pre),bs a0.PreNum,bv a0.Post,bs a0.PostNum,bv a0.Dev,bs a0.DevNum,.fsl 1 (List.map cS a0.Local)]],1⟩ ?_
   refine jr_part (i:=6) (mo:=cat x57 x60) rfl rfl rfl rfl (fun _ hc=>aop_cat (by kernel_rfl) (by kernel_rfl) hc) (fun _=>rfl) ?_
   intro x61 h61
   refine jG 7 1 ⟨[V 1 (pt 0 9),V 3 (bs x61),V 5 (iv x46)],[W 0 9 [bs a0.Epoch,.fsl 1 (List.map cS a0.Release),.s (.int .u8 a0.Pre),bs a0.PreNum,bv a0.Post,bs a0.PostNum,bv a0.Dev,bs a0.DevNum,.fsl 1 (List.map cS a0.Local)]],1⟩ ?_
   refine jr_nil rfl ?_
   refine jx_blkN ?_
   refine jx_seqN ?_
   refine jT ⟨[V 1 (pt 0 9),V 3 (bs x61),V 5 (iv (w64 (x46 + 1)))],[W 0 9 [bs a0.Epoch,.fsl 1 (List.map cS a0.Release),.s (.int .u8 a0.Pre),bs a0.PreNum,bv a0.Post,bs a0.PostNum,bv a0.Dev,bs a0.DevNum,.fsl 1 (List.map cS a0.Local)]],1⟩ ?_
   exact jx_next (wkR [(0,some 0)] (fix_nil _) (pc (hC 0) allp_nil))
  refine jc_exit ?_
  refine jx_seqE ?_
  exact jx_done rfl nofun (wkR [] (fix_nil _) allp_nil)
 intro x54
 refine jx_blkE ?_
 refine jx_seqN ?_
 refine jS ⟨[V 2 (bs x54)],[],0⟩ ?_
 refine jc_ret ?_
 exact jx_retF (.inr rfl) (v:=bs x54) (by kernel_rfl) rfl (fle_refl _))
abbrev ref03_ints_r1:List LO:=[lo 4 (.assign (.const (.int .i64 0))) 3]
abbrev ref03_ints_r2:List LO:=[lm 6 0 3,lm 7 1 3,lo 8 (.binOp .lss 3 (.tmp 6) (.tmp 7) 3) 4,lo 5 (.assign (.tmp 8)) 4]
abbrev ref03_ints_r3:List LO:=[lo 4 (.assign (.const (.int .i64 (-1)))) 3]
abbrev ref03_ints_r4:List LO:=[lm 10 0 3,lm 11 1 3,lo 12 (.binOp .gtr 3 (.tmp 10) (.tmp 11) 3) 4,lo 9 (.assign (.tmp 12)) 4]
abbrev ref03_ints_r5:List LO:=[lo 4 (.assign (.const (.int .i64 1))) 3]
abbrev ref03_ints_r6:List LO:=[lo 4 (.assign (.const (.int .i64 0))) 3]
abbrev ref03_ints_c:LC:=.seq (.reg false ref03_ints_r1) (.seq (.block 0 (.seq (.reg false ref03_ints_r2) (.cond (.tmp 5) (.seq (.reg false ref03_ints_r3) .ret) (.seq (.reg false ref03_ints_r4) (.cond (.tmp 9) (.seq (.reg false ref03_ints_r5) .ret) .skip))))) (.seq (.reg false ref03_ints_r6) .ret))
theorem ref03_ints_k:FnOk E 54 13 [.tmp 4] ref03_ints_c:=⟨⟨Go.Proofs.Tryz.f54,by kernel_rfl,by kernel_rfl,by kernel_rfl,by kernel_rfl,by kernel_rfl⟩,rfl,rfl⟩
noncomputable def ref03_ints (a0:Int) (a1:Int):Option (Int):=(if (decide (a0 < a1))=true then some (-1) else (if (decide (a0 > a1))=true then some 1 else some 0))
theorem ref03_ints_ok (a0:Int) (a1:Int):Ct E 54 [iv a0,iv a1] (ref03_ints a0 a1) (fun r:Int=>iv r):=ct_intro (N:=13) (L:=ref03_ints_c) ref03_ints_k rfl (Nat.le_of_ble_eq_true rfl) (by kernel_rfl) (by
 unfold ref03_ints
 refine jS ⟨[V 0 (iv a0),V 1 (iv a1)],[],0⟩ ?_
 refine jc_seq ?_
 refine jc_block ?_
 refine jS ⟨[V 0 (iv a0),V 1 (iv a1),V 5 (bv (decide (a0 < a1)))],[],0⟩ ?_
 refine jIf ?_ ?_
 ·refine jS ⟨[V 4 (iv (-1))],[],0⟩ ?_
  refine jc_ret ?_
  refine jx_blkR ?_
  refine jx_seqR ?_
  exact jx_retF (.inr rfl) (v:=iv (-1)) (by kernel_rfl) rfl (fle_refl _)
 refine jS ⟨[V 9 (bv (decide (a0 > a1)))],[],0⟩ ?_
 refine jIf ?_ ?_
 ·refine jS ⟨[V 4 (iv 1)],[],0⟩ ?_
  refine jc_ret ?_
  refine jx_blkR ?_
  refine jx_seqR ?_
  exact jx_retF (.inr rfl) (v:=iv 1) (by kernel_rfl) rfl (fle_refl _)
 refine jc_skip ?_
 refine jx_blkN ?_
 refine jx_seqN ?_
 refine jS ⟨[V 4 (iv 0)],[],0⟩ ?_
 refine jc_ret ?_
 exact jx_retF (.inr rfl) (v:=iv 0) (by kernel_rfl) rfl (fle_refl _))
abbrev ref03_rank_r1:List LO:=[lo 2 (.assign (.const (.int .i64 0))) 3]
abbrev ref03_rank_r2:List LO:=[lm 3 0 4]
abbrev ref03_rank_r3:List LO:=[lo 2 (.assign (.const (.int .i64 1))) 3]
abbrev ref03_rank_r4:List LO:=[lo 2 (.assign (.const (.int .i64 0))) 3]
abbrev ref03_rank_c:LC:=.seq (.reg false ref03_rank_r1) (.seq (.seq (.reg false ref03_rank_r2) (.cond (.tmp 3) (.seq (.reg false ref03_rank_r3) .ret) .skip)) (.seq (.reg false ref03_rank_r4) .ret))
theorem ref03_rank_k:FnOk E 55 4 [.tmp 2] ref03_rank_c:=⟨⟨Go.Proofs.Tryz.f55,by kernel_rfl,by kernel_rfl,by kernel_rfl,by kernel_rfl,by kernel_rfl⟩,rfl,rfl⟩
noncomputable def ref03_rank (a0:Bool):Option (Int):=(if a0=true then some 1 else some 0)
theorem ref03_rank_ok (a0:Bool):Ct E 55 [bv a0] (ref03_rank a0) (fun r:Int=>iv r):=ct_intro (N:=4) (L:=ref03_rank_c) ref03_rank_k rfl (Nat.le_of_ble_eq_true rfl) (by kernel_rfl) (by
 unfold ref03_rank
 refine jS ⟨[V 0 (bv a0)],[],0⟩ ?_
 refine jc_seq ?_
 refine jS ⟨[V 3 (bv a0)],[],0⟩ ?_
 refine jIf ?_ ?_
 ·refine jS ⟨[V 2 (iv 1)],[],0⟩ ?_
  refine jc_ret ?_
  refine jx_seqR ?_
  exact jx_retF (.inr rfl) (v:=iv 1) (by kernel_rfl) rfl (fle_refl _)
 refine jc_skip ?_
 refine jx_seqN ?_
 refine jS ⟨[V 2 (iv 0)],[],0⟩ ?_
 refine jc_ret ?_
 exact jx_retF (.inr rfl) (v:=iv 0) (by kernel_rfl) rfl (fle_refl _))
abbrev ref03_release_r1:List LO:=[lo 4 (.assign (.const (.int .i64 0))) 3]
abbrev ref03_release_r2:List LO:=[lo 5 (.assign (.const (.int .i64 0))) 3]
abbrev ref03_release_r3:List LO:=[lm 9 5 3,lm 10 0 22,lo 11 (.call ⟨.builtin .len,#[.tmp 10],#[22]⟩) 3,lo 12 (.binOp .lss 3 (.tmp 9) (.tmp 11) 3) 4,lm 13 12 4,lmg 14 5 3 13 false,lmg 15 1 22 13 false,lg 16 (.call ⟨.builtin .len,#[.tmp 15],#[22]⟩) 3 13 false,lg 17 (.binOp .lss 3 (.tmp 14) (.tmp 16) 3) 4 13 false,lo 18 (.pick (.tmp 13) (.const (.bool true)) (.tmp 17)) 4]
abbrev ref03_release_r4:List LO:=[lo 6 (.assign (.const (.string ⟨#[]⟩))) 9]
abbrev ref03_release_r5:List LO:=[lo 7 (.assign (.const (.string ⟨#[]⟩))) 9]
abbrev ref03_release_r6:List LO:=[lm 21 5 3,lm 22 0 22,lo 23 (.call ⟨.builtin .len,#[.tmp 22],#[22]⟩) 3,lo 24 (.binOp .lss 3 (.tmp 21) (.tmp 23) 3) 4]
abbrev ref03_release_r7:List LO:=[lm 25 0 22,lm 26 5 3,lo 27 (.indexAddr 22 (.tmp 25) (.tmp 26)) 0,lo 28 (.load 9 (.tmp 27)) 9,lo 6 (.assign (.tmp 28)) 9]
abbrev ref03_release_r8:List LO:=[lm 29 5 3,lm 30 1 22,lo 31 (.call ⟨.builtin .len,#[.tmp 30],#[22]⟩) 3,lo 32 (.binOp .lss 3 (.tmp 29) (.tmp 31) 3) 4]
abbrev ref03_release_r9:List LO:=[lm 33 1 22,lm 34 5 3,lo 35 (.indexAddr 22 (.tmp 33) (.tmp 34)) 0,lo 36 (.load 9 (.tmp 35)) 9,lo 7 (.assign (.tmp 36)) 9]
abbrev ref03_release_r10:List LO:=[lm 37 6 9,lm 38 7 9,lo 39 (.call ⟨.value (.func 73),#[.tmp 37,.tmp 38],#[9,9]⟩) 3,lo 8 (.assign (.tmp 39)) 3]
abbrev ref03_release_r11:List LO:=[lm 40 8 3,lo 41 (.binOp .neq 3 (.tmp 40) (.const (.int .i64 0)) 3) 4]
abbrev ref03_release_r12:List LO:=[lm 42 8 3,lo 4 (.assign (.tmp 42)) 3]
abbrev ref03_release_r13:List LO:=[lm 19 5 3,lo 20 (.binOp .add 3 (.tmp 19) (.const (.int .i64 1)) 3) 3,lo 5 (.assign (.tmp 20)) 3]
abbrev ref03_release_r14:List LO:=[lo 4 (.assign (.const (.int .i64 0))) 3]
abbrev ref03_release_c:LC:=.seq (.reg false ref03_release_r1) (.seq (.seq (.reg false ref03_release_r2) (.block 0 (.loop (.seq (.seq (.reg false ref03_release_r3) (.cond (.tmp 18) .skip (.exit 0))) (.seq (.block 1 (.seq (.reg false ref03_release_r4) (.seq (.reg false ref03_release_r5) (.seq (.seq (.reg false ref03_release_r6) (.cond (.tmp 24) (.reg false ref03_release_r7) .skip)) (.seq (.seq (.reg false ref03_release_r8) (.cond (.tmp 32) (.reg false ref03_release_r9) .skip)) (.seq (.reg false ref03_release_r10) (.seq (.reg false ref03_release_r11) (.cond (.tmp 41) (.seq (.reg false ref03_release_r12) .ret) .skip)))))))) (.reg false ref03_release_r13)))))) (.seq (.reg false ref03_release_r14) .ret))
theorem ref03_release_k:FnOk E 74 43 [.tmp 4] ref03_release_c:=⟨⟨Go.Proofs.Tryz.f74,by kernel_rfl,by kernel_rfl,by kernel_rfl,by kernel_rfl,by kernel_rfl⟩,rfl,rfl⟩
noncomputable def ref03_release_l1 (a0:(List Str)) (a1:(List Str)):Int→Option (Step (Int) ((Int) ⊕ (Unit))):=fun x6=>(if ((decide (x6 < (List.length a0:Int))) || (decide (x6 < (List.length a1:Int))))=true then Option.bind ((if (decide (x6 < (List.length a0:Int)))=true then Option.bind (ixl a0 x6) (fun x16=>some x16) else some []):Option (Str)) (fun x15=>Option.bind ((if (decide (x6 < (List.length a1:Int)))=true then Option.bind (ixl a1 x6) (fun x19=>some x19) else some []):Option (Str)) (fun x18=>Option.bind (ref01_Cmp x15 x18) (fun x20=>(if (x20 != 0)=true then some (Step.done (Sum.inl x20)) else some (Step.next (w64 (x6 + 1))))))) else some (Step.done (Sum.inr ())))
noncomputable def ref03_release (a0:(List Str)) (a1:(List Str)):Option (Int):=Option.bind (loopC (ref03_release_l1 a0 a1) 0) (fun y=>match y with | Sum.inl x13=>some x13 | Sum.inr _=>some 0)
theorem ref03_release_ok (a0:(List Str)) (a1:(List Str)):Ct E 74 [.fsl 1 (List.map cS a0),.fsl 1 (List.map cS a1)] (ref03_release a0 a1) (fun r:Int=>iv r):=ct_intro (N:=43) (L:=ref03_release_c) ref03_release_k rfl (Nat.le_of_ble_eq_true rfl) (by kernel_rfl) (by
 unfold ref03_release
 refine jS ⟨[V 0 (.fsl 1 (List.map cS a0)),V 1 (.fsl 1 (List.map cS a1))],[],0⟩ ?_
 refine jc_seq ?_
 refine jS ⟨[V 0 (.fsl 1 (List.map cS a0)),V 1 (.fsl 1 (List.map cS a1)),V 5 (iv 0)],[],0⟩ ?_
 refine jc_block ?_
 refine jc_bind (fun y=>match y with | Sum.inl x13=>⟨[V 4 (iv x13)],[],0⟩ | Sum.inr _=>⟨[],[],0⟩) (fun y=>match y with | Sum.inl x13=>.ret | Sum.inr _=>(.exit 0)) (jc_loop (fun x6=>⟨[V 0 (.fsl 1 (List.map cS a0)),V 1 (.fsl 1 (List.map cS a1)),V 5 (iv x6)],[],0⟩) (wkR [] (fix_nil _) allp_nil) ?_) ?_
 ·intro x6
  unfold ref03_release_l1
  refine jc_seq ?_
  refine jR ?_
  refine jG 0 10 ⟨[V 0 (.fsl 1 (List.map cS a0)),V 1 (.fsl 1 (List.map cS a1)),V 5 (iv x6),V 18 (bv ((decide (x6 < (List.length (List.map cS a0):Int))) || (decide (x6 < (List.length (List.map cS a1):Int)))))],[],0⟩ ?_
  simp only[List.length_map]
  refine jN ?_
  refine jIf ?_ ?_
  ·refine jc_skip ?_
   refine jx_seqN ?_
   refine jc_seq ?_
   refine jc_block ?_
   refine jS ⟨[V 0 (.fsl 1 (List.map cS a0)),V 1 (.fsl 1 (List.map cS a1)),V 5 (iv x6),V 6 (bs [])],[],0⟩ ?_
   refine jS ⟨[V 0 (.fsl 1 (List.map cS a0)),V 1 (.fsl 1 (List.map cS a1)),V 5 (iv x6),V 6 (bs []),V 7 (bs [])],[],0⟩ ?_
   refine jc_seq ?_
   refine jc_bind (fun x15=>⟨[V 0 (.fsl 1 (List.map cS a0)),V 1 (.fsl 1 (List.map cS a1)),V 5 (iv x6),V 6 (bs x15),V 7 (bs [])],[],0⟩) (fun x15=>.normal) ?_ ?_
   ·refine jR ?_
    refine jG 0 4 ⟨[V 0 (.fsl 1 (List.map cS a0)),V 1 (.fsl 1 (List.map cS a1)),V 5 (iv x6),V 6 (bs []),V 7 (bs []),V 24 (bv (decide (x6 < (List.length (List.map cS a0):Int))))],[],0⟩ ?_
    simp only[List.length_map]
    refine jN ?_
    refine jIf ?_ ?_
    ·refine jc_reg ?_
     refine jG 0 2 ⟨[V 0 (.fsl 1 (List.map cS a0)),V 1 (.fsl 1 (List.map cS a1)),V 5 (iv x6),V 7 (bs []),V 25 (.fsl 1 (List.map cS a0)),V 26 (iv x6)],[],0⟩ ?_
     refine jr_part (i:=2) (mo:=ixl a0 x6) rfl rfl rfl rfl (fun _ hc=>aop_ixf (c:=cS) (sz:=1) (e:=9) (kk:=.i64) (by kernel_rfl) (by kernel_rfl) (by kernel_rfl) (by kernel_rfl) hc) (fun _=>rfl) ?_
     intro x16 h16
     refine jG 3 2 ⟨[V 0 (.fsl 1 (List.map cS a0)),V 1 (.fsl 1 (List.map cS a1)),V 5 (iv x6),V 6 (bs x16),V 7 (bs [])],[],0⟩ ?_
     refine jr_nil rfl ?_
     exact jx_mid rfl (wkR [] (fix_nil _) allp_nil)
    refine jc_skip ?_
    exact jx_mid rfl (wkR [] (fix_nil _) allp_nil)
   intro x15
   refine jx_seqN ?_
   refine jc_seq ?_
   refine jc_bind (fun x18=>⟨[V 0 (.fsl 1 (List.map cS a0)),V 1 (.fsl 1 (List.map cS a1)),V 5 (iv x6),V 6 (bs x15),V 7 (bs x18)],[],0⟩) (fun x18=>.normal) ?_ ?_
   ·refine jR ?_
    refine jG 0 4 ⟨[V 0 (.fsl 1 (List.map cS a0)),V 1 (.fsl 1 (List.map cS a1)),V 5 (iv x6),V 6 (bs x15),V 7 (bs []),V 32 (bv (decide (x6 < (List.length (List.map cS a1):Int))))],[],0⟩ ?_
    simp only[List.length_map]
    refine jN ?_
    refine jIf ?_ ?_
    ·refine jc_reg ?_
     refine jG 0 2 ⟨[V 0 (.fsl 1 (List.map cS a0)),V 1 (.fsl 1 (List.map cS a1)),V 5 (iv x6),V 6 (bs x15),V 33 (.fsl 1 (List.map cS a1)),V 34 (iv x6)],[],0⟩ ?_
     refine jr_part (i:=2) (mo:=ixl a1 x6) rfl rfl rfl rfl (fun _ hc=>aop_ixf (c:=cS) (sz:=1) (e:=9) (kk:=.i64) (by kernel_rfl) (by kernel_rfl) (by kernel_rfl) (by kernel_rfl) hc) (fun _=>rfl) ?_
     intro x19 h19
     refine jG 3 2 ⟨[V 0 (.fsl 1 (List.map cS a0)),V 1 (.fsl 1 (List.map cS a1)),V 5 (iv x6),V 6 (bs x15),V 7 (bs x19)],[],0⟩ ?_
     refine jr_nil rfl ?_
     exact jx_mid rfl (wkR [] (fix_nil _) allp_nil)
    refine jc_skip ?_
    exact jx_mid rfl (wkR [] (fix_nil _) allp_nil)
   intro x18
   refine jx_seqN ?_
   refine jR ?_
   refine jG 0 2 ⟨[V 0 (.fsl 1 (List.map cS a0)),V 1 (.fsl 1 (List.map cS a1)),V 5 (iv x6),V 37 (bs x15),V 38 (bs x18)],[],0⟩ ?_
   refine jK 2 (ref01_Cmp_ok x15 x18) ?_
   intro x20 h20
   refine jG 3 1 ⟨[V 0 (.fsl 1 (List.map cS a0)),V 1 (.fsl 1 (List.map cS a1)),V 5 (iv x6),V 8 (iv x20)],[],0⟩ ?_
   refine jN ?_
   refine jS ⟨[V 0 (.fsl 1 (List.map cS a0)),V 1 (.fsl 1 (List.map cS a1)),V 5 (iv x6),V 8 (iv x20),V 41 (bv (x20 != 0))],[],0⟩ ?_
   refine jIf ?_ ?_
   ·refine jS ⟨[V 4 (iv x20)],[],0⟩ ?_
    refine jc_ret ?_
    refine jx_blkR ?_
    refine jx_seqR ?_
    exact jx_done rfl nofun (wkR [] (fix_nil _) allp_nil)
   refine jc_skip ?_
   refine jx_blkN ?_
   refine jx_seqN ?_
   refine jT ⟨[V 0 (.fsl 1 (List.map cS a0)),V 1 (.fsl 1 (List.map cS a1)),V 5 (iv (w64 (x6 + 1)))],[],0⟩ ?_
   exact jx_next (wkR [] (fix_nil _) allp_nil)
  refine jc_exit ?_
  refine jx_seqE ?_
  exact jx_done rfl nofun (wkR [] (fix_nil _) allp_nil)
 rintro (x13 | _)
 ·refine jx_blkR ?_
  refine jx_seqR ?_
  exact jx_retF (.inr rfl) (v:=iv x13) (by kernel_rfl) rfl (fle_refl _)
 refine jx_blkE ?_
 refine jx_seqN ?_
 refine jS ⟨[V 4 (iv 0)],[],0⟩ ?_
 refine jc_ret ?_
 exact jx_retF (.inr rfl) (v:=iv 0) (by kernel_rfl) rfl (fle_refl _))
abbrev ref03_class_r1:List LO:=[lo 1 (.box 24 (.tmp 0)) 0,lo 2 (.assign (.const (.int .i64 0))) 3]
abbrev ref03_class_r2:List LO:=[lo 3 (.fieldAddr 24 (.tmp 1) 2) 0,lo 4 (.load 5 (.tmp 3)) 5]
abbrev ref03_class_r3:List LO:=[lo 6 (.binOp .eql 5 (.tmp 4) (.const (.int .u8 97)) 5) 4,lo 5 (.assign (.tmp 6)) 4]
abbrev ref03_class_r4:List LO:=[lo 2 (.assign (.const (.int .i64 1))) 3]
abbrev ref03_class_r5:List LO:=[lo 8 (.binOp .eql 5 (.tmp 4) (.const (.int .u8 98)) 5) 4,lo 7 (.assign (.tmp 8)) 4]
abbrev ref03_class_r6:List LO:=[lo 2 (.assign (.const (.int .i64 2))) 3]
abbrev ref03_class_r7:List LO:=[lo 10 (.binOp .eql 5 (.tmp 4) (.const (.int .u8 114)) 5) 4,lo 9 (.assign (.tmp 10)) 4]
abbrev ref03_class_r8:List LO:=[lo 2 (.assign (.const (.int .i64 3))) 3]
abbrev ref03_class_r9:List LO:=[lo 11 (.fieldAddr 24 (.tmp 1) 6) 0,lo 12 (.load 4 (.tmp 11)) 4,lm 13 12 4,lg 14 (.fieldAddr 24 (.tmp 1) 4) 0 13 true,lg 15 (.load 4 (.tmp 14)) 4 13 true,lg 16 (.unOp .not 4 (.tmp 15)) 4 13 true,lo 17 (.pick (.tmp 13) (.tmp 16) (.const (.bool false))) 4]
abbrev ref03_class_r10:List LO:=[lo 2 (.assign (.const (.int .i64 0))) 3]
abbrev ref03_class_r11:List LO:=[lo 2 (.assign (.const (.int .i64 4))) 3]
abbrev ref03_class_c:LC:=.seq (.reg false ref03_class_r1) (.seq (.seq (.reg false ref03_class_r2) (.block 0 (.seq (.reg false ref03_class_r3) (.cond (.tmp 5) (.seq (.reg false ref03_class_r4) .ret) (.seq (.reg false ref03_class_r5) (.cond (.tmp 7) (.seq (.reg false ref03_class_r6) .ret) (.seq (.reg false ref03_class_r7) (.cond (.tmp 9) (.seq (.reg false ref03_class_r8) .ret) .skip)))))))) (.seq (.seq (.reg false ref03_class_r9) (.cond (.tmp 17) (.seq (.reg false ref03_class_r10) .ret) .skip)) (.seq (.reg false ref03_class_r11) .ret)))
theorem ref03_class_k:FnOk E 75 18 [.tmp 2] ref03_class_c:=⟨⟨Go.Proofs.Tryz.f75,by kernel_rfl,by kernel_rfl,by kernel_rfl,by kernel_rfl,by kernel_rfl⟩,rfl,rfl⟩
noncomputable def ref03_class (a0:S_api_Pep):Option (Int):=(if (a0.Pre == 97)=true then some 1 else (if (a0.Pre == 98)=true then some 2 else (if (a0.Pre == 114)=true then some 3 else (if (a0.Dev && (!a0.Post))=true then some 0 else some 4))))
theorem ref03_class_ok (a0:S_api_Pep):Ct E 75 [.agg [bs a0.Epoch,.fsl 1 (List.map cS a0.Release),.s (.int .u8 a0.Pre),bs a0.PreNum,bv a0.Post,bs a0.PostNum,bv a0.Dev,bs a0.DevNum,.fsl 1 (List.map cS a0.Local)]] (ref03_class a0) (fun r:Int=>iv r):=ct_intro (N:=18) (L:=ref03_class_c) ref03_class_k rfl (Nat.le_of_ble_eq_true rfl) (by kernel_rfl) (by
 unfold ref03_class
 refine jS ⟨[V 1 (pt 0 9)],[W 0 9 [bs a0.Epoch,.fsl 1 (List.map cS a0.Release),.s (.int .u8 a0.Pre),bs a0.PreNum,bv a0.Post,bs a0.PostNum,bv a0.Dev,bs a0.DevNum,.fsl 1 (List.map cS a0.Local)]],1⟩ ?_
 refine jc_seq ?_
 refine jS ⟨[V 1 (pt 0 9),V 4 (.s (.int .u8 a0.Pre))],[W 0 9 [bs a0.Epoch,.fsl 1 (List.map cS a0.Release),.s (.int .u8 a0.Pre),bs a0.PreNum,bv a0.Post,bs a0.PostNum,bv a0.Dev,bs a0.DevNum,.fsl 1 (List.map cS a0.Local)]],1⟩ ?_
 refine jc_block ?_
 refine jS ⟨[V 1 (pt 0 9),V 4 (.s (.int .u8 a0.Pre)),V 5 (bv (a0.Pre == 97))],[W 0 9 [bs a0.Epoch,.fsl 1 (List.map cS a0.Release),.s (.int .u8 a0.Pre),bs a0.PreNum,bv a0.Post,bs a0.PostNum,bv a0.Dev,bs a0.DevNum,.fsl 1 (List.map cS a0.Local)]],1⟩ ?_
 refine jIf ?_ ?_
 ·refine jS ⟨[V 2 (iv 1)],[],1⟩ ?_
  refine jc_ret ?_
  refine jx_blkR ?_
  refine jx_seqR ?_
  exact jx_retF (.inr rfl) (v:=iv 1) (by kernel_rfl) rfl (fle_refl _)
 refine jS ⟨[V 1 (pt 0 9),V 4 (.s (.int .u8 a0.Pre)),V 7 (bv (a0.Pre == 98))],[W 0 9 [bs a0.Epoch,.fsl 1 (List.map cS a0.Release),.s (.int .u8 a0.Pre),bs a0.PreNum,bv a0.Post,bs a0.PostNum,bv a0.Dev,bs a0.DevNum,.fsl 1 (List.map cS a0.Local)]],1⟩ ?_
 refine jIf ?_ ?_
 ·refine jS ⟨[V 2 (iv 2)],[],1⟩ ?_
  refine jc_ret ?_
  refine jx_blkR ?_
  refine jx_seqR ?_
  exact jx_retF (.inr rfl) (v:=iv 2) (by kernel_rfl) rfl (fle_refl _)
 refine jS ⟨[V 1 (pt 0 9),V 9 (bv (a0.Pre == 114))],[W 0 9 [bs a0.Epoch,.fsl 1 (List.map cS a0.Release),.s (.int .u8 a0.Pre),bs a0.PreNum,bv a0.Post,bs a0.PostNum,bv a0.Dev,bs a0.DevNum,.fsl 1 (List.map cS a0.Local)]],1⟩ ?_
 refine jIf ?_ ?_
 ·refine jS ⟨[V 2 (iv 3)],[],1⟩ ?_
  refine jc_ret ?_
  refine jx_blkR ?_
  refine jx_seqR ?_
  exact jx_retF (.inr rfl) (v:=iv 3) (by kernel_rfl) rfl (fle_refl _)
 refine jc_skip ?_
 refine jx_blkN ?_
 refine jx_seqN ?_
 refine jc_seq ?_
 refine jS ⟨[V 17 (bv (a0.Dev && (!a0.Post)))],[],1⟩ ?_
 refine jIf ?_ ?_
 ·refine jS ⟨[V 2 (iv 0)],[],1⟩ ?_
  refine jc_ret ?_
  refine jx_seqR ?_
  exact jx_retF (.inr rfl) (v:=iv 0) (by kernel_rfl) rfl (fle_refl _)
 refine jc_skip ?_
 refine jx_seqN ?_
 refine jS ⟨[V 2 (iv 4)],[],1⟩ ?_
 refine jc_ret ?_
 exact jx_retF (.inr rfl) (v:=iv 4) (by kernel_rfl) rfl (fle_refl _))
abbrev ref03_locals_r1:List LO:=[lo 4 (.assign (.const (.int .i64 0))) 3]
abbrev ref03_locals_r2:List LO:=[lo 5 (.assign (.const (.int .i64 0))) 3]
abbrev ref03_locals_r3:List LO:=[lm 9 5 3,lm 10 0 22,lo 11 (.call ⟨.builtin .len,#[.tmp 10],#[22]⟩) 3,lo 12 (.binOp .lss 3 (.tmp 9) (.tmp 11) 3) 4,lm 13 12 4,lmg 14 5 3 13 true,lmg 15 1 22 13 true,lg 16 (.call ⟨.builtin .len,#[.tmp 15],#[22]⟩) 3 13 true,lg 17 (.binOp .lss 3 (.tmp 14) (.tmp 16) 3) 4 13 true,lo 18 (.pick (.tmp 13) (.tmp 17) (.const (.bool false))) 4]
abbrev ref03_locals_r4:List LO:=[lm 21 0 22,lm 22 5 3,lo 23 (.indexAddr 22 (.tmp 21) (.tmp 22)) 0,lo 24 (.load 9 (.tmp 23)) 9,lo 25 (.call ⟨.value (.func 44),#[.tmp 24,.const (.int .i64 0),.const (.int .i64 1)],#[9,3,3]⟩) 3,lm 26 0 22,lm 27 5 3,lo 28 (.indexAddr 22 (.tmp 26) (.tmp 27)) 0,lo 29 (.load 9 (.tmp 28)) 9,lo 30 (.call ⟨.builtin .len,#[.tmp 29],#[9]⟩) 3,lo 31 (.binOp .eql 3 (.tmp 25) (.tmp 30) 3) 4,lo 6 (.assign (.tmp 31)) 4]
abbrev ref03_locals_r5:List LO:=[lm 32 1 22,lm 33 5 3,lo 34 (.indexAddr 22 (.tmp 32) (.tmp 33)) 0,lo 35 (.load 9 (.tmp 34)) 9,lo 36 (.call ⟨.value (.func 44),#[.tmp 35,.const (.int .i64 0),.const (.int .i64 1)],#[9,3,3]⟩) 3,lm 37 1 22,lm 38 5 3,lo 39 (.indexAddr 22 (.tmp 37) (.tmp 38)) 0,lo 40 (.load 9 (.tmp 39)) 9,lo 41 (.call ⟨.builtin .len,#[.tmp 40],#[9]⟩) 3,lo 42 (.binOp .eql 3 (.tmp 36) (.tmp 41) 3) 4,lo 7 (.assign (.tmp 42)) 4]
abbrev ref03_locals_r6:List LO:=[lm 43 6 4,lo 44 (.call ⟨.value (.func 55),#[.tmp 43],#[4]⟩) 3,lm 45 7 4,lo 46 (.call ⟨.value (.func 55),#[.tmp 45],#[4]⟩) 3,lo 47 (.call ⟨.value (.func 54),#[.tmp 44,.tmp 46],#[3,3]⟩) 3,lo 8 (.assign (.tmp 47)) 3]
abbrev ref03_locals_r7:List LO:=[lm 48 8 3,lo 49 (.binOp .eql 3 (.tmp 48) (.const (.int .i64 0)) 3) 4,lm 50 49 4,lmg 51 6 4 50 true,lo 52 (.pick (.tmp 50) (.tmp 51) (.const (.bool false))) 4]
abbrev ref03_locals_r8:List LO:=[lm 53 0 22,lm 54 5 3,lo 55 (.indexAddr 22 (.tmp 53) (.tmp 54)) 0,lo 56 (.load 9 (.tmp 55)) 9,lm 57 1 22,lm 58 5 3,lo 59 (.indexAddr 22 (.tmp 57) (.tmp 58)) 0,lo 60 (.load 9 (.tmp 59)) 9,lo 61 (.call ⟨.value (.func 73),#[.tmp 56,.tmp 60],#[9,9]⟩) 3,lo 8 (.assign (.tmp 61)) 3]
abbrev ref03_locals_r9:List LO:=[lm 62 8 3,lo 63 (.binOp .eql 3 (.tmp 62) (.const (.int .i64 0)) 3) 4]
abbrev ref03_locals_r10:List LO:=[lm 64 0 22,lm 65 5 3,lo 66 (.indexAddr 22 (.tmp 64) (.tmp 65)) 0,lo 67 (.load 9 (.tmp 66)) 9,lm 68 1 22,lm 69 5 3,lo 70 (.indexAddr 22 (.tmp 68) (.tmp 69)) 0,lo 71 (.load 9 (.tmp 70)) 9,lo 72 (.call ⟨.value (.func 107),#[.tmp 67,.tmp 71],#[9,9]⟩) 3,lo 8 (.assign (.tmp 72)) 3]
abbrev ref03_locals_r11:List LO:=[lm 73 8 3,lo 74 (.binOp .neq 3 (.tmp 73) (.const (.int .i64 0)) 3) 4]
abbrev ref03_locals_r12:List LO:=[lm 75 8 3,lo 4 (.assign (.tmp 75)) 3]
abbrev ref03_locals_r13:List LO:=[lm 19 5 3,lo 20 (.binOp .add 3 (.tmp 19) (.const (.int .i64 1)) 3) 3,lo 5 (.assign (.tmp 20)) 3]
abbrev ref03_locals_r14:List LO:=[lm 76 0 22,lo 77 (.call ⟨.builtin .len,#[.tmp 76],#[22]⟩) 3,lm 78 1 22,lo 79 (.call ⟨.builtin .len,#[.tmp 78],#[22]⟩) 3,lo 80 (.call ⟨.value (.func 54),#[.tmp 77,.tmp 79],#[3,3]⟩) 3,lo 4 (.assign (.tmp 80)) 3]
abbrev ref03_locals_c:LC:=.seq (.reg false ref03_locals_r1) (.seq (.seq (.reg false ref03_locals_r2) (.block 0 (.loop (.seq (.seq (.reg false ref03_locals_r3) (.cond (.tmp 18) .skip (.exit 0))) (.seq (.block 1 (.seq (.reg true ref03_locals_r4) (.seq (.reg true ref03_locals_r5) (.seq (.reg false ref03_locals_r6) (.seq (.seq (.reg false ref03_locals_r7) (.cond (.tmp 52) (.reg true ref03_locals_r8) (.seq (.reg false ref03_locals_r9) (.cond (.tmp 63) (.reg true ref03_locals_r10) .skip)))) (.seq (.reg false ref03_locals_r11) (.cond (.tmp 74) (.seq (.reg false ref03_locals_r12) .ret) .skip))))))) (.reg false ref03_locals_r13)))))) (.seq (.reg false ref03_locals_r14) .ret))
theorem ref03_locals_k:FnOk E 76 81 [.tmp 4] ref03_locals_c:=⟨⟨Go.Proofs.Tryz.f76,by kernel_rfl,by kernel_rfl,by kernel_rfl,by kernel_rfl,by kernel_rfl⟩,rfl,rfl⟩
noncomputable def ref03_locals_l1 (a0:(List Str)) (a1:(List Str)):Int→Option (Step (Int) ((Int) ⊕ (Unit))):=fun x17=>(if ((decide (x17 < (List.length a0:Int))) && (decide (x17 < (List.length a1:Int))))=true then Option.bind (ixl a0 x17) (fun x36=>Option.bind (ref01_Run x36 0 1) (fun x37=>Option.bind (ixl a0 x17) (fun x38=>Option.bind (ixl a1 x17) (fun x39=>Option.bind (ref01_Run x39 0 1) (fun x40=>Option.bind (ixl a1 x17) (fun x41=>Option.bind (ref03_rank (x37 == (List.length x38:Int))) (fun x42=>Option.bind (ref03_rank (x40 == (List.length x41:Int))) (fun x43=>Option.bind (ref03_ints x42 x43) (fun x44=>Option.bind ((if ((x44 == 0) && (x37 == (List.length x38:Int)))=true then Option.bind (ixl a0 x17) (fun x52=>Option.bind (ixl a1 x17) (fun x53=>Option.bind (ref01_Cmp x52 x53) (fun x54=>some x54))) else (if (x44 == 0)=true then Option.bind (ixl a0 x17) (fun x55=>Option.bind (ixl a1 x17) (fun x56=>Option.bind (ref01_Texts x55 x56) (fun x57=>some x57))) else some x44)):Option (Int)) (fun x51=>(if (x51 != 0)=true then some (Step.done (Sum.inl x51)) else some (Step.next (w64 (x17 + 1)))))))))))))) else some (Step.done (Sum.inr ())))
noncomputable def ref03_locals (a0:(List Str)) (a1:(List Str)):Option (Int):=Option.bind (loopC (ref03_locals_l1 a0 a1) 0) (fun y=>match y with | Sum.inl x35=>some x35 | Sum.inr _=>Option.bind (ref03_ints (List.length a0:Int) (List.length a1:Int)) (fun x58=>some x58))
theorem ref03_locals_ok (a0:(List Str)) (a1:(List Str)):Ct E 76 [.fsl 1 (List.map cS a0),.fsl 1 (List.map cS a1)] (ref03_locals a0 a1) (fun r:Int=>iv r):=ct_intro (N:=81) (L:=ref03_locals_c) ref03_locals_k rfl (Nat.le_of_ble_eq_true rfl) (by kernel_rfl) (by
 unfold ref03_locals
 refine jS ⟨[V 0 (.fsl 1 (List.map cS a0)),V 1 (.fsl 1 (List.map cS a1))],[],0⟩ ?_
 refine jc_seq ?_
 refine jS ⟨[V 0 (.fsl 1 (List.map cS a0)),V 1 (.fsl 1 (List.map cS a1)),V 5 (iv 0)],[],0⟩ ?_
 refine jc_block ?_
 refine jc_bind (fun y=>match y with | Sum.inl x35=>⟨[V 4 (iv x35)],[],0⟩ | Sum.inr _=>⟨[V 0 (.fsl 1 (List.map cS a0)),V 1 (.fsl 1 (List.map cS a1))],[],0⟩) (fun y=>match y with | Sum.inl x35=>.ret | Sum.inr _=>(.exit 0)) (jc_loop (fun x17=>⟨[V 0 (.fsl 1 (List.map cS a0)),V 1 (.fsl 1 (List.map cS a1)),V 5 (iv x17)],[],0⟩) (wkR [] (fix_nil _) allp_nil) ?_) ?_
 ·intro x17
  unfold ref03_locals_l1
  refine jc_seq ?_
  refine jR ?_
  refine jG 0 10 ⟨[V 0 (.fsl 1 (List.map cS a0)),V 1 (.fsl 1 (List.map cS a1)),V 5 (iv x17),V 18 (bv ((decide (x17 < (List.length (List.map cS a0):Int))) && (decide (x17 < (List.length (List.map cS a1):Int)))))],[],0⟩ ?_
  simp only[List.length_map]
  refine jN ?_
  refine jIf ?_ ?_
  ·refine jc_skip ?_
   refine jx_seqN ?_
   refine jc_seq ?_
   refine jc_block ?_
   refine jR ?_
   refine jG 0 2 ⟨[V 0 (.fsl 1 (List.map cS a0)),V 1 (.fsl 1 (List.map cS a1)),V 5 (iv x17),V 21 (.fsl 1 (List.map cS a0)),V 22 (iv x17)],[],0⟩ ?_
   refine jr_part (i:=2) (mo:=ixl a0 x17) rfl rfl rfl rfl (fun _ hc=>aop_ixf (c:=cS) (sz:=1) (e:=9) (kk:=.i64) (by kernel_rfl) (by kernel_rfl) (by kernel_rfl) (by kernel_rfl) hc) (fun _=>rfl) ?_
   intro x36 h36
   refine jG 3 1 ⟨[V 0 (.fsl 1 (List.map cS a0)),V 1 (.fsl 1 (List.map cS a1)),V 5 (iv x17),V 24 (bs x36)],[],0⟩ ?_
   refine jK 4 (ref01_Run_ok x36 0 1) ?_
   intro x37 h37
   refine jG 5 2 ⟨[V 0 (.fsl 1 (List.map cS a0)),V 1 (.fsl 1 (List.map cS a1)),V 5 (iv x17),V 25 (iv x37),V 26 (.fsl 1 (List.map cS a0)),V 27 (iv x17)],[],0⟩ ?_
   refine jr_part (i:=7) (mo:=ixl a0 x17) rfl rfl rfl rfl (fun _ hc=>aop_ixf (c:=cS) (sz:=1) (e:=9) (kk:=.i64) (by kernel_rfl) (by kernel_rfl) (by kernel_rfl) (by kernel_rfl) hc) (fun _=>rfl) ?_
   intro x38 h38
   refine jG 8 4 ⟨[V 0 (.fsl 1 (List.map cS a0)),V 1 (.fsl 1 (List.map cS a1)),V 5 (iv x17),V 6 (bv (x37 == (List.length x38:Int)))],[],0⟩ ?_
   refine jN ?_
   refine jR ?_
   refine jG 0 2 ⟨[V 0 (.fsl 1 (List.map cS a0)),V 1 (.fsl 1 (List.map cS a1)),V 5 (iv x17),V 6 (bv (x37 == (List.length x38:Int))),V 32 (.fsl 1 (List.map cS a1)),V 33 (iv x17)],[],0⟩ ?_
   refine jr_part (i:=2) (mo:=ixl a1 x17) rfl rfl rfl rfl (fun _ hc=>aop_ixf (c:=cS) (sz:=1) (e:=9) (kk:=.i64) (by kernel_rfl) (by kernel_rfl) (by kernel_rfl) (by kernel_rfl) hc) (fun _=>rfl) ?_
   intro x39 h39
   refine jG 3 1 ⟨[V 0 (.fsl 1 (List.map cS a0)),V 1 (.fsl 1 (List.map cS a1)),V 5 (iv x17),V 6 (bv (x37 == (List.length x38:Int))),V 35 (bs x39)],[],0⟩ ?_
   refine jK 4 (ref01_Run_ok x39 0 1) ?_
   intro x40 h40
   refine jG 5 2 ⟨[V 0 (.fsl 1 (List.map cS a0)),V 1 (.fsl 1 (List.map cS a1)),V 5 (iv x17),V 6 (bv (x37 == (List.length x38:Int))),V 36 (iv x40),V 37 (.fsl 1 (List.map cS a1)),V 38 (iv x17)],[],0⟩ ?_
   refine jr_part (i:=7) (mo:=ixl a1 x17) rfl rfl rfl rfl (fun _ hc=>aop_ixf (c:=cS) (sz:=1) (e:=9) (kk:=.i64) (by kernel_rfl) (by kernel_rfl) (by kernel_rfl) (by kernel_rfl) hc) (fun _=>rfl) ?_
   intro x41 h41
   refine jG 8 4 ⟨[V 0 (.fsl 1 (List.map cS a0)),V 1 (.fsl 1 (List.map cS a1)),V 5 (iv x17),V 6 (bv (x37 == (List.length x38:Int))),V 7 (bv (x40 == (List.length x41:Int)))],[],0⟩ ?_
   refine jN ?_
   refine jR ?_
   refine jG 0 1 ⟨[V 0 (.fsl 1 (List.map cS a0)),V 1 (.fsl 1 (List.map cS a1)),V 5 (iv x17),V 6 (bv (x37 == (List.length x38:Int))),V 7 (bv (x40 == (List.length x41:Int))),V 43 (bv (x37 == (List.length x38:Int)))],[],0⟩ ?_
   refine jK 1 (ref03_rank_ok (x37 == (List.length x38:Int))) ?_
   intro x42 h42
   refine jG 2 1 ⟨[V 0 (.fsl 1 (List.map cS a0)),V 1 (.fsl 1 (List.map cS a1)),V 5 (iv x17),V 6 (bv (x37 == (List.length x38:Int))),V 44 (iv x42),V 45 (bv (x40 == (List.length x41:Int)))],[],0⟩ ?_
   refine jK 3 (ref03_rank_ok (x40 == (List.length x41:Int))) ?_
   intro x43 h43
   refine jK 4 (ref03_ints_ok x42 x43) ?_
   intro x44 h44
   refine jG 5 1 ⟨[V 0 (.fsl 1 (List.map cS a0)),V 1 (.fsl 1 (List.map cS a1)),V 5 (iv x17),V 6 (bv (x37 == (List.length x38:Int))),V 8 (iv x44)],[],0⟩ ?_
   refine jN ?_
   refine jc_seq ?_
   refine jc_bind (fun x51=>⟨[V 0 (.fsl 1 (List.map cS a0)),V 1 (.fsl 1 (List.map cS a1)),V 5 (iv x17),V 8 (iv x51)],[],0⟩) (fun x51=>.normal) ?_ ?_
   ·refine jS ⟨[V 0 (.fsl 1 (List.map cS a0)),V 1 (.fsl 1 (List.map cS a1)),V 5 (iv x17),V 8 (iv x44),V 52 (bv ((x44 == 0) && (x37 == (List.length x38:Int))))],[],0⟩ ?_
    refine jIf ?_ ?_
    ·refine jc_reg ?_
     refine jG 0 2 ⟨[V 0 (.fsl 1 (List.map cS a0)),V 1 (.fsl 1 (List.map cS a1)),V 5 (iv x17),V 53 (.fsl 1 (List.map cS a0)),V 54 (iv x17)],[],0⟩ ?_
     refine jr_part (i:=2) (mo:=ixl a0 x17) rfl rfl rfl rfl (fun _ hc=>aop_ixf (c:=cS) (sz:=1) (e:=9) (kk:=.i64) (by kernel_rfl) (by kernel_rfl) (by kernel_rfl) (by kernel_rfl) hc) (fun _=>rfl) ?_
     intro x52 h52
     refine jG 3 3 ⟨[V 0 (.fsl 1 (List.map cS a0)),V 1 (.fsl 1 (List.map cS a1)),V 5 (iv x17),V 56 (bs x52),V 57 (.fsl 1 (List.map cS a1)),V 58 (iv x17)],[],0⟩ ?_
     refine jr_part (i:=6) (mo:=ixl a1 x17) rfl rfl rfl rfl (fun _ hc=>aop_ixf (c:=cS) (sz:=1) (e:=9) (kk:=.i64) (by kernel_rfl) (by kernel_rfl) (by kernel_rfl) (by kernel_rfl) hc) (fun _=>rfl) ?_
     intro x53 h53
     refine jG 7 1 ⟨[V 0 (.fsl 1 (List.map cS a0)),V 1 (.fsl 1 (List.map cS a1)),V 5 (iv x17),V 56 (bs x52),V 60 (bs x53)],[],0⟩ ?_
     refine jK 8 (ref01_Cmp_ok x52 x53) ?_
     intro x54 h54
     refine jG 9 1 ⟨[V 0 (.fsl 1 (List.map cS a0)),V 1 (.fsl 1 (List.map cS a1)),V 5 (iv x17),V 8 (iv x54)],[],0⟩ ?_
     refine jr_nil rfl ?_
     exact jx_mid rfl (wkR [] (fix_nil _) allp_nil)
    refine jS ⟨[V 0 (.fsl 1 (List.map cS a0)),V 1 (.fsl 1 (List.map cS a1)),V 5 (iv x17),V 8 (iv x44),V 63 (bv (x44 == 0))],[],0⟩ ?_
    refine jIf ?_ ?_
    ·refine jc_reg ?_
     refine jG 0 2 ⟨[V 0 (.fsl 1 (List.map cS a0)),V 1 (.fsl 1 (List.map cS a1)),V 5 (iv x17),V 64 (.fsl 1 (List.map cS a0)),V 65 (iv x17)],[],0⟩ ?_
     refine jr_part (i:=2) (mo:=ixl a0 x17) rfl rfl rfl rfl (fun _ hc=>aop_ixf (c:=cS) (sz:=1) (e:=9) (kk:=.i64) (by kernel_rfl) (by kernel_rfl) (by kernel_rfl) (by kernel_rfl) hc) (fun _=>rfl) ?_
     intro x55 h55
     refine jG 3 3 ⟨[V 0 (.fsl 1 (List.map cS a0)),V 1 (.fsl 1 (List.map cS a1)),V 5 (iv x17),V 67 (bs x55),V 68 (.fsl 1 (List.map cS a1)),V 69 (iv x17)],[],0⟩ ?_
     refine jr_part (i:=6) (mo:=ixl a1 x17) rfl rfl rfl rfl (fun _ hc=>aop_ixf (c:=cS) (sz:=1) (e:=9) (kk:=.i64) (by kernel_rfl) (by kernel_rfl) (by kernel_rfl) (by kernel_rfl) hc) (fun _=>rfl) ?_
     intro x56 h56
     refine jG 7 1 ⟨[V 0 (.fsl 1 (List.map cS a0)),V 1 (.fsl 1 (List.map cS a1)),V 5 (iv x17),V 67 (bs x55),V 71 (bs x56)],[],0⟩ ?_
     refine jK 8 (ref01_Texts_ok x55 x56) ?_
     intro x57 h57
     refine jG 9 1 ⟨[V 0 (.fsl 1 (List.map cS a0)),V 1 (.fsl 1 (List.map cS a1)),V 5 (iv x17),V 8 (iv x57)],[],0⟩ ?_
     refine jr_nil rfl ?_
     exact jx_mid rfl (wkR [] (fix_nil _) allp_nil)
    refine jc_skip ?_
    exact jx_mid rfl (wkR [] (fix_nil _) allp_nil)
   intro x51
   refine jx_seqN ?_
   refine jS ⟨[V 0 (.fsl 1 (List.map cS a0)),V 1 (.fsl 1 (List.map cS a1)),V 5 (iv x17),V 8 (iv x51),V 74 (bv (x51 != 0))],[],0⟩ ?_
   refine jIf ?_ ?_
   ·refine jS ⟨[V 4 (iv x51)],[],0⟩ ?_
    refine jc_ret ?_
    refine jx_blkR ?_
    refine jx_seqR ?_
    exact jx_done rfl nofun (wkR [] (fix_nil _) allp_nil)
   refine jc_skip ?_
   refine jx_blkN ?_
   refine jx_seqN ?_
   refine jT ⟨[V 0 (.fsl 1 (List.map cS a0)),V 1 (.fsl 1 (List.map cS a1)),V 5 (iv (w64 (x17 + 1)))],[],0⟩ ?_
   exact jx_next (wkR [] (fix_nil _) allp_nil)
  refine jc_exit ?_
  refine jx_seqE ?_
  exact jx_done rfl nofun (wkR [] (fix_nil _) allp_nil)
 rintro (x35 | _)
 ·refine jx_blkR ?_
  refine jx_seqR ?_
  exact jx_retF (.inr rfl) (v:=iv x35) (by kernel_rfl) rfl (fle_refl _)
 refine jx_blkE ?_
 refine jx_seqN ?_
 refine jR ?_
 refine jG 0 4 ⟨[V 77 (iv (List.length (List.map cS a0):Int)),V 79 (iv (List.length (List.map cS a1):Int))],[],0⟩ ?_
 simp only[List.length_map]
 refine jK 4 (ref03_ints_ok (List.length a0:Int) (List.length a1:Int)) ?_
 intro x58 h58
 refine jG 5 1 ⟨[V 4 (iv x58)],[],0⟩ ?_
 refine jN ?_
 refine jc_ret ?_
 exact jx_retF (.inr rfl) (v:=iv x58) (by kernel_rfl) rfl (fle_refl _))
end Go.Vm

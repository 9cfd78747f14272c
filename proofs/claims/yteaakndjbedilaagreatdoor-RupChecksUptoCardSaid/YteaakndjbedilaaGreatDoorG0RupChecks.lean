/- The law RupChecks, a part of its proof: what the functions that it reaches compute. -/
import Derived.Test.YteaakndjbedilaaGreatDoorDx51abfb86
set_option linter.unusedVariables false
set_option linter.unusedSimpArgs false
set_option linter.unusedVariables false
namespace Go.Vm
open Go
abbrev c_L3 (x:List Int):List AV:=[.fsl 1 (List.map cI x)]
theorem ni_L3 (x:List Int):NoIds (c_L3 x):=noids_cons (noid_fsl _ _) noids_nil
theorem fz_L3 (x:List Int):Frz (c_L3 x):=frz_fsl frz_nil
set_option maxRecDepth 100000
set_option maxHeartbeats 0
set_option linter.unusedSimpArgs false
abbrev slices_Index_int_int_r1:List LO:=[lo 4 (.assign (.const (.int .i64 0))) 3]
abbrev slices_Index_int_int_r2:List LO:=[lm 6 0 23,lo 7 (.call ⟨.builtin .len,#[.tmp 6],#[23]⟩) 3,lo 8 (.move (.const (.int .i64 0))) 3]
abbrev slices_Index_int_int_r3:List LO:=[lo 9 (.binOp .lss 3 (.tmp 8) (.tmp 7) 3) 0]
abbrev slices_Index_int_int_r4:List LO:=[lm 10 8 3,lo 5 (.assign (.tmp 10)) 3]
abbrev slices_Index_int_int_r5:List LO:=[lm 11 1 3,lm 12 0 23,lm 13 5 3,lo 14 (.indexAddr 23 (.tmp 12) (.tmp 13)) 0,lo 15 (.load 3 (.tmp 14)) 3,lo 16 (.binOp .eql 3 (.tmp 11) (.tmp 15) 3) 4]
abbrev slices_Index_int_int_r6:List LO:=[lm 17 5 3,lo 4 (.assign (.tmp 17)) 3]
abbrev slices_Index_int_int_r7:List LO:=[lo 18 (.binOp .add 3 (.tmp 8) (.const (.int .i64 1)) 3) 3,lm 8 18 3]
abbrev slices_Index_int_int_r8:List LO:=[lo 4 (.assign (.const (.int .i64 (-1)))) 3]
abbrev slices_Index_int_int_c:LC:=.seq (.reg false slices_Index_int_int_r1) (.seq (.seq (.reg false slices_Index_int_int_r2) (.block 0 (.loop (.seq (.reg false slices_Index_int_int_r3) (.seq (.cond (.tmp 9) .skip (.exit 0)) (.seq (.block 1 (.seq (.reg false slices_Index_int_int_r4) (.seq (.reg false slices_Index_int_int_r5) (.cond (.tmp 16) (.seq (.reg false slices_Index_int_int_r6) .ret) .skip)))) (.reg false slices_Index_int_int_r7))))))) (.seq (.reg false slices_Index_int_int_r8) .ret))
theorem slices_Index_int_int_k:FnOk E0 59 19 [.tmp 4] slices_Index_int_int_c:=⟨⟨Go.Proofs.Tryz.f59,by kernel_rfl,by kernel_rfl,by kernel_rfl,by kernel_rfl,by kernel_rfl⟩,rfl,rfl⟩
noncomputable def slices_Index_int_int_l1 (a0:(List Int)) (a1:Int):Int→Option (Step (Int) ((Int) ⊕ (Unit))):=fun x2=>(if (decide (x2 < (List.length a0:Int)))=true then Option.bind (ixl a0 x2) (fun x6=>(if (a1 == x6)=true then some (Step.done (Sum.inl x2)) else some (Step.next (w64 (x2 + 1))))) else some (Step.done (Sum.inr ())))
noncomputable def slices_Index_int_int (a0:(List Int)) (a1:Int):Option (Int):=Option.bind (loopC (slices_Index_int_int_l1 a0 a1) 0) (fun y=>match y with | Sum.inl x5=>some x5 | Sum.inr _=>some (-1))
theorem slices_Index_int_int_ok (a0:(List Int)) (a1:Int):Ct E0 59 [.fsl 1 (List.map cI a0),iv a1] (slices_Index_int_int a0 a1) (fun r:Int=>iv r):=ct_intro (N:=19) (L:=slices_Index_int_int_c) slices_Index_int_int_k rfl (Nat.le_of_ble_eq_true rfl) (by kernel_rfl) (by
 unfold slices_Index_int_int
 refine jS ⟨[V 0 (.fsl 1 (List.map cI a0)),V 1 (iv a1)],[],0⟩ ?_
 refine jc_seq ?_
 refine jR ?_
 refine jG 0 3 ⟨[V 0 (.fsl 1 (List.map cI a0)),V 1 (iv a1),V 7 (iv (List.length (List.map cI a0):Int)),V 8 (iv 0)],[],0⟩ ?_
 simp only[List.length_map]
 refine jN ?_
 refine jc_block ?_
 refine jc_bind (fun y=>match y with | Sum.inl x5=>⟨[V 4 (iv x5)],[],0⟩ | Sum.inr _=>⟨[],[],0⟩) (fun y=>match y with | Sum.inl x5=>.ret | Sum.inr _=>(.exit 0)) (jc_loop (fun x2=>⟨[V 0 (.fsl 1 (List.map cI a0)),V 1 (iv a1),V 7 (iv (List.length a0:Int)),V 8 (iv x2)],[],0⟩) (wkR [] (fix_nil _) allp_nil) ?_) ?_
 ·intro x2
  unfold slices_Index_int_int_l1
  refine jS ⟨[V 0 (.fsl 1 (List.map cI a0)),V 1 (iv a1),V 7 (iv (List.length a0:Int)),V 8 (iv x2),V 9 (bv (decide (x2 < (List.length a0:Int))))],[],0⟩ ?_
  refine jc_seq ?_
  refine jIf ?_ ?_
  ·refine jc_skip ?_
   refine jx_seqN ?_
   refine jc_seq ?_
   refine jc_block ?_
   refine jS ⟨[V 0 (.fsl 1 (List.map cI a0)),V 1 (iv a1),V 5 (iv x2),V 7 (iv (List.length a0:Int)),V 8 (iv x2)],[],0⟩ ?_
   refine jR ?_
   refine jG 0 3 ⟨[V 0 (.fsl 1 (List.map cI a0)),V 1 (iv a1),V 5 (iv x2),V 7 (iv (List.length a0:Int)),V 8 (iv x2),V 11 (iv a1),V 12 (.fsl 1 (List.map cI a0)),V 13 (iv x2)],[],0⟩ ?_
   refine jr_part (i:=3) (mo:=ixl a0 x2) rfl rfl rfl rfl (fun _ hc=>aop_ixf (c:=cI) (sz:=1) (e:=3) (kk:=.i64) (by kernel_rfl) (by kernel_rfl) (by kernel_rfl) (by kernel_rfl) hc) (fun _=>rfl) ?_
   intro x6 h6
   refine jG 4 2 ⟨[V 0 (.fsl 1 (List.map cI a0)),V 1 (iv a1),V 5 (iv x2),V 7 (iv (List.length a0:Int)),V 8 (iv x2),V 16 (bv (a1 == x6))],[],0⟩ ?_
   refine jN ?_
   refine jIf ?_ ?_
   ·refine jS ⟨[V 4 (iv x2)],[],0⟩ ?_
    refine jc_ret ?_
    refine jx_blkR ?_
    refine jx_seqR ?_
    exact jx_done rfl nofun (wkR [] (fix_nil _) allp_nil)
   refine jc_skip ?_
   refine jx_blkN ?_
   refine jx_seqN ?_
   refine jT ⟨[V 0 (.fsl 1 (List.map cI a0)),V 1 (iv a1),V 7 (iv (List.length a0:Int)),V 8 (iv (w64 (x2 + 1)))],[],0⟩ ?_
   exact jx_next (wkR [] (fix_nil _) allp_nil)
  refine jc_exit ?_
  refine jx_seqE ?_
  exact jx_done rfl nofun (wkR [] (fix_nil _) allp_nil)
 rintro (x5 | _)
 ·refine jx_blkR ?_
  refine jx_seqR ?_
  exact jx_retF (.inr rfl) (v:=iv x5) (by kernel_rfl) rfl (fle_refl _)
 refine jx_blkE ?_
 refine jx_seqN ?_
 refine jS ⟨[V 4 (iv (-1))],[],0⟩ ?_
 refine jc_ret ?_
 exact jx_retF (.inr rfl) (v:=iv (-1)) (by kernel_rfl) rfl (fle_refl _))
abbrev slices_Contains_int_int_r1:List LO:=[lo 4 (.assign (.const (.bool false))) 4]
abbrev slices_Contains_int_int_r2:List LO:=[lm 5 0 23,lm 6 1 3,lo 7 (.call ⟨.value (.func 59),#[.tmp 5,.tmp 6],#[23,3]⟩) 3,lo 8 (.binOp .geq 3 (.tmp 7) (.const (.int .i64 0)) 3) 4,lo 4 (.assign (.tmp 8)) 4]
abbrev slices_Contains_int_int_c:LC:=.seq (.reg false slices_Contains_int_int_r1) (.seq (.reg false slices_Contains_int_int_r2) .ret)
theorem slices_Contains_int_int_k:FnOk E0 40 9 [.tmp 4] slices_Contains_int_int_c:=⟨⟨Go.Proofs.Tryz.f40,by kernel_rfl,by kernel_rfl,by kernel_rfl,by kernel_rfl,by kernel_rfl⟩,rfl,rfl⟩
noncomputable def slices_Contains_int_int (a0:(List Int)) (a1:Int):Option (Bool):=Option.bind (slices_Index_int_int a0 a1) (fun x1=>some (decide (x1≥0)))
theorem slices_Contains_int_int_ok (a0:(List Int)) (a1:Int):Ct E0 40 [.fsl 1 (List.map cI a0),iv a1] (slices_Contains_int_int a0 a1) (fun r:Bool=>bv r):=ct_intro (N:=9) (L:=slices_Contains_int_int_c) slices_Contains_int_int_k rfl (Nat.le_of_ble_eq_true rfl) (by kernel_rfl) (by
 unfold slices_Contains_int_int
 refine jS ⟨[V 0 (.fsl 1 (List.map cI a0)),V 1 (iv a1)],[],0⟩ ?_
 refine jR ?_
 refine jG 0 2 ⟨[V 5 (.fsl 1 (List.map cI a0)),V 6 (iv a1)],[],0⟩ ?_
 refine jK 2 (slices_Index_int_int_ok a0 a1) ?_
 intro x1 h1
 refine jG 3 2 ⟨[V 4 (bv (decide (x1≥0)))],[],0⟩ ?_
 refine jN ?_
 refine jc_ret ?_
 exact jx_retF (.inr rfl) (v:=bv (decide (x1≥0))) (by kernel_rfl) rfl (fle_refl _))
abbrev rup_literal_r1:List LO:=[lo 2 (.assign (.const (.bool false))) 4]
abbrev rup_literal_r2:List LO:=[lm 3 0 3,lo 4 (.binOp .neq 3 (.tmp 3) (.const (.int .i64 0)) 3) 4,lm 5 4 4,lmg 6 0 3 5 true,lg 7 (.binOp .leq 3 (.tmp 6) (.const (.int .i64 4096)) 3) 4 5 true,lo 8 (.pick (.tmp 5) (.tmp 7) (.const (.bool false))) 4,lm 9 8 4,lmg 10 0 3 9 true,lg 11 (.binOp .geq 3 (.tmp 10) (.const (.int .i64 (-4096))) 3) 4 9 true,lo 12 (.pick (.tmp 9) (.tmp 11) (.const (.bool false))) 4,lo 2 (.assign (.tmp 12)) 4]
abbrev rup_literal_c:LC:=.seq (.reg false rup_literal_r1) (.seq (.reg false rup_literal_r2) .ret)
theorem rup_literal_k:FnOk E0 22 13 [.tmp 2] rup_literal_c:=⟨⟨Go.Proofs.Tryz.f22,by kernel_rfl,by kernel_rfl,by kernel_rfl,by kernel_rfl,by kernel_rfl⟩,rfl,rfl⟩
noncomputable def rup_literal (a0:Int):Option (Bool):=some (((a0 != 0) && (decide (a0≤4096))) && (decide (a0≥(-4096))))
theorem rup_literal_ok (a0:Int):Ct E0 22 [iv a0] (rup_literal a0) (fun r:Bool=>bv r):=ct_intro (N:=13) (L:=rup_literal_c) rup_literal_k rfl (Nat.le_of_ble_eq_true rfl) (by kernel_rfl) (by
 unfold rup_literal
 refine jS ⟨[V 0 (iv a0)],[],0⟩ ?_
 refine jS ⟨[V 2 (bv (((a0 != 0) && (decide (a0≤4096))) && (decide (a0≥(-4096)))))],[],0⟩ ?_
 refine jc_ret ?_
 exact jx_retF (.inr rfl) (v:=bv (((a0 != 0) && (decide (a0≤4096))) && (decide (a0≥(-4096))))) (by kernel_rfl) rfl (fle_refl _))
theorem rup_literal_okE (a0:Int):Ct E 22 [iv a0] (rup_literal a0) (fun r:Bool=>bv r):=Ct.lift (E:=E) (E0:=E0) rfl rfl rfl rfl (rup_literal_ok a0)
abbrev rup_sheet_isTrue_r1:List LO:=[lo 4 (.assign (.const (.bool false))) 4]
abbrev rup_sheet_isTrue_r2:List LO:=[lm 5 0 34,lm 6 1 3,lo 7 (.lookup 34 (.tmp 5) (.tmp 6) false) 3,lo 8 (.binOp .gtr 3 (.tmp 7) (.const (.int .i64 0)) 3) 4,lo 4 (.assign (.tmp 8)) 4]
abbrev rup_sheet_isTrue_c:LC:=.seq (.reg false rup_sheet_isTrue_r1) (.seq (.reg false rup_sheet_isTrue_r2) .ret)
theorem rup_sheet_isTrue_k:FnOk E0 27 9 [.tmp 4] rup_sheet_isTrue_c:=⟨⟨Go.Proofs.Tryz.f27,by kernel_rfl,by kernel_rfl,by kernel_rfl,by kernel_rfl,by kernel_rfl⟩,rfl,rfl⟩
noncomputable def rup_sheet_isTrue (a0:(List (Int × Int))) (a1:Int):Option (Bool):=some (decide ((mget a0 a1) > 0))
theorem rup_sheet_isTrue_ok (a0:(List (Int × Int))) (a1:Int):Ct E0 27 [.fmp (fM a0),iv a1] (rup_sheet_isTrue a0 a1) (fun r:Bool=>bv r):=ct_intro (N:=9) (L:=rup_sheet_isTrue_c) rup_sheet_isTrue_k rfl (Nat.le_of_ble_eq_true rfl) (by kernel_rfl) (by
 unfold rup_sheet_isTrue
 refine jS ⟨[V 0 (.fmp (fM a0)),V 1 (iv a1)],[],0⟩ ?_
 refine jR ?_
 refine jG 0 2 ⟨[V 5 (.fmp (fM a0)),V 6 (iv a1)],[],0⟩ ?_
 refine jr_one (i:=2) (v:=iv (mget a0 a1)) (us:=[]) rfl rfl rfl rfl (aop_lookF (l:=a0) (kk:=a1) (kt:=3) (et:=3) (by kernel_rfl) (by kernel_rfl) (by kernel_rfl) (by kernel_rfl) (by kernel_rfl)) rfl ?_
 refine jG 3 2 ⟨[V 4 (bv (decide ((mget a0 a1) > 0)))],[],0⟩ ?_
 refine jN ?_
 refine jc_ret ?_
 exact jx_retF (.inr rfl) (v:=bv (decide ((mget a0 a1) > 0))) (by kernel_rfl) rfl (fle_refl _))
abbrev rup_sheet_open_r1:List LO:=[lo 2 (.box 34 (.tmp 0)) 0,lo 3 (.box 22 (.tmp 1)) 0,lo 4 (.assign (.const .nilFunc)) 53]
abbrev rup_sheet_open_r2:List LO:=[lo 5 (.makeFunc (Fn.func 37) #[] #[.tmp 3,.tmp 2]) 52,lo 4 (.assign (.tmp 5)) 53]
abbrev rup_sheet_open_c:LC:=.seq (.reg false rup_sheet_open_r1) (.seq (.reg false rup_sheet_open_r2) .ret)
theorem rup_sheet_open_k:FnOk E0 28 6 [.tmp 4] rup_sheet_open_c:=⟨⟨Go.Proofs.Tryz.f28,by kernel_rfl,by kernel_rfl,by kernel_rfl,by kernel_rfl,by kernel_rfl⟩,rfl,rfl⟩
abbrev rup_sheet_open_T (a0:List (Int × Int)) (a1:List (List Int)) (r:Unit):CS:=⟨[V 4 (.fn 37 [pt 1 1,pt 2 1])],[(0,.map (oM a0)),W 1 1 [.fsl 1 (List.map c_L3 a1)],W 2 1 [.mp 0]],3⟩
noncomputable def rup_sheet_open (a0:List (Int × Int)) (a1:List (List Int)):Option (Unit):=some ()
theorem rup_sheet_open_ok (a0:List (Int × Int)) (a1:List (List Int)):CtM E0 28 [.mp 0,.fsl 1 (List.map c_L3 a1)] [(0,.map (oM a0))] 1 (rup_sheet_open a0 a1) (fun r:Unit=>.fn 37 [pt 1 1,pt 2 1]) (fun r:Unit=>[(0,.map (oM a0)),W 1 1 [.fsl 1 (List.map c_L3 a1)],W 2 1 [.mp 0]]) 3:=ctm_intro (N:=6) (L:=rup_sheet_open_c) rup_sheet_open_k rfl (Nat.le_of_ble_eq_true rfl) (fun F hF=>by
 unfold rup_sheet_open
 refine jS ⟨[V 2 (pt 1 1),V 3 (pt 2 1)],[(0,.map (oM a0)),W 1 1 [.mp 0],W 2 1 [.fsl 1 (List.map c_L3 a1)]],3⟩ ?_
 refine jS ⟨[V 4 (.fn 37 [pt 2 1,pt 1 1])],[(0,.map (oM a0)),W 1 1 [.mp 0],W 2 1 [.fsl 1 (List.map c_L3 a1)]],3⟩ ?_
 refine jc_ret ?_
 exact jx_retM (rup_sheet_open_T a0 a1 ()) (.inr rfl) (wkR [(0,some 0),(1,some 2),(2,some 1)] (fix_of hF (k:=1) rfl) (pc (hM 0) (pc (hC 2) (pc (hC 1) allp_nil)))))
abbrev rup_sheet_open_1_1_s467c_r1:List LO:=[lo 3 (.assign (.const (.bool false))) 4]
abbrev rup_sheet_open_1_1_s467c_r2:List LO:=[lm 4 0 3,lo 5 (.call ⟨.value (.func 22),#[.tmp 4],#[3]⟩) 4,lo 6 (.unOp .not 4 (.tmp 5)) 4,lm 7 6 4,lg 8 (.load 34 (.tmp 1)) 34 7 false,lmg 9 0 3 7 false,lg 10 (.call ⟨.value (.func 27),#[.tmp 8,.tmp 9],#[34,3]⟩) 4 7 false,lo 11 (.pick (.tmp 7) (.const (.bool true)) (.tmp 10)) 4,lo 3 (.assign (.tmp 11)) 4]
abbrev rup_sheet_open_1_1_s467c_c:LC:=.seq (.reg false rup_sheet_open_1_1_s467c_r1) (.seq (.reg false rup_sheet_open_1_1_s467c_r2) .ret)
theorem rup_sheet_open_1_1_s467c_k:FnOk E0 39 12 [.tmp 3] rup_sheet_open_1_1_s467c_c:=⟨⟨Go.Proofs.Tryz.f39,by kernel_rfl,by kernel_rfl,by kernel_rfl,by kernel_rfl,by kernel_rfl⟩,rfl,rfl⟩
noncomputable def rup_sheet_open_1_1_s467c (a0:Int) (a1:List (Int × Int)):Option (Bool):=Option.bind (rup_literal a0) (fun x1=>Option.bind (if (!x1)=true then some true else Option.bind (rup_sheet_isTrue a1 a0) (fun x4=>some x4):Option (Bool)) (fun x3=>some x3))
theorem rup_sheet_open_1_1_s467c_ok (a0:Int) (a1:List (Int × Int)):Ct E0 39 [iv a0,.fptr [.fmp (fM a1)] 0] (rup_sheet_open_1_1_s467c a0 a1) (fun r:Bool=>bv r):=ct_intro (N:=12) (L:=rup_sheet_open_1_1_s467c_c) rup_sheet_open_1_1_s467c_k rfl (Nat.le_of_ble_eq_true rfl) (by kernel_rfl) (by
 unfold rup_sheet_open_1_1_s467c
 refine jS ⟨[V 0 (iv a0),V 1 (.fptr [.fmp (fM a1)] 0)],[],0⟩ ?_
 refine jR ?_
 refine jG 0 1 ⟨[V 0 (iv a0),V 1 (.fptr [.fmp (fM a1)] 0),V 4 (iv a0)],[],0⟩ ?_
 refine jK 1 (rup_literal_ok a0) ?_
 intro x1 h1
 refine jG 2 2 ⟨[V 0 (iv a0),V 1 (.fptr [.fmp (fM a1)] 0),V 7 (bv (!x1))],[],0⟩ ?_
 refine jr_bind 4 4 (fun x3=>⟨[V 11 (bv x3)],[],0⟩) ?_ ?_
 ·refine jSp 7 ?_ ?_
  ·refine jG 0 4 ⟨[V 11 (bv true)],[],0⟩ ?_
   refine jr_nil rfl ?_
   exact jx_mid rfl (wkR [] (fix_nil _) allp_nil)
  refine jG 0 2 ⟨[(7,.lit false),V 8 (.fmp (fM a1)),V 9 (iv a0)],[],0⟩ ?_
  refine jK 2 (rup_sheet_isTrue_ok a1 a0) ?_
  intro x4 h4
  refine jG 3 1 ⟨[V 11 (bv x4)],[],0⟩ ?_
  refine jr_nil rfl ?_
  exact jx_mid rfl (wkR [] (fix_nil _) allp_nil)
 intro x3
 refine jG 8 1 ⟨[V 3 (bv x3)],[],0⟩ ?_
 refine jN ?_
 refine jc_ret ?_
 exact jx_retF (.inr rfl) (v:=bv x3) (by kernel_rfl) rfl (fle_refl _))
abbrev rup_sheet_open_1_it_r1:List LO:=[lo 9 (.load 22 (.tmp 1)) 22,lo 10 (.call ⟨.builtin .len,#[.tmp 9],#[22]⟩) 3,lo 11 (.move (.const (.int .i64 0))) 3]
abbrev rup_sheet_open_1_it_r2:List LO:=[lo 12 (.binOp .lss 3 (.tmp 11) (.tmp 10) 3) 0]
abbrev rup_sheet_open_1_it_r3:List LO:=[lo 13 (.indexAddr 22 (.tmp 9) (.tmp 11)) 0,lo 14 (.load 23 (.tmp 13)) 23,lo 5 (.assign (.tmp 14)) 23]
abbrev rup_sheet_open_1_it_r4:List LO:=[lm 15 5 23,lo 16 (.makeFunc (Fn.func 39) #[] #[.tmp 2]) 44,lo 17 (.call ⟨.value (.func 38),#[.tmp 15,.tmp 16],#[23,44]⟩) 4]
abbrev rup_sheet_open_1_it_r5:List LO:=[lo 6 (.assign (.const (.slice none 0 0))) 23]
abbrev rup_sheet_open_1_it_r6:List LO:=[lm 18 5 23,lo 19 (.call ⟨.builtin .len,#[.tmp 18],#[23]⟩) 3,lo 20 (.move (.const (.int .i64 0))) 3]
abbrev rup_sheet_open_1_it_r7:List LO:=[lo 21 (.binOp .lss 3 (.tmp 20) (.tmp 19) 3) 0]
abbrev rup_sheet_open_1_it_r8:List LO:=[lo 22 (.indexAddr 23 (.tmp 18) (.tmp 20)) 0,lo 23 (.load 3 (.tmp 22)) 3,lo 8 (.assign (.tmp 23)) 3]
abbrev rup_sheet_open_1_it_r9:List LO:=[lo 24 (.load 34 (.tmp 2)) 34,lm 25 8 3,lo 26 (.unOp .neg 3 (.tmp 25)) 3,lo 27 (.call ⟨.value (.func 27),#[.tmp 24,.tmp 26],#[34,3]⟩) 4,lo 28 (.unOp .not 4 (.tmp 27)) 4,lm 29 28 4,lmg 30 6 23 29 true,lmg 31 8 3 29 true,lg 32 (.call ⟨.value (.func 40),#[.tmp 30,.tmp 31],#[23,3]⟩) 4 29 true,lg 33 (.unOp .not 4 (.tmp 32)) 4 29 true,lo 34 (.pick (.tmp 29) (.tmp 33) (.const (.bool false))) 4]
abbrev rup_sheet_open_1_it_r10:List LO:=[lm 35 6 23,lm 36 8 3,lo 37 (.buildSlice 23 1 #[(0,.tmp 36)]) 23,lo 38 (.call ⟨.builtin .append,#[.tmp 35,.tmp 37],#[23,23]⟩) 23,lo 6 (.assign (.tmp 38)) 23]
abbrev rup_sheet_open_1_it_r11:List LO:=[lo 39 (.binOp .add 3 (.tmp 20) (.const (.int .i64 1)) 3) 3,lm 20 39 3]
abbrev rup_sheet_open_1_it_r12:List LO:=[lm 40 0 45,lm 41 6 23,lo 42 (.call ⟨.value (.tmp 40),#[.tmp 41],#[23]⟩) 4,lo 43 (.unOp .not 4 (.tmp 42)) 4]
abbrev rup_sheet_open_1_it_r13:List LO:=[lo 44 (.binOp .add 3 (.tmp 11) (.const (.int .i64 1)) 3) 3,lm 11 44 3]
abbrev rup_sheet_open_1_it_c:LC:=.seq (.reg false rup_sheet_open_1_it_r1) (.block 0 (.loop (.seq (.reg false rup_sheet_open_1_it_r2) (.seq (.cond (.tmp 12) .skip (.exit 0)) (.seq (.block 1 (.seq (.reg false rup_sheet_open_1_it_r3) (.seq (.seq (.reg false rup_sheet_open_1_it_r4) (.cond (.tmp 17) (.exit 1) .skip)) (.seq (.reg false rup_sheet_open_1_it_r5) (.seq (.seq (.reg false rup_sheet_open_1_it_r6) (.block 2 (.loop (.seq (.reg false rup_sheet_open_1_it_r7) (.seq (.cond (.tmp 21) .skip (.exit 2)) (.seq (.block 3 (.seq (.reg false rup_sheet_open_1_it_r8) (.seq (.reg false rup_sheet_open_1_it_r9) (.cond (.tmp 34) (.reg false rup_sheet_open_1_it_r10) .skip)))) (.reg false rup_sheet_open_1_it_r11))))))) (.seq (.reg false rup_sheet_open_1_it_r12) (.cond (.tmp 43) .ret .skip))))))) (.reg false rup_sheet_open_1_it_r13))))))
theorem rup_sheet_open_1_it_k:FnOk E0 37 45 [] rup_sheet_open_1_it_c:=⟨⟨Go.Proofs.Tryz.f37,by kernel_rfl,by kernel_rfl,by kernel_rfl,by kernel_rfl,by kernel_rfl⟩,rfl,rfl⟩
abbrev slices_IndexFunc_int_int_se3d8_r1:List LO:=[lo 4 (.assign (.const (.int .i64 0))) 3]
abbrev slices_IndexFunc_int_int_se3d8_r2:List LO:=[lm 6 0 23,lo 7 (.call ⟨.builtin .len,#[.tmp 6],#[23]⟩) 3,lo 8 (.move (.const (.int .i64 0))) 3]
abbrev slices_IndexFunc_int_int_se3d8_r3:List LO:=[lo 9 (.binOp .lss 3 (.tmp 8) (.tmp 7) 3) 0]
abbrev slices_IndexFunc_int_int_se3d8_r4:List LO:=[lm 10 8 3,lo 5 (.assign (.tmp 10)) 3]
abbrev slices_IndexFunc_int_int_se3d8_r5:List LO:=[lm 11 1 44,lm 12 0 23,lm 13 5 3,lo 14 (.indexAddr 23 (.tmp 12) (.tmp 13)) 0,lo 15 (.load 3 (.tmp 14)) 3,lo 16 (.call ⟨.value (.tmp 11),#[.tmp 15],#[3]⟩) 4]
abbrev slices_IndexFunc_int_int_se3d8_r6:List LO:=[lm 17 5 3,lo 4 (.assign (.tmp 17)) 3]
abbrev slices_IndexFunc_int_int_se3d8_r7:List LO:=[lo 18 (.binOp .add 3 (.tmp 8) (.const (.int .i64 1)) 3) 3,lm 8 18 3]
abbrev slices_IndexFunc_int_int_se3d8_r8:List LO:=[lo 4 (.assign (.const (.int .i64 (-1)))) 3]
abbrev slices_IndexFunc_int_int_se3d8_c:LC:=.seq (.reg false slices_IndexFunc_int_int_se3d8_r1) (.seq (.seq (.reg false slices_IndexFunc_int_int_se3d8_r2) (.block 0 (.loop (.seq (.reg false slices_IndexFunc_int_int_se3d8_r3) (.seq (.cond (.tmp 9) .skip (.exit 0)) (.seq (.block 1 (.seq (.reg false slices_IndexFunc_int_int_se3d8_r4) (.seq (.reg false slices_IndexFunc_int_int_se3d8_r5) (.cond (.tmp 16) (.seq (.reg false slices_IndexFunc_int_int_se3d8_r6) .ret) .skip)))) (.reg false slices_IndexFunc_int_int_se3d8_r7))))))) (.seq (.reg false slices_IndexFunc_int_int_se3d8_r8) .ret))
theorem slices_IndexFunc_int_int_se3d8_k:FnOk E0 58 19 [.tmp 4] slices_IndexFunc_int_int_se3d8_c:=⟨⟨Go.Proofs.Tryz.f58,by kernel_rfl,by kernel_rfl,by kernel_rfl,by kernel_rfl,by kernel_rfl⟩,rfl,rfl⟩
noncomputable def slices_IndexFunc_int_int_se3d8_l1 (a0:(List Int)) (a1:List (Int × Int)):Int→Option (Step (Int) ((Int) ⊕ (Unit))):=fun x3=>(if (decide (x3 < (List.length a0:Int)))=true then Option.bind (ixl a0 x3) (fun x8=>Option.bind (rup_sheet_open_1_1_s467c x8 a1) (fun x9=>(if x9=true then some (Step.done (Sum.inl x3)) else some (Step.next (w64 (x3 + 1)))))) else some (Step.done (Sum.inr ())))
noncomputable def slices_IndexFunc_int_int_se3d8 (a0:(List Int)) (a1:List (Int × Int)):Option (Int):=Option.bind (loopC (slices_IndexFunc_int_int_se3d8_l1 a0 a1) 0) (fun y=>match y with | Sum.inl x7=>some x7 | Sum.inr _=>some (-1))
theorem slices_IndexFunc_int_int_se3d8_ok (a0:(List Int)) (a1:List (Int × Int)):Ct E0 58 [.fsl 1 (List.map cI a0),.fn 39 [.fptr [.fmp (fM a1)] 0]] (slices_IndexFunc_int_int_se3d8 a0 a1) (fun r:Int=>iv r):=ct_intro (N:=19) (L:=slices_IndexFunc_int_int_se3d8_c) slices_IndexFunc_int_int_se3d8_k rfl (Nat.le_of_ble_eq_true rfl) (by kernel_rfl) (by
 unfold slices_IndexFunc_int_int_se3d8
 refine jS ⟨[V 0 (.fsl 1 (List.map cI a0)),V 1 (.fn 39 [.fptr [.fmp (fM a1)] 0])],[],0⟩ ?_
 refine jc_seq ?_
 refine jR ?_
 refine jG 0 3 ⟨[V 0 (.fsl 1 (List.map cI a0)),V 1 (.fn 39 [.fptr [.fmp (fM a1)] 0]),V 7 (iv (List.length (List.map cI a0):Int)),V 8 (iv 0)],[],0⟩ ?_
 simp only[List.length_map]
 refine jN ?_
 refine jc_block ?_
 refine jc_bind (fun y=>match y with | Sum.inl x7=>⟨[V 4 (iv x7)],[],0⟩ | Sum.inr _=>⟨[],[],0⟩) (fun y=>match y with | Sum.inl x7=>.ret | Sum.inr _=>(.exit 0)) (jc_loop (fun x3=>⟨[V 0 (.fsl 1 (List.map cI a0)),V 1 (.fn 39 [.fptr [.fmp (fM a1)] 0]),V 7 (iv (List.length a0:Int)),V 8 (iv x3)],[],0⟩) (wkR [] (fix_nil _) allp_nil) ?_) ?_
 ·intro x3
  unfold slices_IndexFunc_int_int_se3d8_l1
  refine jS ⟨[V 0 (.fsl 1 (List.map cI a0)),V 1 (.fn 39 [.fptr [.fmp (fM a1)] 0]),V 7 (iv (List.length a0:Int)),V 8 (iv x3),V 9 (bv (decide (x3 < (List.length a0:Int))))],[],0⟩ ?_
  refine jc_seq ?_
  refine jIf ?_ ?_
  ·refine jc_skip ?_
   refine jx_seqN ?_
   refine jc_seq ?_
   refine jc_block ?_
   refine jS ⟨[V 0 (.fsl 1 (List.map cI a0)),V 1 (.fn 39 [.fptr [.fmp (fM a1)] 0]),V 5 (iv x3),V 7 (iv (List.length a0:Int)),V 8 (iv x3)],[],0⟩ ?_
   refine jR ?_
   refine jG 0 3 ⟨[V 0 (.fsl 1 (List.map cI a0)),V 1 (.fn 39 [.fptr [.fmp (fM a1)] 0]),V 5 (iv x3),V 7 (iv (List.length a0:Int)),V 8 (iv x3),V 11 (.fn 39 [.fptr [.fmp (fM a1)] 0]),V 12 (.fsl 1 (List.map cI a0)),V 13 (iv x3)],[],0⟩ ?_
   refine jr_part (i:=3) (mo:=ixl a0 x3) rfl rfl rfl rfl (fun _ hc=>aop_ixf (c:=cI) (sz:=1) (e:=3) (kk:=.i64) (by kernel_rfl) (by kernel_rfl) (by kernel_rfl) (by kernel_rfl) hc) (fun _=>rfl) ?_
   intro x8 h8
   refine jG 4 1 ⟨[V 0 (.fsl 1 (List.map cI a0)),V 1 (.fn 39 [.fptr [.fmp (fM a1)] 0]),V 5 (iv x3),V 7 (iv (List.length a0:Int)),V 8 (iv x3),V 11 (.fn 39 [.fptr [.fmp (fM a1)] 0]),V 15 (iv x8)],[],0⟩ ?_
   refine jr_callV (i:=5) rfl rfl rfl rfl (g:=39) (caps:=[.fptr [.fmp (fM a1)] 0]) (avs:=[iv x8]) (vs:=[iv x8,.fptr [.fmp (fM a1)] 0]) (by kernel_rfl) (by kernel_rfl) rfl (snapL_cons rfl (snapL_cons rfl (snapL_nil _))) (all2_cons (fle_refl _) (all2_cons (fle_refl _) all2_nil)) (rup_sheet_open_1_1_s467c_ok x8 a1) (fun _=>rfl) (fun _=>rfl) ?_
   intro x9 h9
   refine jN ?_
   refine jIf ?_ ?_
   ·refine jS ⟨[V 4 (iv x3)],[],0⟩ ?_
    refine jc_ret ?_
    refine jx_blkR ?_
    refine jx_seqR ?_
    exact jx_done rfl nofun (wkR [] (fix_nil _) allp_nil)
   refine jc_skip ?_
   refine jx_blkN ?_
   refine jx_seqN ?_
   refine jT ⟨[V 0 (.fsl 1 (List.map cI a0)),V 1 (.fn 39 [.fptr [.fmp (fM a1)] 0]),V 7 (iv (List.length a0:Int)),V 8 (iv (w64 (x3 + 1)))],[],0⟩ ?_
   exact jx_next (wkR [] (fix_nil _) allp_nil)
  refine jc_exit ?_
  refine jx_seqE ?_
  exact jx_done rfl nofun (wkR [] (fix_nil _) allp_nil)
 rintro (x7 | _)
 ·refine jx_blkR ?_
  refine jx_seqR ?_
  exact jx_retF (.inr rfl) (v:=iv x7) (by kernel_rfl) rfl (fle_refl _)
 refine jx_blkE ?_
 refine jx_seqN ?_
 refine jS ⟨[V 4 (iv (-1))],[],0⟩ ?_
 refine jc_ret ?_
 exact jx_retF (.inr rfl) (v:=iv (-1)) (by kernel_rfl) rfl (fle_refl _))
abbrev slices_ContainsFunc_int_int_se3d8_r1:List LO:=[lo 4 (.assign (.const (.bool false))) 4]
abbrev slices_ContainsFunc_int_int_se3d8_r2:List LO:=[lm 5 0 23,lm 6 1 44,lo 7 (.call ⟨.value (.func 58),#[.tmp 5,.tmp 6],#[23,44]⟩) 3,lo 8 (.binOp .geq 3 (.tmp 7) (.const (.int .i64 0)) 3) 4,lo 4 (.assign (.tmp 8)) 4]
abbrev slices_ContainsFunc_int_int_se3d8_c:LC:=.seq (.reg false slices_ContainsFunc_int_int_se3d8_r1) (.seq (.reg false slices_ContainsFunc_int_int_se3d8_r2) .ret)
theorem slices_ContainsFunc_int_int_se3d8_k:FnOk E0 38 9 [.tmp 4] slices_ContainsFunc_int_int_se3d8_c:=⟨⟨Go.Proofs.Tryz.f38,by kernel_rfl,by kernel_rfl,by kernel_rfl,by kernel_rfl,by kernel_rfl⟩,rfl,rfl⟩
noncomputable def slices_ContainsFunc_int_int_se3d8 (a0:(List Int)) (a1:List (Int × Int)):Option (Bool):=Option.bind (slices_IndexFunc_int_int_se3d8 a0 a1) (fun x1=>some (decide (x1≥0)))
theorem slices_ContainsFunc_int_int_se3d8_ok (a0:(List Int)) (a1:List (Int × Int)):Ct E0 38 [.fsl 1 (List.map cI a0),.fn 39 [.fptr [.fmp (fM a1)] 0]] (slices_ContainsFunc_int_int_se3d8 a0 a1) (fun r:Bool=>bv r):=ct_intro (N:=9) (L:=slices_ContainsFunc_int_int_se3d8_c) slices_ContainsFunc_int_int_se3d8_k rfl (Nat.le_of_ble_eq_true rfl) (by kernel_rfl) (by
 unfold slices_ContainsFunc_int_int_se3d8
 refine jS ⟨[V 0 (.fsl 1 (List.map cI a0)),V 1 (.fn 39 [.fptr [.fmp (fM a1)] 0])],[],0⟩ ?_
 refine jR ?_
 refine jG 0 2 ⟨[V 5 (.fsl 1 (List.map cI a0)),V 6 (.fn 39 [.fptr [.fmp (fM a1)] 0])],[],0⟩ ?_
 refine jK 2 (slices_IndexFunc_int_int_se3d8_ok a0 a1) ?_
 intro x1 h1
 refine jG 3 2 ⟨[V 4 (bv (decide (x1≥0)))],[],0⟩ ?_
 refine jN ?_
 refine jc_ret ?_
 exact jx_retF (.inr rfl) (v:=bv (decide (x1≥0))) (by kernel_rfl) rfl (fle_refl _))
abbrev rup_units_r1:List LO:=[lo 4 (.assign (.const (.map none))) 34,lo 5 (.assign (.const (.bool false))) 4]
abbrev rup_units_r2:List LO:=[lo 12 (.makeMap 34 none) 34,lo 6 (.alloc 34) 0,ln (.store 34 (.tmp 6) (.tmp 12)) 0]
abbrev rup_units_r3:List LO:=[lm 13 1 23,lo 14 (.call ⟨.builtin .len,#[.tmp 13],#[23]⟩) 3,lo 15 (.move (.const (.int .i64 0))) 3]
abbrev rup_units_r4:List LO:=[lo 16 (.binOp .lss 3 (.tmp 15) (.tmp 14) 3) 0]
abbrev rup_units_r5:List LO:=[lo 17 (.indexAddr 23 (.tmp 13) (.tmp 15)) 0,lo 18 (.load 3 (.tmp 17)) 3,lo 8 (.assign (.tmp 18)) 3]
abbrev rup_units_r6:List LO:=[lm 19 8 3,lo 20 (.call ⟨.value (.func 22),#[.tmp 19],#[3]⟩) 4,lo 21 (.unOp .not 4 (.tmp 20)) 4]
abbrev rup_units_r7:List LO:=[lo 22 (.load 34 (.tmp 6)) 34,lm 23 8 3,lo 24 (.unOp .neg 3 (.tmp 23)) 3,lo 25 (.call ⟨.value (.func 27),#[.tmp 22,.tmp 24],#[34,3]⟩) 4]
abbrev rup_units_r8:List LO:=[lo 26 (.load 34 (.tmp 6)) 34,lo 4 (.assign (.tmp 26)) 34,lo 5 (.assign (.const (.bool true))) 4]
abbrev rup_units_r9:List LO:=[lo 27 (.load 34 (.tmp 6)) 34,lm 28 8 3,lo 29 (.lookup 34 (.tmp 27) (.tmp 28) false) 3,lo 30 (.binOp .add 3 (.tmp 29) (.const (.int .i64 1)) 3) 3,ln (.mapUpdate 34 (.tmp 27) (.tmp 28) (.tmp 30)) 0]
abbrev rup_units_r10:List LO:=[lo 31 (.binOp .add 3 (.tmp 15) (.const (.int .i64 1)) 3) 3,lm 15 31 3]
abbrev rup_units_r11:List LO:=[lo 9 (.alloc 4) 0,ln (.store 4 (.tmp 9) (.const (.bool false))) 0]
abbrev rup_units_r12:List LO:=[lo 32 (.load 34 (.tmp 6)) 34,lo 33 (.call ⟨.builtin .len,#[.tmp 32],#[34]⟩) 3,lo 10 (.assign (.tmp 33)) 3]
abbrev rup_units_r13:List LO:=[lo 34 (.load 34 (.tmp 6)) 34,lm 35 0 22,lo 36 (.call ⟨.value (.func 28),#[.tmp 34,.tmp 35],#[34,22]⟩) 53]
abbrev rup_units_r14:List LO:=[lo 11 (.assign (.tmp 37)) 23]
abbrev rup_units_r15:List LO:=[lm 39 11 23,lo 40 (.call ⟨.builtin .len,#[.tmp 39],#[23]⟩) 3,lo 41 (.binOp .eql 3 (.tmp 40) (.const (.int .i64 0)) 3) 4,lo 38 (.assign (.tmp 41)) 4]
abbrev rup_units_r16:List LO:=[ln (.store 4 (.tmp 9) (.const (.bool true))) 0]
abbrev rup_units_r17:List LO:=[lm 43 11 23,lo 44 (.call ⟨.builtin .len,#[.tmp 43],#[23]⟩) 3,lo 45 (.binOp .eql 3 (.tmp 44) (.const (.int .i64 1)) 3) 4,lm 46 45 4,lg 47 (.load 34 (.tmp 6)) 34 46 true,lmg 48 11 23 46 true,lg 49 (.indexAddr 23 (.tmp 48) (.const (.int .i64 0))) 0 46 true,lg 50 (.load 3 (.tmp 49)) 3 46 true,lg 51 (.call ⟨.value (.func 27),#[.tmp 47,.tmp 50],#[34,3]⟩) 4 46 true,lg 52 (.unOp .not 4 (.tmp 51)) 4 46 true,lo 53 (.pick (.tmp 46) (.tmp 52) (.const (.bool false))) 4,lo 42 (.assign (.tmp 53)) 4]
abbrev rup_units_r18:List LO:=[lo 54 (.load 34 (.tmp 6)) 34,lm 55 11 23,lo 56 (.indexAddr 23 (.tmp 55) (.const (.int .i64 0))) 0,lo 57 (.load 3 (.tmp 56)) 3,lo 58 (.lookup 34 (.tmp 54) (.tmp 57) false) 3,lo 59 (.binOp .add 3 (.tmp 58) (.const (.int .i64 1)) 3) 3,ln (.mapUpdate 34 (.tmp 54) (.tmp 57) (.tmp 59)) 0]
noncomputable def rup_units_y19_a0:Code:=codeSub (bodyOf Go.Proofs.Tryz.f16) [1,0,1,1,1,1,0,0,0,0,1,0,1,0,0]
theorem rup_units_y19_aw:lower E0 rup_units_y19_a0=some (.reg false rup_units_r14):=by kernel_rfl
noncomputable def rup_units_y19_b0:Code:=codeSub (bodyOf Go.Proofs.Tryz.f16) [1,0,1,1,1,1,0,0,0,0,1,0,1,0,1]
theorem rup_units_y19_bw:lower E0 rup_units_y19_b0=some (.block 5 (.block 6 (.seq (.reg false rup_units_r15) (.cond (.tmp 38) (.seq (.reg false rup_units_r16) (.exit 2)) (.seq (.reg true rup_units_r17) (.cond (.tmp 42) (.reg true rup_units_r18) .skip)))))):=by kernel_rfl
abbrev rup_units_r20:List LO:=[lo 60 (.load 34 (.tmp 6)) 34,lo 61 (.call ⟨.builtin .len,#[.tmp 60],#[34]⟩) 3,lm 62 10 3,lo 63 (.binOp .eql 3 (.tmp 61) (.tmp 62) 3) 4]
abbrev rup_units_r21:List LO:=[lo 64 (.load 34 (.tmp 6)) 34,lo 65 (.load 4 (.tmp 9)) 4,lo 4 (.assign (.tmp 64)) 34,lo 5 (.assign (.tmp 65)) 4]
noncomputable abbrev rup_units_c:LC:=.seq (.reg false rup_units_r1) (.scope (.seq (.reg false rup_units_r2) (.seq (.seq (.reg false rup_units_r3) (.block 0 (.loop (.seq (.reg false rup_units_r4) (.seq (.cond (.tmp 16) .skip (.exit 0)) (.seq (.block 1 (.seq (.reg false rup_units_r5) (.seq (.seq (.reg false rup_units_r6) (.cond (.tmp 21) (.exit 1) .skip)) (.seq (.seq (.reg false rup_units_r7) (.cond (.tmp 25) (.seq (.reg false rup_units_r8) .ret) .skip)) (.reg false rup_units_r9))))) (.reg false rup_units_r10))))))) (.seq (.reg false rup_units_r11) (.seq .label (.seq (.block 2 (.loop (.block 3 (.seq (.reg false rup_units_r12) (.seq (.seq (.reg false rup_units_r13) (.block 4 (.rng (.tmp 36) [37] rup_units_y19_a0 rup_units_y19_b0))) (.seq (.reg false rup_units_r20) (.cond (.tmp 63) (.exit 2) .skip))))))) (.seq (.reg true rup_units_r21) .ret)))))))
theorem rup_units_k:FnOk E0 16 66 [.tmp 4,.tmp 5] rup_units_c:=⟨⟨Go.Proofs.Tryz.f16,by kernel_rfl,by kernel_rfl,by kernel_rfl,by kernel_rfl,by kernel_rfl⟩,rfl,rfl⟩
noncomputable def rup_units_l1 (a1:List Int):(List (Int × Int) × Int)→Option (Step (List (Int × Int) × Int) ((List (Int × Int)) ⊕ (List (Int × Int)))):=fun (x137,x138)=>(if (decide (x138 < (List.length a1:Int)))=true then Option.bind (Option.bind (ixl a1 x138) (fun x151=>Option.bind (rup_literal x151) (fun x152=>(if (!x152)=true then some (Sum.inl x137) else Option.bind (rup_sheet_isTrue x137 (w64 (0 - x151))) (fun x153=>(if x153=true then some (Sum.inr ()) else some (Sum.inl (mput x137 x151 (w64 ((mget x137 x151) + 1))))))))):Option ((List (Int × Int)) ⊕ (Unit))) (fun y=>match y with | Sum.inl x150=>some (Step.next (x150,(w64 (x138 + 1)))) | Sum.inr _=>some (Step.done (Sum.inl x137))) else some (Step.done (Sum.inr x137)))
noncomputable abbrev rup_units_lp17 (a0:List (List Int)) (x210:List (Int × Int)) (q:LoopState) (p:Option Code):AObj:=.loop { state:=q,pending:=p,tmps:=tl 66 [V 0 (.fsl 1 (List.map c_L3 a0)),V 6 (pt 0 1),V 9 (pt 2 1),V 10 (iv (List.length x210:Int)),V 36 (.fn 37 [pt 3 1,pt 4 1])] none,params:=[37],assign:=rup_units_y19_a0,body:=rup_units_y19_b0 }
noncomputable def rup_units_l2 (x295:List (Int × Int)) (x351:(List Int)):(List Int × Int)→Option (Step (List Int × Int) (List Int)):=fun (x359,x360)=>(if (decide (x360 < (List.length x351:Int)))=true then Option.bind (Option.bind (ixl x351 x360) (fun x376=>Option.bind (rup_sheet_isTrue x295 (w64 (0 - x376))) (fun x377=>Option.bind (if (!x377)=true then Option.bind (slices_Contains_int_int x359 x376) (fun x380=>some (!x380)) else some false:Option (Bool)) (fun x379=>(if x379=true then Option.bind (app 8 x359 [x376]) (fun x381=>some x381) else some x359)))):Option (List Int)) (fun x375=>some (Step.next (x375,(w64 (x360 + 1))))) else some (Step.done x359))
noncomputable def rup_units_l3 (a0:List (List Int)):(List (Int × Int) × Int)→Option (Step (List (Int × Int) × Int) ((List (Int × Int)) ⊕ (List (Int × Int)))):=fun (x295,x296)=>(if (decide (x296 < (List.length a0:Int)))=true then Option.bind (Option.bind (ixl a0 x296) (fun x351=>Option.bind (slices_ContainsFunc_int_int_se3d8 x351 x295) (fun x352=>(if x352=true then some (Sum.inl x295) else Option.bind (loopC (rup_units_l2 x295 x351) ([],0)) (fun x369=>Option.bind ((if ((List.length x369:Int) == 0)=true then some (Sum.inl ()) else Option.bind (if ((List.length x369:Int) == 1)=true then Option.bind (ixl x369 0) (fun x390=>Option.bind (rup_sheet_isTrue x295 x390) (fun x391=>some (!x391))) else some false:Option (Bool)) (fun x389=>(if x389=true then Option.bind (ixl x369 0) (fun x392=>some (Sum.inr (mput x295 x392 (w64 ((mget x295 x392) + 1))))) else some (Sum.inr x295)))):Option ((Unit) ⊕ (List (Int × Int)))) (fun y=>match y with | Sum.inl _=>some (Sum.inr ()) | Sum.inr x386=>some (Sum.inl x386)))))):Option ((List (Int × Int)) ⊕ (Unit))) (fun y=>match y with | Sum.inl x350=>some (Step.next (x350,(w64 (x296 + 1)))) | Sum.inr _=>some (Step.done (Sum.inl x295))) else some (Step.done (Sum.inr x295)))
noncomputable def rup_units_l4 (a0:List (List Int)):(List (Int × Int))→Option (Step (List (Int × Int)) (List (Int × Int) × Bool)):=fun x210=>Option.bind (rup_sheet_open x210 a0) (fun _=>Option.bind (loopC (rup_units_l3 a0) (x210,0)) (fun y=>match y with | Sum.inl x324=>some (Step.done (x324,true)) | Sum.inr x325=>(if ((List.length x325:Int) == (List.length x210:Int))=true then some (Step.done (x325,false)) else some (Step.next x325))))
abbrev rup_units_T (a0:List (List Int)) (a1:List Int) (r:List (Int × Int) × Bool):CS:=⟨[V 4 (.mp 0),V 5 (bv r.2)],[(0,.map (oM r.1))],1⟩
noncomputable def rup_units (a0:List (List Int)) (a1:List Int):Option (List (Int × Int) × Bool):=Option.bind (loopC (rup_units_l1 a1) (([]:List (Int × Int)),0)) (fun y=>match y with | Sum.inl x145=>some (x145,true) | Sum.inr x146=>Option.bind (loopC (rup_units_l4 a0) x146) (fun (x268,x269)=>some (x268,x269)))
theorem rup_units_ok (a0:List (List Int)) (a1:List Int):CtM E0 16 [.fsl 1 (List.map c_L3 a0),.fsl 1 (List.map cI a1)] [] 0 (rup_units a0 a1) (fun r:List (Int × Int) × Bool=>.tup [.mp 0,bv r.2]) (fun r:List (Int × Int) × Bool=>[(0,.map (oM r.1))]) 1:=ctm_intro (N:=66) (L:=rup_units_c) rup_units_k rfl (Nat.le_of_ble_eq_true rfl) (fun F hF=>by
 unfold rup_units
 refine jS ⟨[V 0 (.fsl 1 (List.map c_L3 a0)),V 1 (.fsl 1 (List.map cI a1))],[],0⟩ ?_
 refine jc_scope ?_
 refine jS ⟨[V 0 (.fsl 1 (List.map c_L3 a0)),V 1 (.fsl 1 (List.map cI a1)),V 6 (pt 1 1)],[(0,.map (oM ([]:List (Int × Int)))),W 1 1 [.mp 0]],2⟩ ?_
 refine jc_seq ?_
 refine jR ?_
 refine jG 0 3 ⟨[V 0 (.fsl 1 (List.map c_L3 a0)),V 6 (pt 1 1),V 13 (.fsl 1 (List.map cI a1)),V 14 (iv (List.length (List.map cI a1):Int)),V 15 (iv 0)],[(0,.map (oM ([]:List (Int × Int)))),W 1 1 [.mp 0]],2⟩ ?_
 simp only[List.length_map]
 refine jN ?_
 refine jc_block ?_
 refine jc_bind (fun y=>match y with | Sum.inl x145=>⟨[V 4 (.mp 0),V 5 (bv true)],[(0,.map (oM x145))],1⟩ | Sum.inr x146=>⟨[V 0 (.fsl 1 (List.map c_L3 a0)),V 6 (pt 0 1)],[W 0 1 [.mp 1],(1,.map (oM x146))],2⟩) (fun y=>match y with | Sum.inl x145=>.ret | Sum.inr x146=>(.exit 0)) (jc_loop (fun (x137,x138)=>⟨[V 0 (.fsl 1 (List.map c_L3 a0)),V 6 (pt 0 1),V 13 (.fsl 1 (List.map cI a1)),V 14 (iv (List.length a1:Int)),V 15 (iv x138)],[W 0 1 [.mp 1],(1,.map (oM x137))],2⟩) (wkR [(0,some 1),(1,some 0)] (fix_of hF (k:=0) rfl) (pc (hC 1) (pc (hM 0) allp_nil))) ?_) ?_
 ·rintro⟨x137,x138⟩
  unfold rup_units_l1
  refine jS ⟨[V 0 (.fsl 1 (List.map c_L3 a0)),V 6 (pt 0 1),V 13 (.fsl 1 (List.map cI a1)),V 14 (iv (List.length a1:Int)),V 15 (iv x138),V 16 (bv (decide (x138 < (List.length a1:Int))))],[W 0 1 [.mp 1],(1,.map (oM x137))],2⟩ ?_
  refine jc_seq ?_
  refine jIf ?_ ?_
  ·refine jc_skip ?_
   refine jx_seqN ?_
   refine jc_seq ?_
   refine jc_bind (fun y=>match y with | Sum.inl x150=>⟨[V 0 (.fsl 1 (List.map c_L3 a0)),V 6 (pt 0 1),V 13 (.fsl 1 (List.map cI a1)),V 14 (iv (List.length a1:Int)),V 15 (iv x138)],[W 0 1 [.mp 1],(1,.map (oM x150))],2⟩ | Sum.inr _=>⟨[V 4 (.mp 0),V 5 (bv true)],[(0,.map (oM x137))],1⟩) (fun y=>match y with | Sum.inl x150=>.normal | Sum.inr _=>.ret) ?_ ?_
   ·refine jc_block ?_
    refine jR ?_
    refine jr_part (i:=0) (mo:=ixl a1 x138) rfl rfl rfl rfl (fun _ hc=>aop_ixf (c:=cI) (sz:=1) (e:=3) (kk:=.i64) (by kernel_rfl) (by kernel_rfl) (by kernel_rfl) (by kernel_rfl) hc) (fun _=>rfl) ?_
    intro x151 h151
    refine jG 1 2 ⟨[V 0 (.fsl 1 (List.map c_L3 a0)),V 6 (pt 0 1),V 8 (iv x151),V 13 (.fsl 1 (List.map cI a1)),V 14 (iv (List.length a1:Int)),V 15 (iv x138)],[W 0 1 [.mp 1],(1,.map (oM x137))],2⟩ ?_
    refine jN ?_
    refine jc_seq ?_
    refine jR ?_
    refine jG 0 1 ⟨[V 0 (.fsl 1 (List.map c_L3 a0)),V 6 (pt 0 1),V 8 (iv x151),V 13 (.fsl 1 (List.map cI a1)),V 14 (iv (List.length a1:Int)),V 15 (iv x138),V 19 (iv x151)],[W 0 1 [.mp 1],(1,.map (oM x137))],2⟩ ?_
    refine jK 1 (rup_literal_ok x151) ?_
    intro x152 h152
    refine jG 2 1 ⟨[V 0 (.fsl 1 (List.map c_L3 a0)),V 6 (pt 0 1),V 8 (iv x151),V 13 (.fsl 1 (List.map cI a1)),V 14 (iv (List.length a1:Int)),V 15 (iv x138),V 21 (bv (!x152))],[W 0 1 [.mp 1],(1,.map (oM x137))],2⟩ ?_
    refine jN ?_
    refine jIf ?_ ?_
    ·refine jc_exit ?_
     refine jx_seqE ?_
     refine jx_blkE ?_
     exact jx_mid rfl (wkR [(0,some 0),(1,some 1)] (fix_of hF (k:=0) rfl) (pc (hC 0) (pc (hM 1) allp_nil)))
    refine jc_skip ?_
    refine jx_seqN ?_
    refine jc_seq ?_
    refine jR ?_
    refine jG 0 3 ⟨[V 0 (.fsl 1 (List.map c_L3 a0)),V 6 (pt 0 1),V 8 (iv x151),V 13 (.fsl 1 (List.map cI a1)),V 14 (iv (List.length a1:Int)),V 15 (iv x138),V 22 (.mp 1),V 24 (iv (w64 (0 - x151)))],[W 0 1 [.mp 1],(1,.map (oM x137))],2⟩ ?_
    refine jr_callF (i:=3) rfl rfl rfl rfl (vs:=[.mp 1,iv (w64 (0 - x151))]) (by kernel_rfl) (snapL_cons (snapc_mp (by kernel_rfl)) (snapL_cons rfl (snapL_nil _))) (all2_cons (fle_refl _) (all2_cons (fle_refl _) all2_nil)) (rup_sheet_isTrue_ok x137 (w64 (0 - x151))) (fun _=>rfl) (fun _=>rfl) ?_
    intro x153 h153
    refine jN ?_
    refine jIf ?_ ?_
    ·refine jS ⟨[V 4 (.mp 1),V 5 (bv true)],[(1,.map (oM x137))],2⟩ ?_
     refine jc_ret ?_
     refine jx_seqR ?_
     refine jx_blkR ?_
     exact jx_mid rfl (wkR [(0,some 1)] (fix_of hF (k:=0) rfl) (pc (hM 1) allp_nil))
    refine jc_skip ?_
    refine jx_seqN ?_
    refine jc_reg ?_
    refine jG 0 2 ⟨[V 0 (.fsl 1 (List.map c_L3 a0)),V 6 (pt 0 1),V 13 (.fsl 1 (List.map cI a1)),V 14 (iv (List.length a1:Int)),V 15 (iv x138),V 27 (.mp 1),V 28 (iv x151)],[W 0 1 [.mp 1],(1,.map (oM x137))],2⟩ ?_
    refine jr_one (i:=2) (v:=iv (mget x137 x151)) (us:=[]) rfl rfl rfl rfl (aop_look (l:=x137) (id:=1) (kk:=x151) (kt:=3) (et:=3) (by kernel_rfl) (by kernel_rfl) (by kernel_rfl) (by kernel_rfl) (by kernel_rfl) (by kernel_rfl)) rfl ?_
    refine jG 3 1 ⟨[V 0 (.fsl 1 (List.map c_L3 a0)),V 6 (pt 0 1),V 13 (.fsl 1 (List.map cI a1)),V 14 (iv (List.length a1:Int)),V 15 (iv x138),V 27 (.mp 1),V 28 (iv x151),V 30 (iv (w64 ((mget x137 x151) + 1)))],[W 0 1 [.mp 1],(1,.map (oM x137))],2⟩ ?_
    refine jr_sto (i:=4) [0,6,13,14,15] [0,1] (st1:=⟨[V 0 (.fsl 1 (List.map c_L3 a0)),V 6 (pt 0 1),V 13 (.fsl 1 (List.map cI a1)),V 14 (iv (List.length a1:Int)),V 15 (iv x138)],[W 0 1 [.mp 1],(1,.map (oM (mput x137 x151 (w64 ((mget x137 x151) + 1)))))],2⟩) rfl rfl rfl rfl (aop_mput (l:=x137) (id:=1) (kk:=x151) (v:=(w64 ((mget x137 x151) + 1))) (kt:=3) (et:=3) (by kernel_rfl) (by kernel_rfl) (by kernel_rfl) (by kernel_rfl) (by kernel_rfl) (by kernel_rfl)) (by kernel_rfl) ?_
    refine jr_nil rfl ?_
    refine jx_blkN ?_
    exact jx_mid rfl (wkR [(0,some 0),(1,some 1)] (fix_of hF (k:=0) rfl) (pc (hC 0) (pc (hM 1) allp_nil)))
   rintro (x150 | _)
   ·refine jx_seqN ?_
    refine jT ⟨[V 0 (.fsl 1 (List.map c_L3 a0)),V 6 (pt 0 1),V 13 (.fsl 1 (List.map cI a1)),V 14 (iv (List.length a1:Int)),V 15 (iv (w64 (x138 + 1)))],[W 0 1 [.mp 1],(1,.map (oM x150))],2⟩ ?_
    exact jx_next (wkR [(0,some 0),(1,some 1)] (fix_of hF (k:=0) rfl) (pc (hC 0) (pc (hM 1) allp_nil)))
   refine jx_seqR ?_
   exact jx_done rfl nofun (wkR [(0,some 0)] (fix_of hF (k:=0) rfl) (pc (hM 0) allp_nil))
  refine jc_exit ?_
  refine jx_seqE ?_
  exact jx_done rfl nofun (wkR [(0,some 0),(1,some 1)] (fix_of hF (k:=0) rfl) (pc (hC 0) (pc (hM 1) allp_nil)))
 rintro (x145 | x146)
 ·refine jx_blkR ?_
  refine jx_seqR ?_
  refine jx_scopeR ?_
  exact jx_retM (rup_units_T a0 a1 (x145,true)) (.inr rfl) (wkR [(0,some 0)] (fix_of hF (k:=0) rfl) (pc (hM 0) allp_nil))
 refine jx_blkE ?_
 refine jx_seqN ?_
 refine jS ⟨[V 0 (.fsl 1 (List.map c_L3 a0)),V 6 (pt 0 1),V 9 (pt 2 1)],[W 0 1 [.mp 1],(1,.map (oM x146)),W 2 1 [bv false]],3⟩ ?_
 refine jc_seq ?_
 refine jc_label ?_
 refine jx_seqN ?_
 refine jc_seq ?_
 refine jc_block ?_
 refine jc_bind (fun (x268,x269)=>⟨[V 6 (pt 0 1),V 9 (pt 2 1)],[W 0 1 [.mp 1],(1,.map (oM x268)),W 2 1 [bv x269]],3⟩) (fun (x268,x269)=>(.exit 2)) (jc_loop (fun x210=>⟨[V 0 (.fsl 1 (List.map c_L3 a0)),V 6 (pt 0 1),V 9 (pt 2 1)],[W 0 1 [.mp 1],(1,.map (oM x210)),W 2 1 [bv false]],3⟩) (wkR [(0,some 0),(1,some 1),(2,some 2)] (fix_of hF (k:=0) rfl) (pc (hC 0) (pc (hM 1) (pc (hC 2) allp_nil)))) ?_) ?_
 ·intro x210
  unfold rup_units_l4
  refine jc_block ?_
  refine jR ?_
  refine jG 0 1 ⟨[V 0 (.fsl 1 (List.map c_L3 a0)),V 6 (pt 0 1),V 9 (pt 2 1),V 32 (.mp 1)],[W 0 1 [.mp 1],(1,.map (oM x210)),W 2 1 [bv false]],3⟩ ?_
  refine jr_one (i:=1) (v:=iv (List.length x210:Int)) (us:=[]) rfl rfl rfl rfl (aop_lenm (l:=x210) (id:=1) (kt:=3) (et:=3) (by kernel_rfl) (by kernel_rfl) (by kernel_rfl) (by kernel_rfl)) rfl ?_
  refine jG 2 1 ⟨[V 0 (.fsl 1 (List.map c_L3 a0)),V 6 (pt 0 1),V 9 (pt 2 1),V 10 (iv (List.length x210:Int))],[W 0 1 [.mp 1],(1,.map (oM x210)),W 2 1 [bv false]],3⟩ ?_
  refine jN ?_
  refine jc_seq ?_
  refine jR ?_
  refine jG 0 2 ⟨[V 0 (.fsl 1 (List.map c_L3 a0)),V 6 (pt 0 1),V 9 (pt 2 1),V 10 (iv (List.length x210:Int)),V 34 (.mp 1),V 35 (.fsl 1 (List.map c_L3 a0))],[W 0 1 [.mp 1],(1,.map (oM x210)),W 2 1 [bv false]],3⟩ ?_
  refine jr_callM 2 [(0,some 1)] [(1,some 0),(3,some 1),(4,some 2)] (fun r:Unit=>[W 0 1 [.mp 1],(1,.map (oM x210)),W 2 1 [bv false],W 3 1 [.fsl 1 (List.map c_L3 a0)],W 4 1 [.mp 1]]) (fun r:Unit=>.fn 37 [pt 3 1,pt 4 1]) 5 (rup_sheet_open_ok x210 a0) (pc (hM 1) allp_nil) (fun r=>(pc (.inl ⟨rfl,rfl⟩) (pc (.inr (hM 0)) (pc (.inl ⟨rfl,rfl⟩) (pc (.inr (hC 1)) (pc (.inr (hC 2)) allp_nil)))))) ?_
  rintro⟨⟩ hm22
  refine jN ?_
  refine jc_block ?_
  refine jc_keep [0,6,9,10,36] [0,1,2,3,4] (st1:=⟨[V 0 (.fsl 1 (List.map c_L3 a0)),V 6 (pt 0 1),V 9 (pt 2 1),V 10 (iv (List.length x210:Int)),V 36 (.fn 37 [pt 3 1,pt 4 1])],[W 0 1 [.mp 1],(1,.map (oM x210)),W 2 1 [bv false],W 3 1 [.fsl 1 (List.map c_L3 a0)],W 4 1 [.mp 1]],5⟩) (by kernel_rfl) ?_
  refine jc_rng (g:=37) (caps:=[pt 3 1,pt 4 1]) (by kernel_rfl) rup_sheet_open_1_it_k (Nat.le_of_ble_eq_true rfl) ?_
  intro F17 hc17
  refine jR ?_
  refine jG 0 3 ⟨[V 0 (.yld 5),V 2 (pt 4 1),V 9 (.fsl 1 (List.map c_L3 a0)),V 10 (iv (List.length (List.map c_L3 a0):Int)),V 11 (iv 0)],[W 0 1 [.mp 1],(1,.map (oM x210)),W 2 1 [bv false],W 3 1 [.fsl 1 (List.map c_L3 a0)],W 4 1 [.mp 1],(5,rup_units_lp17 a0 x210 .ready none)],6⟩ ?_
  simp only[List.length_map]
  refine jN ?_
  refine jc_block ?_
  refine jc_bind (fun y=>match y with | Sum.inl x324=>⟨[],[W 0 1 [.mp 1],(1,.map (oM x324)),W 2 1 [bv true],W 3 1 [.fsl 1 (List.map c_L3 a0)],W 4 1 [.mp 1],(5,rup_units_lp17 a0 x210 .done (some (.exit 2)))],6⟩ | Sum.inr x325=>⟨[],[W 0 1 [.mp 1],(1,.map (oM x325)),W 2 1 [bv false],W 3 1 [.fsl 1 (List.map c_L3 a0)],W 4 1 [.mp 1],(5,rup_units_lp17 a0 x210 .ready none)],6⟩) (fun y=>match y with | Sum.inl x324=>.ret | Sum.inr x325=>(.exit 0)) (jc_loop (fun (x295,x296)=>⟨[V 0 (.yld 5),V 2 (pt 4 1),V 9 (.fsl 1 (List.map c_L3 a0)),V 10 (iv (List.length a0:Int)),V 11 (iv x296)],[W 0 1 [.mp 1],(1,.map (oM x295)),W 2 1 [bv false],W 3 1 [.fsl 1 (List.map c_L3 a0)],W 4 1 [.mp 1],(5,rup_units_lp17 a0 x210 .ready none)],6⟩) (wkR [(0,some 0),(1,some 1),(2,some 2),(3,some 3),(4,some 4),(5,some 5)] (fix_of hc17.2.2 (k:=6) rfl) (pc (hC 0) (pc (hM 1) (pc (hC 2) (pc (hC 3) (pc (hC 4) (pc (.inr (.inr (.inl ⟨5,_,_,rfl,rfl,rfl,by kernel_rfl⟩))) allp_nil))))))) ?_) ?_
  ·rintro⟨x295,x296⟩
   unfold rup_units_l3
   refine jS ⟨[V 0 (.yld 5),V 2 (pt 4 1),V 9 (.fsl 1 (List.map c_L3 a0)),V 10 (iv (List.length a0:Int)),V 11 (iv x296),V 12 (bv (decide (x296 < (List.length a0:Int))))],[W 0 1 [.mp 1],(1,.map (oM x295)),W 2 1 [bv false],W 3 1 [.fsl 1 (List.map c_L3 a0)],W 4 1 [.mp 1],(5,rup_units_lp17 a0 x210 .ready none)],6⟩ ?_
   refine jc_seq ?_
   refine jIf ?_ ?_
   ·refine jc_skip ?_
    refine jx_seqN ?_
    refine jc_seq ?_
    refine jc_bind (fun y=>match y with | Sum.inl x350=>⟨[V 0 (.yld 5),V 2 (pt 4 1),V 9 (.fsl 1 (List.map c_L3 a0)),V 10 (iv (List.length a0:Int)),V 11 (iv x296)],[W 0 1 [.mp 1],(1,.map (oM x350)),W 2 1 [bv false],W 3 1 [.fsl 1 (List.map c_L3 a0)],W 4 1 [.mp 1],(5,rup_units_lp17 a0 x210 .ready none)],6⟩ | Sum.inr _=>⟨[],[W 0 1 [.mp 1],(1,.map (oM x295)),W 2 1 [bv true],W 3 1 [.fsl 1 (List.map c_L3 a0)],W 4 1 [.mp 1],(5,rup_units_lp17 a0 x210 .done (some (.exit 2)))],6⟩) (fun y=>match y with | Sum.inl x350=>.normal | Sum.inr _=>.ret) ?_ ?_
    ·refine jc_block ?_
     refine jR ?_
     refine jr_part (i:=0) (mo:=ixl a0 x296) rfl rfl rfl rfl (fun _ hc=>aop_ixf (c:=c_L3) (sz:=1) (e:=23) (kk:=.i64) (by kernel_rfl) (by kernel_rfl) (by kernel_rfl) (by kernel_rfl) hc) (fun _=>rfl) ?_
     intro x351 h351
     refine jG 1 2 ⟨[V 0 (.yld 5),V 2 (pt 4 1),V 5 (.fsl 1 (List.map cI x351)),V 9 (.fsl 1 (List.map c_L3 a0)),V 10 (iv (List.length a0:Int)),V 11 (iv x296)],[W 0 1 [.mp 1],(1,.map (oM x295)),W 2 1 [bv false],W 3 1 [.fsl 1 (List.map c_L3 a0)],W 4 1 [.mp 1],(5,rup_units_lp17 a0 x210 .ready none)],6⟩ ?_
     refine jN ?_
     refine jc_seq ?_
     refine jR ?_
     refine jG 0 2 ⟨[V 0 (.yld 5),V 2 (pt 4 1),V 5 (.fsl 1 (List.map cI x351)),V 9 (.fsl 1 (List.map c_L3 a0)),V 10 (iv (List.length a0:Int)),V 11 (iv x296),V 15 (.fsl 1 (List.map cI x351)),V 16 (.fn 39 [pt 4 1])],[W 0 1 [.mp 1],(1,.map (oM x295)),W 2 1 [bv false],W 3 1 [.fsl 1 (List.map c_L3 a0)],W 4 1 [.mp 1],(5,rup_units_lp17 a0 x210 .ready none)],6⟩ ?_
     refine jr_callF (i:=2) rfl rfl rfl rfl (vs:=[.fsl 1 (List.map cI x351),.fn 39 [pt 4 1]]) (by kernel_rfl) (snapL_cons rfl (snapL_cons (snapc_fn (snapL_cons (snapc_ptr (row:=[.mp 1]) (by kernel_rfl) (snapL_cons (snapc_mp (by kernel_rfl)) (snapL_nil _))) (snapL_nil _))) (snapL_nil _))) (all2_cons (fle_refl _) (all2_cons (fle_refl _) all2_nil)) (slices_ContainsFunc_int_int_se3d8_ok x351 x295) (fun _=>rfl) (fun _=>rfl) ?_
     intro x352 h352
     refine jN ?_
     refine jIf ?_ ?_
     ·refine jc_exit ?_
      refine jx_seqE ?_
      refine jx_blkE ?_
      exact jx_mid rfl (wkR [(0,some 0),(1,some 1),(2,some 2),(3,some 3),(4,some 4),(5,some 5)] (fix_of hc17.2.2 (k:=6) rfl) (pc (hC 0) (pc (hM 1) (pc (hC 2) (pc (hC 3) (pc (hC 4) (pc (.inr (.inr (.inl ⟨5,_,_,rfl,rfl,rfl,by kernel_rfl⟩))) allp_nil)))))))
     refine jc_skip ?_
     refine jx_seqN ?_
     refine jS ⟨[V 0 (.yld 5),V 2 (pt 4 1),V 5 (.fsl 1 (List.map cI x351)),V 6 (nilS),V 9 (.fsl 1 (List.map c_L3 a0)),V 10 (iv (List.length a0:Int)),V 11 (iv x296)],[W 0 1 [.mp 1],(1,.map (oM x295)),W 2 1 [bv false],W 3 1 [.fsl 1 (List.map c_L3 a0)],W 4 1 [.mp 1],(5,rup_units_lp17 a0 x210 .ready none)],6⟩ ?_
     refine jc_seq ?_
     refine jR ?_
     refine jG 0 3 ⟨[V 0 (.yld 5),V 2 (pt 4 1),V 6 (nilS),V 9 (.fsl 1 (List.map c_L3 a0)),V 10 (iv (List.length a0:Int)),V 11 (iv x296),V 18 (.fsl 1 (List.map cI x351)),V 19 (iv (List.length (List.map cI x351):Int)),V 20 (iv 0)],[W 0 1 [.mp 1],(1,.map (oM x295)),W 2 1 [bv false],W 3 1 [.fsl 1 (List.map c_L3 a0)],W 4 1 [.mp 1],(5,rup_units_lp17 a0 x210 .ready none)],6⟩ ?_
     simp only[List.length_map]
     refine jN ?_
     refine jc_block ?_
     refine jc_bind (fun x369=>⟨[V 0 (.yld 5),V 2 (pt 4 1),V 6 (.osl 6 0 (List.length x369) 1),V 9 (.fsl 1 (List.map c_L3 a0)),V 10 (iv (List.length a0:Int)),V 11 (iv x296)],[W 0 1 [.mp 1],(1,.map (oM x295)),W 2 1 [bv false],W 3 1 [.fsl 1 (List.map c_L3 a0)],W 4 1 [.mp 1],(5,rup_units_lp17 a0 x210 .ready none),(6,.rows 1 (List.map cI x369))],7⟩) (fun x369=>(.exit 2)) (jc_loop (fun (x359,x360)=>⟨[V 0 (.yld 5),V 2 (pt 4 1),V 6 (.osl 6 0 (List.length x359) 1),V 9 (.fsl 1 (List.map c_L3 a0)),V 10 (iv (List.length a0:Int)),V 11 (iv x296),V 18 (.fsl 1 (List.map cI x351)),V 19 (iv (List.length x351:Int)),V 20 (iv x360)],[W 0 1 [.mp 1],(1,.map (oM x295)),W 2 1 [bv false],W 3 1 [.fsl 1 (List.map c_L3 a0)],W 4 1 [.mp 1],(5,rup_units_lp17 a0 x210 .ready none),(6,.rows 1 (List.map cI x359))],7⟩) (wkR [(0,some 0),(1,some 1),(2,some 2),(3,some 3),(4,some 4),(5,some 5),(6,none)] (fix_of hc17.2.2 (k:=6) rfl) (pc (hC 0) (pc (hM 1) (pc (hC 2) (pc (hC 3) (pc (hC 4) (pc (.inr (.inr (.inl ⟨5,_,_,rfl,rfl,rfl,by kernel_rfl⟩))) (pc hZ allp_nil)))))))) ?_) ?_
     ·rintro⟨x359,x360⟩
      unfold rup_units_l2
      refine jS ⟨[V 0 (.yld 5),V 2 (pt 4 1),V 6 (.osl 6 0 (List.length x359) 1),V 9 (.fsl 1 (List.map c_L3 a0)),V 10 (iv (List.length a0:Int)),V 11 (iv x296),V 18 (.fsl 1 (List.map cI x351)),V 19 (iv (List.length x351:Int)),V 20 (iv x360),V 21 (bv (decide (x360 < (List.length x351:Int))))],[W 0 1 [.mp 1],(1,.map (oM x295)),W 2 1 [bv false],W 3 1 [.fsl 1 (List.map c_L3 a0)],W 4 1 [.mp 1],(5,rup_units_lp17 a0 x210 .ready none),(6,.rows 1 (List.map cI x359))],7⟩ ?_
      refine jc_seq ?_
      refine jIf ?_ ?_
      ·refine jc_skip ?_
       refine jx_seqN ?_
       refine jc_seq ?_
       refine jc_bind (fun x375=>⟨[V 0 (.yld 5),V 2 (pt 4 1),V 6 (.osl 6 0 (List.length x375) 1),V 9 (.fsl 1 (List.map c_L3 a0)),V 10 (iv (List.length a0:Int)),V 11 (iv x296),V 18 (.fsl 1 (List.map cI x351)),V 19 (iv (List.length x351:Int)),V 20 (iv x360)],[W 0 1 [.mp 1],(1,.map (oM x295)),W 2 1 [bv false],W 3 1 [.fsl 1 (List.map c_L3 a0)],W 4 1 [.mp 1],(5,rup_units_lp17 a0 x210 .ready none),(6,.rows 1 (List.map cI x375))],7⟩) (fun x375=>.normal) ?_ ?_
       ·refine jc_block ?_
        refine jR ?_
        refine jr_part (i:=0) (mo:=ixl x351 x360) rfl rfl rfl rfl (fun _ hc=>aop_ixf (c:=cI) (sz:=1) (e:=3) (kk:=.i64) (by kernel_rfl) (by kernel_rfl) (by kernel_rfl) (by kernel_rfl) hc) (fun _=>rfl) ?_
        intro x376 h376
        refine jG 1 2 ⟨[V 0 (.yld 5),V 2 (pt 4 1),V 6 (.osl 6 0 (List.length x359) 1),V 8 (iv x376),V 9 (.fsl 1 (List.map c_L3 a0)),V 10 (iv (List.length a0:Int)),V 11 (iv x296),V 18 (.fsl 1 (List.map cI x351)),V 19 (iv (List.length x351:Int)),V 20 (iv x360)],[W 0 1 [.mp 1],(1,.map (oM x295)),W 2 1 [bv false],W 3 1 [.fsl 1 (List.map c_L3 a0)],W 4 1 [.mp 1],(5,rup_units_lp17 a0 x210 .ready none),(6,.rows 1 (List.map cI x359))],7⟩ ?_
        refine jN ?_
        refine jR ?_
        refine jG 0 3 ⟨[V 0 (.yld 5),V 2 (pt 4 1),V 6 (.osl 6 0 (List.length x359) 1),V 8 (iv x376),V 9 (.fsl 1 (List.map c_L3 a0)),V 10 (iv (List.length a0:Int)),V 11 (iv x296),V 18 (.fsl 1 (List.map cI x351)),V 19 (iv (List.length x351:Int)),V 20 (iv x360),V 24 (.mp 1),V 26 (iv (w64 (0 - x376)))],[W 0 1 [.mp 1],(1,.map (oM x295)),W 2 1 [bv false],W 3 1 [.fsl 1 (List.map c_L3 a0)],W 4 1 [.mp 1],(5,rup_units_lp17 a0 x210 .ready none),(6,.rows 1 (List.map cI x359))],7⟩ ?_
        refine jr_callF (i:=3) rfl rfl rfl rfl (vs:=[.mp 1,iv (w64 (0 - x376))]) (by kernel_rfl) (snapL_cons (snapc_mp (by kernel_rfl)) (snapL_cons rfl (snapL_nil _))) (all2_cons (fle_refl _) (all2_cons (fle_refl _) all2_nil)) (rup_sheet_isTrue_ok x295 (w64 (0 - x376))) (fun _=>rfl) (fun _=>rfl) ?_
        intro x377 h377
        refine jG 4 2 ⟨[V 0 (.yld 5),V 2 (pt 4 1),V 6 (.osl 6 0 (List.length x359) 1),V 8 (iv x376),V 9 (.fsl 1 (List.map c_L3 a0)),V 10 (iv (List.length a0:Int)),V 11 (iv x296),V 18 (.fsl 1 (List.map cI x351)),V 19 (iv (List.length x351:Int)),V 20 (iv x360),V 29 (bv (!x377))],[W 0 1 [.mp 1],(1,.map (oM x295)),W 2 1 [bv false],W 3 1 [.fsl 1 (List.map c_L3 a0)],W 4 1 [.mp 1],(5,rup_units_lp17 a0 x210 .ready none),(6,.rows 1 (List.map cI x359))],7⟩ ?_
        refine jr_bind 6 5 (fun x379=>⟨[V 0 (.yld 5),V 2 (pt 4 1),V 6 (.osl 6 0 (List.length x359) 1),V 8 (iv x376),V 9 (.fsl 1 (List.map c_L3 a0)),V 10 (iv (List.length a0:Int)),V 11 (iv x296),V 18 (.fsl 1 (List.map cI x351)),V 19 (iv (List.length x351:Int)),V 20 (iv x360),V 34 (bv x379)],[W 0 1 [.mp 1],(1,.map (oM x295)),W 2 1 [bv false],W 3 1 [.fsl 1 (List.map c_L3 a0)],W 4 1 [.mp 1],(5,rup_units_lp17 a0 x210 .ready none),(6,.rows 1 (List.map cI x359))],7⟩) ?_ ?_
        ·refine jSp 29 ?_ ?_
         ·refine jG 0 2 ⟨[V 0 (.yld 5),V 2 (pt 4 1),V 6 (.osl 6 0 (List.length x359) 1),V 8 (iv x376),V 9 (.fsl 1 (List.map c_L3 a0)),V 10 (iv (List.length a0:Int)),V 11 (iv x296),V 18 (.fsl 1 (List.map cI x351)),V 19 (iv (List.length x351:Int)),V 20 (iv x360),(29,.lit true),V 30 (.osl 6 0 (List.length x359) 1),V 31 (iv x376)],[W 0 1 [.mp 1],(1,.map (oM x295)),W 2 1 [bv false],W 3 1 [.fsl 1 (List.map c_L3 a0)],W 4 1 [.mp 1],(5,rup_units_lp17 a0 x210 .ready none),(6,.rows 1 (List.map cI x359))],7⟩ ?_
          refine jr_callF (i:=2) rfl rfl rfl rfl (vs:=[.osl 6 0 (List.length x359) 1,iv x376]) (by kernel_rfl) (snapL_cons (snapc_own fz_I (by kernel_rfl)) (snapL_cons rfl (snapL_nil _))) (all2_cons (fle_refl _) (all2_cons (fle_refl _) all2_nil)) (slices_Contains_int_int_ok x359 x376) (fun _=>rfl) (fun _=>rfl) ?_
          intro x380 h380
          refine jG 3 2 ⟨[V 0 (.yld 5),V 2 (pt 4 1),V 6 (.osl 6 0 (List.length x359) 1),V 8 (iv x376),V 9 (.fsl 1 (List.map c_L3 a0)),V 10 (iv (List.length a0:Int)),V 11 (iv x296),V 18 (.fsl 1 (List.map cI x351)),V 19 (iv (List.length x351:Int)),V 20 (iv x360),V 34 (bv (!x380))],[W 0 1 [.mp 1],(1,.map (oM x295)),W 2 1 [bv false],W 3 1 [.fsl 1 (List.map c_L3 a0)],W 4 1 [.mp 1],(5,rup_units_lp17 a0 x210 .ready none),(6,.rows 1 (List.map cI x359))],7⟩ ?_
          refine jr_nil rfl ?_
          exact jx_mid rfl (wkR [(0,some 0),(1,some 1),(2,some 2),(3,some 3),(4,some 4),(5,some 5),(6,some 6)] (fix_of hc17.2.2 (k:=6) rfl) (pc (hC 0) (pc (hM 1) (pc (hC 2) (pc (hC 3) (pc (hC 4) (pc (.inr (.inr (.inl ⟨5,_,_,rfl,rfl,rfl,by kernel_rfl⟩))) (pc (hL 6 (noid_map ni_I _)) allp_nil))))))))
         refine jG 0 5 ⟨[V 0 (.yld 5),V 2 (pt 4 1),V 6 (.osl 6 0 (List.length x359) 1),V 8 (iv x376),V 9 (.fsl 1 (List.map c_L3 a0)),V 10 (iv (List.length a0:Int)),V 11 (iv x296),V 18 (.fsl 1 (List.map cI x351)),V 19 (iv (List.length x351:Int)),V 20 (iv x360),V 34 (bv false)],[W 0 1 [.mp 1],(1,.map (oM x295)),W 2 1 [bv false],W 3 1 [.fsl 1 (List.map c_L3 a0)],W 4 1 [.mp 1],(5,rup_units_lp17 a0 x210 .ready none),(6,.rows 1 (List.map cI x359))],7⟩ ?_
         refine jr_nil rfl ?_
         exact jx_mid rfl (wkR [(0,some 0),(1,some 1),(2,some 2),(3,some 3),(4,some 4),(5,some 5),(6,some 6)] (fix_of hc17.2.2 (k:=6) rfl) (pc (hC 0) (pc (hM 1) (pc (hC 2) (pc (hC 3) (pc (hC 4) (pc (.inr (.inr (.inl ⟨5,_,_,rfl,rfl,rfl,by kernel_rfl⟩))) (pc (hL 6 (noid_map ni_I _)) allp_nil))))))))
        intro x379
        refine jN ?_
        refine jIf ?_ ?_
        ·refine jc_reg ?_
         refine jG 0 3 ⟨[V 0 (.yld 5),V 2 (pt 4 1),V 9 (.fsl 1 (List.map c_L3 a0)),V 10 (iv (List.length a0:Int)),V 11 (iv x296),V 18 (.fsl 1 (List.map cI x351)),V 19 (iv (List.length x351:Int)),V 20 (iv x360),V 35 (.osl 6 0 (List.length x359) 1),V 37 (.osl 7 0 (List.length [x376]) 1)],[W 0 1 [.mp 1],(1,.map (oM x295)),W 2 1 [bv false],W 3 1 [.fsl 1 (List.map c_L3 a0)],W 4 1 [.mp 1],(5,rup_units_lp17 a0 x210 .ready none),(6,.rows 1 (List.map cI x359)),(7,.rows 1 (List.map cI [x376]))],8⟩ ?_
         refine jr_part (i:=3) (mo:=app 8 x359 [x376]) rfl rfl rfl rfl (fun _ hc=>aop_app (u:=.osl 6 0 (List.length x359) 1) (w:=.osl 7 0 (List.length [x376]) 1) (e:=3) (td:=.slice 3) (by kernel_rfl) (by kernel_rfl) (by kernel_rfl) (by kernel_rfl) (.inl ⟨_,rfl⟩) (appendOf_own (c:=cI) (sz:=1) (b:=8) (id:=6) (by kernel_rfl) (by kernel_rfl) (rows_own (by kernel_rfl)) (List.cons_ne_nil _ _) hc)) (fun _=>rfl) ?_
         intro x381 h381
         refine jG 4 1 ⟨[V 0 (.yld 5),V 2 (pt 4 1),V 6 (.osl 8 0 (List.length x381) 1),V 9 (.fsl 1 (List.map c_L3 a0)),V 10 (iv (List.length a0:Int)),V 11 (iv x296),V 18 (.fsl 1 (List.map cI x351)),V 19 (iv (List.length x351:Int)),V 20 (iv x360)],[W 0 1 [.mp 1],(1,.map (oM x295)),W 2 1 [bv false],W 3 1 [.fsl 1 (List.map c_L3 a0)],W 4 1 [.mp 1],(5,rup_units_lp17 a0 x210 .ready none),(8,.rows 1 (List.map cI x381))],9⟩ ?_
         refine jr_nil rfl ?_
         refine jx_blkN ?_
         exact jx_mid rfl (wkR [(0,some 0),(1,some 1),(2,some 2),(3,some 3),(4,some 4),(5,some 5),(6,some 8)] (fix_of hc17.2.2 (k:=6) rfl) (pc (hC 0) (pc (hM 1) (pc (hC 2) (pc (hC 3) (pc (hC 4) (pc (.inr (.inr (.inl ⟨5,_,_,rfl,rfl,rfl,by kernel_rfl⟩))) (pc (hL 8 (noid_map ni_I _)) allp_nil))))))))
        refine jc_skip ?_
        refine jx_blkN ?_
        exact jx_mid rfl (wkR [(0,some 0),(1,some 1),(2,some 2),(3,some 3),(4,some 4),(5,some 5),(6,some 6)] (fix_of hc17.2.2 (k:=6) rfl) (pc (hC 0) (pc (hM 1) (pc (hC 2) (pc (hC 3) (pc (hC 4) (pc (.inr (.inr (.inl ⟨5,_,_,rfl,rfl,rfl,by kernel_rfl⟩))) (pc (hL 6 (noid_map ni_I _)) allp_nil))))))))
       intro x375
       refine jx_seqN ?_
       refine jT ⟨[V 0 (.yld 5),V 2 (pt 4 1),V 6 (.osl 6 0 (List.length x375) 1),V 9 (.fsl 1 (List.map c_L3 a0)),V 10 (iv (List.length a0:Int)),V 11 (iv x296),V 18 (.fsl 1 (List.map cI x351)),V 19 (iv (List.length x351:Int)),V 20 (iv (w64 (x360 + 1)))],[W 0 1 [.mp 1],(1,.map (oM x295)),W 2 1 [bv false],W 3 1 [.fsl 1 (List.map c_L3 a0)],W 4 1 [.mp 1],(5,rup_units_lp17 a0 x210 .ready none),(6,.rows 1 (List.map cI x375))],7⟩ ?_
       exact jx_next (wkR [(0,some 0),(1,some 1),(2,some 2),(3,some 3),(4,some 4),(5,some 5),(6,some 6)] (fix_of hc17.2.2 (k:=6) rfl) (pc (hC 0) (pc (hM 1) (pc (hC 2) (pc (hC 3) (pc (hC 4) (pc (.inr (.inr (.inl ⟨5,_,_,rfl,rfl,rfl,by kernel_rfl⟩))) (pc (hL 6 (noid_map ni_I _)) allp_nil))))))))
      refine jc_exit ?_
      refine jx_seqE ?_
      exact jx_done rfl nofun (wkR [(0,some 0),(1,some 1),(2,some 2),(3,some 3),(4,some 4),(5,some 5),(6,some 6)] (fix_of hc17.2.2 (k:=6) rfl) (pc (hC 0) (pc (hM 1) (pc (hC 2) (pc (hC 3) (pc (hC 4) (pc (.inr (.inr (.inl ⟨5,_,_,rfl,rfl,rfl,by kernel_rfl⟩))) (pc (hL 6 (noid_map ni_I _)) allp_nil))))))))
     intro x369
     refine jx_blkE ?_
     refine jx_seqN ?_
     refine jR ?_
     refine jG 0 2 ⟨[V 0 (.yld 5),V 2 (pt 4 1),V 9 (.fsl 1 (List.map c_L3 a0)),V 10 (iv (List.length a0:Int)),V 11 (iv x296),V 40 (.yld 5),V 41 (.osl 6 0 (List.length x369) 1)],[W 0 1 [.mp 1],(1,.map (oM x295)),W 2 1 [bv false],W 3 1 [.fsl 1 (List.map c_L3 a0)],W 4 1 [.mp 1],(5,rup_units_lp17 a0 x210 .ready none),(6,.rows 1 (List.map cI x369))],7⟩ ?_
     refine jr_yield (i:=2) (l:=5) (Nc:=66) (Kc:=[V 0 (.fsl 1 (List.map c_L3 a0)),V 6 (pt 0 1),V 9 (pt 2 1),V 10 (iv (List.length x210:Int)),V 36 (.fn 37 [pt 3 1,pt 4 1])]) (ps:=[37]) (vs:=[.osl 6 0 (List.length x369) 1]) (fun y=>match y with | Sum.inl _=>⟨[],[W 0 1 [.mp 1],(1,.map (oM x295)),W 2 1 [bv true],W 3 1 [.fsl 1 (List.map c_L3 a0)],W 4 1 [.mp 1],(5,rup_units_lp17 a0 x210 .busy none)],7⟩ | Sum.inr x386=>⟨[],[W 0 1 [.mp 1],(1,.map (oM x386)),W 2 1 [bv false],W 3 1 [.fsl 1 (List.map c_L3 a0)],W 4 1 [.mp 1],(5,rup_units_lp17 a0 x210 .busy none)],7⟩) (fun y=>match y with | Sum.inl _=>(.exit 2) | Sum.inr x386=>.normal) [0,2,9,10,11,42] [0,1,2,3,4,5] (after:=(fun y=>match y with | Sum.inl _=>⟨[V 0 (.yld 5),V 2 (pt 4 1),V 9 (.fsl 1 (List.map c_L3 a0)),V 10 (iv (List.length a0:Int)),V 11 (iv x296),V 42 (bv false)],[W 0 1 [.mp 1],(1,.map (oM x295)),W 2 1 [bv true],W 3 1 [.fsl 1 (List.map c_L3 a0)],W 4 1 [.mp 1],(5,rup_units_lp17 a0 x210 .done (some (.exit 2)))],7⟩ | Sum.inr x386=>⟨[V 0 (.yld 5),V 2 (pt 4 1),V 9 (.fsl 1 (List.map c_L3 a0)),V 10 (iv (List.length a0:Int)),V 11 (iv x296),V 42 (bv true)],[W 0 1 [.mp 1],(1,.map (oM x386)),W 2 1 [bv false],W 3 1 [.fsl 1 (List.map c_L3 a0)],W 4 1 [.mp 1],(5,rup_units_lp17 a0 x210 .ready none)],7⟩)) rfl rfl rup_units_y19_aw rup_units_y19_bw (by kernel_rfl) (by kernel_rfl) (yctx_of hc17 rfl) rfl (by kernel_rfl) rfl ?_ (by rintro (_ | x386) <;> exact⟨none,by kernel_rfl⟩) (by rintro (_ | x386) <;> kernel_rfl) ?_
     ·intro F21 hy21
      refine jT ⟨[V 6 (pt 0 1),V 9 (pt 2 1),V 11 (.osl 6 0 (List.length x369) 1)],[W 0 1 [.mp 1],(1,.map (oM x295)),W 2 1 [bv false],W 3 1 [.fsl 1 (List.map c_L3 a0)],W 4 1 [.mp 1],(5,rup_units_lp17 a0 x210 .ready none),(6,.rows 1 (List.map cI x369))],7⟩ ?_
      refine jx_asg hy21 rfl ?_
      refine jc_block ?_
      refine jc_block ?_
      refine jS ⟨[V 6 (pt 0 1),V 9 (pt 2 1),V 11 (.osl 6 0 (List.length x369) 1),V 38 (bv ((List.length x369:Int) == 0))],[W 0 1 [.mp 1],(1,.map (oM x295)),W 2 1 [bv false],W 3 1 [.fsl 1 (List.map c_L3 a0)],W 4 1 [.mp 1],(5,rup_units_lp17 a0 x210 .busy none),(6,.rows 1 (List.map cI x369))],7⟩ ?_
      refine jIf ?_ ?_
      ·refine jS ⟨[],[W 0 1 [.mp 1],(1,.map (oM x295)),W 2 1 [bv true],W 3 1 [.fsl 1 (List.map c_L3 a0)],W 4 1 [.mp 1],(5,rup_units_lp17 a0 x210 .busy none)],7⟩ ?_
       refine jc_exit ?_
       refine jx_blkX rfl ?_
       refine jx_blkX rfl ?_
       exact jx_mid rfl (wkR [(0,some 0),(1,some 1),(2,some 2),(3,some 3),(4,some 4),(5,some 5),(6,some 6)] (fix_of hy21.2 (k:=7) rfl) (pc (hC 0) (pc (hM 1) (pc (hC 2) (pc (hC 3) (pc (hC 4) (pc (.inr (.inr (.inl ⟨5,_,_,rfl,rfl,rfl,by kernel_rfl⟩))) allp_nil)))))))
      refine jR ?_
      refine jG 0 4 ⟨[V 6 (pt 0 1),V 11 (.osl 6 0 (List.length x369) 1),V 46 (bv ((List.length x369:Int) == 1))],[W 0 1 [.mp 1],(1,.map (oM x295)),W 2 1 [bv false],W 3 1 [.fsl 1 (List.map c_L3 a0)],W 4 1 [.mp 1],(5,rup_units_lp17 a0 x210 .busy none),(6,.rows 1 (List.map cI x369))],7⟩ ?_
      refine jr_bind 4 7 (fun x389=>⟨[V 6 (pt 0 1),V 11 (.osl 6 0 (List.length x369) 1),V 53 (bv x389)],[W 0 1 [.mp 1],(1,.map (oM x295)),W 2 1 [bv false],W 3 1 [.fsl 1 (List.map c_L3 a0)],W 4 1 [.mp 1],(5,rup_units_lp17 a0 x210 .busy none),(6,.rows 1 (List.map cI x369))],7⟩) ?_ ?_
      ·refine jSp 46 ?_ ?_
       ·refine jG 0 2 ⟨[V 6 (pt 0 1),V 11 (.osl 6 0 (List.length x369) 1),(46,.lit true),V 47 (.mp 1),V 48 (.osl 6 0 (List.length x369) 1)],[W 0 1 [.mp 1],(1,.map (oM x295)),W 2 1 [bv false],W 3 1 [.fsl 1 (List.map c_L3 a0)],W 4 1 [.mp 1],(5,rup_units_lp17 a0 x210 .busy none),(6,.rows 1 (List.map cI x369))],7⟩ ?_
        refine jr_part (i:=2) (mo:=ixl x369 0) rfl rfl rfl rfl (fun _ hc=>aop_ixo0 (sz:=1) (e:=3) (kk:=.i64) (id:=6) (by kernel_rfl) (by kernel_rfl) (by kernel_rfl) (by kernel_rfl) hc) (fun _=>rfl) ?_
        intro x390 h390
        refine jr_one (i:=3) (v:=iv x390) rfl rfl rfl rfl (aop_ldo (l:=x369) (c:=cI) (id:=6) (k:=(Int.toNat 0)) (sz:=1) (off:=0) (a:=x390) (by kernel_rfl) (by kernel_rfl) (ixl_lt h390).2.2 (by kernel_rfl)) rfl ?_
        refine jr_callF (i:=4) rfl rfl rfl rfl (vs:=[.mp 1,iv x390]) (by kernel_rfl) (snapL_cons (snapc_mp (by kernel_rfl)) (snapL_cons rfl (snapL_nil _))) (all2_cons (fle_refl _) (all2_cons (fle_refl _) all2_nil)) (rup_sheet_isTrue_ok x295 x390) (fun _=>rfl) (fun _=>rfl) ?_
        intro x391 h391
        refine jG 5 2 ⟨[V 6 (pt 0 1),V 11 (.osl 6 0 (List.length x369) 1),V 53 (bv (!x391))],[W 0 1 [.mp 1],(1,.map (oM x295)),W 2 1 [bv false],W 3 1 [.fsl 1 (List.map c_L3 a0)],W 4 1 [.mp 1],(5,rup_units_lp17 a0 x210 .busy none),(6,.rows 1 (List.map cI x369))],7⟩ ?_
        refine jr_nil rfl ?_
        exact jx_mid rfl (wkR [(0,some 0),(1,some 1),(2,some 2),(3,some 3),(4,some 4),(5,some 5),(6,some 6)] (fix_of hy21.2 (k:=7) rfl) (pc (hC 0) (pc (hM 1) (pc (hC 2) (pc (hC 3) (pc (hC 4) (pc (.inr (.inr (.inl ⟨5,_,_,rfl,rfl,rfl,by kernel_rfl⟩))) (pc (hL 6 (noid_map ni_I _)) allp_nil))))))))
       refine jG 0 7 ⟨[V 6 (pt 0 1),V 11 (.osl 6 0 (List.length x369) 1),V 53 (bv false)],[W 0 1 [.mp 1],(1,.map (oM x295)),W 2 1 [bv false],W 3 1 [.fsl 1 (List.map c_L3 a0)],W 4 1 [.mp 1],(5,rup_units_lp17 a0 x210 .busy none),(6,.rows 1 (List.map cI x369))],7⟩ ?_
       refine jr_nil rfl ?_
       exact jx_mid rfl (wkR [(0,some 0),(1,some 1),(2,some 2),(3,some 3),(4,some 4),(5,some 5),(6,some 6)] (fix_of hy21.2 (k:=7) rfl) (pc (hC 0) (pc (hM 1) (pc (hC 2) (pc (hC 3) (pc (hC 4) (pc (.inr (.inr (.inl ⟨5,_,_,rfl,rfl,rfl,by kernel_rfl⟩))) (pc (hL 6 (noid_map ni_I _)) allp_nil))))))))
      intro x389
      refine jG 11 1 ⟨[V 6 (pt 0 1),V 11 (.osl 6 0 (List.length x369) 1),V 42 (bv x389)],[W 0 1 [.mp 1],(1,.map (oM x295)),W 2 1 [bv false],W 3 1 [.fsl 1 (List.map c_L3 a0)],W 4 1 [.mp 1],(5,rup_units_lp17 a0 x210 .busy none),(6,.rows 1 (List.map cI x369))],7⟩ ?_
      refine jN ?_
      refine jIf ?_ ?_
      ·refine jc_reg ?_
       refine jG 0 2 ⟨[V 54 (.mp 1),V 55 (.osl 6 0 (List.length x369) 1)],[W 0 1 [.mp 1],(1,.map (oM x295)),W 2 1 [bv false],W 3 1 [.fsl 1 (List.map c_L3 a0)],W 4 1 [.mp 1],(5,rup_units_lp17 a0 x210 .busy none),(6,.rows 1 (List.map cI x369))],7⟩ ?_
       refine jr_part (i:=2) (mo:=ixl x369 0) rfl rfl rfl rfl (fun _ hc=>aop_ixo0 (sz:=1) (e:=3) (kk:=.i64) (id:=6) (by kernel_rfl) (by kernel_rfl) (by kernel_rfl) (by kernel_rfl) hc) (fun _=>rfl) ?_
       intro x392 h392
       refine jr_one (i:=3) (v:=iv x392) rfl rfl rfl rfl (aop_ldo (l:=x369) (c:=cI) (id:=6) (k:=(Int.toNat 0)) (sz:=1) (off:=0) (a:=x392) (by kernel_rfl) (by kernel_rfl) (ixl_lt h392).2.2 (by kernel_rfl)) rfl ?_
       refine jr_one (i:=4) (v:=iv (mget x295 x392)) (us:=[]) rfl rfl rfl rfl (aop_look (l:=x295) (id:=1) (kk:=x392) (kt:=3) (et:=3) (by kernel_rfl) (by kernel_rfl) (by kernel_rfl) (by kernel_rfl) (by kernel_rfl) (by kernel_rfl)) rfl ?_
       refine jG 5 1 ⟨[V 54 (.mp 1),V 57 (iv x392),V 59 (iv (w64 ((mget x295 x392) + 1)))],[W 0 1 [.mp 1],(1,.map (oM x295)),W 2 1 [bv false],W 3 1 [.fsl 1 (List.map c_L3 a0)],W 4 1 [.mp 1],(5,rup_units_lp17 a0 x210 .busy none)],7⟩ ?_
       refine jr_sto (i:=6) [] [0,1,2,3,4,5] (st1:=⟨[],[W 0 1 [.mp 1],(1,.map (oM (mput x295 x392 (w64 ((mget x295 x392) + 1))))),W 2 1 [bv false],W 3 1 [.fsl 1 (List.map c_L3 a0)],W 4 1 [.mp 1],(5,rup_units_lp17 a0 x210 .busy none)],7⟩) rfl rfl rfl rfl (aop_mput (l:=x295) (id:=1) (kk:=x392) (v:=(w64 ((mget x295 x392) + 1))) (kt:=3) (et:=3) (by kernel_rfl) (by kernel_rfl) (by kernel_rfl) (by kernel_rfl) (by kernel_rfl) (by kernel_rfl)) (by kernel_rfl) ?_
       refine jr_nil rfl ?_
       refine jx_blkN ?_
       refine jx_blkN ?_
       exact jx_mid rfl (wkR [(0,some 0),(1,some 1),(2,some 2),(3,some 3),(4,some 4),(5,some 5),(6,some 6)] (fix_of hy21.2 (k:=7) rfl) (pc (hC 0) (pc (hM 1) (pc (hC 2) (pc (hC 3) (pc (hC 4) (pc (.inr (.inr (.inl ⟨5,_,_,rfl,rfl,rfl,by kernel_rfl⟩))) allp_nil)))))))
      refine jc_skip ?_
      refine jx_blkN ?_
      refine jx_blkN ?_
      exact jx_mid rfl (wkR [(0,some 0),(1,some 1),(2,some 2),(3,some 3),(4,some 4),(5,some 5),(6,some 6)] (fix_of hy21.2 (k:=7) rfl) (pc (hC 0) (pc (hM 1) (pc (hC 2) (pc (hC 3) (pc (hC 4) (pc (.inr (.inr (.inl ⟨5,_,_,rfl,rfl,rfl,by kernel_rfl⟩))) allp_nil)))))))
     rintro (_ | x386)
     ·refine jG 3 1 ⟨[V 0 (.yld 5),V 2 (pt 4 1),V 9 (.fsl 1 (List.map c_L3 a0)),V 10 (iv (List.length a0:Int)),V 11 (iv x296),V 43 (bv true)],[W 0 1 [.mp 1],(1,.map (oM x295)),W 2 1 [bv true],W 3 1 [.fsl 1 (List.map c_L3 a0)],W 4 1 [.mp 1],(5,rup_units_lp17 a0 x210 .done (some (.exit 2)))],7⟩ ?_
      refine jN ?_
      refine jc_condK (c:=true) (by kernel_rfl) ?_
      refine jc_ret ?_
      refine jx_blkR ?_
      exact jx_mid rfl (wkR [(0,some 0),(1,some 1),(2,some 2),(3,some 3),(4,some 4),(5,some 5)] (fix_of hc17.2.2 (k:=6) rfl) (pc (hC 0) (pc (hM 1) (pc (hC 2) (pc (hC 3) (pc (hC 4) (pc (.inr (.inr (.inl ⟨5,_,_,rfl,rfl,rfl,by kernel_rfl⟩))) allp_nil)))))))
     refine jG 3 1 ⟨[V 0 (.yld 5),V 2 (pt 4 1),V 9 (.fsl 1 (List.map c_L3 a0)),V 10 (iv (List.length a0:Int)),V 11 (iv x296),V 43 (bv false)],[W 0 1 [.mp 1],(1,.map (oM x386)),W 2 1 [bv false],W 3 1 [.fsl 1 (List.map c_L3 a0)],W 4 1 [.mp 1],(5,rup_units_lp17 a0 x210 .ready none)],7⟩ ?_
     refine jN ?_
     refine jc_condK (c:=false) (by kernel_rfl) ?_
     refine jc_skip ?_
     refine jx_blkN ?_
     exact jx_mid rfl (wkR [(0,some 0),(1,some 1),(2,some 2),(3,some 3),(4,some 4),(5,some 5)] (fix_of hc17.2.2 (k:=6) rfl) (pc (hC 0) (pc (hM 1) (pc (hC 2) (pc (hC 3) (pc (hC 4) (pc (.inr (.inr (.inl ⟨5,_,_,rfl,rfl,rfl,by kernel_rfl⟩))) allp_nil)))))))
    rintro (x350 | _)
    ·refine jx_seqN ?_
     refine jT ⟨[V 0 (.yld 5),V 2 (pt 4 1),V 9 (.fsl 1 (List.map c_L3 a0)),V 10 (iv (List.length a0:Int)),V 11 (iv (w64 (x296 + 1)))],[W 0 1 [.mp 1],(1,.map (oM x350)),W 2 1 [bv false],W 3 1 [.fsl 1 (List.map c_L3 a0)],W 4 1 [.mp 1],(5,rup_units_lp17 a0 x210 .ready none)],6⟩ ?_
     exact jx_next (wkR [(0,some 0),(1,some 1),(2,some 2),(3,some 3),(4,some 4),(5,some 5)] (fix_of hc17.2.2 (k:=6) rfl) (pc (hC 0) (pc (hM 1) (pc (hC 2) (pc (hC 3) (pc (hC 4) (pc (.inr (.inr (.inl ⟨5,_,_,rfl,rfl,rfl,by kernel_rfl⟩))) allp_nil)))))))
    refine jx_seqR ?_
    exact jx_done rfl nofun (wkR [(0,some 0),(1,some 1),(2,some 2),(3,some 3),(4,some 4),(5,some 5)] (fix_of hc17.2.2 (k:=6) rfl) (pc (hC 0) (pc (hM 1) (pc (hC 2) (pc (hC 3) (pc (hC 4) (pc (.inr (.inr (.inl ⟨5,_,_,rfl,rfl,rfl,by kernel_rfl⟩))) allp_nil)))))))
   refine jc_exit ?_
   refine jx_seqE ?_
   exact jx_done rfl nofun (wkR [(0,some 0),(1,some 1),(2,some 2),(3,some 3),(4,some 4),(5,some 5)] (fix_of hc17.2.2 (k:=6) rfl) (pc (hC 0) (pc (hM 1) (pc (hC 2) (pc (hC 3) (pc (hC 4) (pc (.inr (.inr (.inl ⟨5,_,_,rfl,rfl,rfl,by kernel_rfl⟩))) allp_nil)))))))
  rintro (x324 | x325)
  ·refine jx_blkR ?_
   refine jx_rng hc17 (.inr rfl) rfl nofun rfl ?_
   refine jx_blkX rfl ?_
   refine jx_seqE ?_
   refine jx_blkX rfl ?_
   exact jx_done rfl nofun (wkR [(0,some 0),(1,some 1),(2,some 2)] (fix_of hF (k:=0) rfl) (pc (hC 0) (pc (hM 1) (pc (hC 2) allp_nil))))
  refine jx_blkE ?_
  refine jx_rng hc17 (.inl rfl) rfl nofun rfl ?_
  refine jx_blkN ?_
  refine jx_seqN ?_
  refine jR ?_
  refine jG 0 1 ⟨[V 0 (.fsl 1 (List.map c_L3 a0)),V 6 (pt 0 1),V 9 (pt 2 1),V 10 (iv (List.length x210:Int)),V 60 (.mp 1)],[W 0 1 [.mp 1],(1,.map (oM x325)),W 2 1 [bv false]],6⟩ ?_
  refine jr_one (i:=1) (v:=iv (List.length x325:Int)) (us:=[]) rfl rfl rfl rfl (aop_lenm (l:=x325) (id:=1) (kt:=3) (et:=3) (by kernel_rfl) (by kernel_rfl) (by kernel_rfl) (by kernel_rfl)) rfl ?_
  refine jG 2 2 ⟨[V 0 (.fsl 1 (List.map c_L3 a0)),V 6 (pt 0 1),V 9 (pt 2 1),V 63 (bv ((List.length x325:Int) == (List.length x210:Int)))],[W 0 1 [.mp 1],(1,.map (oM x325)),W 2 1 [bv false]],6⟩ ?_
  refine jN ?_
  refine jIf ?_ ?_
  ·refine jc_exit ?_
   refine jx_blkX rfl ?_
   exact jx_done rfl nofun (wkR [(0,some 0),(1,some 1),(2,some 2)] (fix_of hF (k:=0) rfl) (pc (hC 0) (pc (hM 1) (pc (hC 2) allp_nil))))
  refine jc_skip ?_
  refine jx_blkN ?_
  exact jx_next (wkR [(0,some 0),(1,some 1),(2,some 2)] (fix_of hF (k:=0) rfl) (pc (hC 0) (pc (hM 1) (pc (hC 2) allp_nil))))
 rintro⟨x268,x269⟩
 refine jx_blkE ?_
 refine jx_seqN ?_
 refine jS ⟨[V 4 (.mp 1),V 5 (bv x269)],[(1,.map (oM x268))],3⟩ ?_
 refine jc_ret ?_
 refine jx_scopeR ?_
 exact jx_retM (rup_units_T a0 a1 (x268,x269)) (.inr rfl) (wkR [(0,some 1)] (fix_of hF (k:=0) rfl) (pc (hM 1) allp_nil)))
abbrev law29_few_r1:List LO:=[lo 2 (.assign (.const (.slice none 0 0))) 22]
abbrev law29_few_r2:List LO:=[lm 3 0 22,lm 4 0 22,lo 5 (.call ⟨.builtin .len,#[.tmp 4],#[22]⟩) 3,lo 6 (.call ⟨.builtin .min,#[.tmp 5,.const (.int .i64 30)],#[3,3]⟩) 3,lo 7 (.slice 22 (.tmp 3) none (some (.tmp 6)) none) 22,lo 2 (.assign (.tmp 7)) 22]
abbrev law29_few_c:LC:=.seq (.reg false law29_few_r1) (.seq (.reg false law29_few_r2) .ret)
theorem law29_few_k:FnOk E 5 8 [.tmp 2] law29_few_c:=⟨⟨Go.Proofs.Tryz.f5,by kernel_rfl,by kernel_rfl,by kernel_rfl,by kernel_rfl,by kernel_rfl⟩,rfl,rfl⟩
noncomputable def law29_few (a0:(List (List Int))):Option ((List (List Int))):=Option.bind (subl a0 0 (if 30 < (List.length a0:Int) then 30 else (List.length a0:Int))) (fun x1=>some x1)
theorem law29_few_ok (a0:(List (List Int))):Ct E 5 [.fsl 1 (List.map c_L3 a0)] (law29_few a0) (fun r:(List (List Int))=>.fsl 1 (List.map c_L3 r)):=ct_intro (N:=8) (L:=law29_few_c) law29_few_k rfl (Nat.le_of_ble_eq_true rfl) (by kernel_rfl) (by
 unfold law29_few
 refine jS ⟨[V 0 (.fsl 1 (List.map c_L3 a0))],[],0⟩ ?_
 refine jR ?_
 refine jG 0 4 ⟨[V 3 (.fsl 1 (List.map c_L3 a0)),V 6 (iv (if 30 < (List.length (List.map c_L3 a0):Int) then 30 else (List.length (List.map c_L3 a0):Int)))],[],0⟩ ?_
 simp only[List.length_map]
 refine jr_part (i:=4) (mo:=subl a0 0 (if 30 < (List.length a0:Int) then 30 else (List.length a0:Int))) rfl rfl rfl rfl (fun _ hc=>aop_subf (c:=c_L3) (sz:=1) (e:=23) (by kernel_rfl) (by kernel_rfl) (by kernel_rfl) (by kernel_rfl) (by kernel_rfl) hc) (fun _=>rfl) ?_
 intro x1 h1
 refine jG 5 1 ⟨[V 2 (.fsl 1 (List.map c_L3 x1))],[],0⟩ ?_
 refine jN ?_
 refine jc_ret ?_
 exact jx_retF (.inr rfl) (v:=.fsl 1 (List.map c_L3 x1)) (by kernel_rfl) rfl (fle_refl _))
noncomputable def rup_Units (a0:List (List Int)) (a1:List Int):Option (List Int × Bool):=Option.bind (rup_units a0 a1) fun r=>collR srtSz r.1 r.2
theorem rup_Units_ok (a0:List (List Int)) (a1:List Int):CtM E 6 [.fsl 1 (List.map c_L3 a0),.fsl 1 (List.map cI a1)] [] 0 (rup_Units a0 a1) (fun q:List Int × Bool=>.tup [.osl 1 0 q.1.length 1,bv q.2]) (fun q:List Int × Bool=>[(1,.rows 1 (List.map cI q.1))]) 2:=ctm_coll (E0:=E0) (srt:=srtSz) (fl:=fun r:List (Int × Int) × Bool=>r.1) (fb:=fun r:List (Int × Int) × Bool=>r.2) (j:=0) rfl rfl rfl rfl rfl rfl (fun r=>rfl) (rup_units_ok a0 a1) _ (fun r q i o h=>coll_h0 h)
abbrev rup_units_m8296_r1:List LO:=[lo 4 (.assign (.const (.map none))) 34,lo 5 (.assign (.const (.bool false))) 4]
abbrev rup_units_m8296_r2:List LO:=[lo 12 (.makeMap 34 none) 34,lo 6 (.alloc 34) 0,ln (.store 34 (.tmp 6) (.tmp 12)) 0]
abbrev rup_units_m8296_r3:List LO:=[lm 13 1 23,lo 14 (.call ⟨.builtin .len,#[.tmp 13],#[23]⟩) 3,lo 15 (.move (.const (.int .i64 0))) 3]
abbrev rup_units_m8296_r4:List LO:=[lo 16 (.binOp .lss 3 (.tmp 15) (.tmp 14) 3) 0]
abbrev rup_units_m8296_r5:List LO:=[lo 17 (.indexAddr 23 (.tmp 13) (.tmp 15)) 0,lo 18 (.load 3 (.tmp 17)) 3,lo 8 (.assign (.tmp 18)) 3]
abbrev rup_units_m8296_r6:List LO:=[lm 19 8 3,lo 20 (.call ⟨.value (.func 22),#[.tmp 19],#[3]⟩) 4,lo 21 (.unOp .not 4 (.tmp 20)) 4]
abbrev rup_units_m8296_r7:List LO:=[lo 22 (.load 34 (.tmp 6)) 34,lm 23 8 3,lo 24 (.unOp .neg 3 (.tmp 23)) 3,lo 25 (.call ⟨.value (.func 27),#[.tmp 22,.tmp 24],#[34,3]⟩) 4]
abbrev rup_units_m8296_r8:List LO:=[lo 26 (.load 34 (.tmp 6)) 34,lo 4 (.assign (.tmp 26)) 34,lo 5 (.assign (.const (.bool true))) 4]
abbrev rup_units_m8296_r9:List LO:=[lo 27 (.load 34 (.tmp 6)) 34,lm 28 8 3,lo 29 (.lookup 34 (.tmp 27) (.tmp 28) false) 3,lo 30 (.binOp .add 3 (.tmp 29) (.const (.int .i64 1)) 3) 3,ln (.mapUpdate 34 (.tmp 27) (.tmp 28) (.tmp 30)) 0]
abbrev rup_units_m8296_r10:List LO:=[lo 31 (.binOp .add 3 (.tmp 15) (.const (.int .i64 1)) 3) 3,lm 15 31 3]
abbrev rup_units_m8296_r11:List LO:=[lo 9 (.alloc 4) 0,ln (.store 4 (.tmp 9) (.const (.bool false))) 0]
abbrev rup_units_m8296_r12:List LO:=[lo 32 (.load 34 (.tmp 6)) 34,lo 33 (.call ⟨.builtin .len,#[.tmp 32],#[34]⟩) 3,lo 10 (.assign (.tmp 33)) 3]
abbrev rup_units_m8296_r13:List LO:=[lo 34 (.load 34 (.tmp 6)) 34,lm 35 0 22,lo 36 (.call ⟨.value (.func 28),#[.tmp 34,.tmp 35],#[34,22]⟩) 53]
abbrev rup_units_m8296_r14:List LO:=[lo 11 (.assign (.tmp 37)) 23]
abbrev rup_units_m8296_r15:List LO:=[lm 39 11 23,lo 40 (.call ⟨.builtin .len,#[.tmp 39],#[23]⟩) 3,lo 41 (.binOp .eql 3 (.tmp 40) (.const (.int .i64 0)) 3) 4,lo 38 (.assign (.tmp 41)) 4]
abbrev rup_units_m8296_r16:List LO:=[ln (.store 4 (.tmp 9) (.const (.bool true))) 0]
abbrev rup_units_m8296_r17:List LO:=[lm 43 11 23,lo 44 (.call ⟨.builtin .len,#[.tmp 43],#[23]⟩) 3,lo 45 (.binOp .eql 3 (.tmp 44) (.const (.int .i64 1)) 3) 4,lm 46 45 4,lg 47 (.load 34 (.tmp 6)) 34 46 true,lmg 48 11 23 46 true,lg 49 (.indexAddr 23 (.tmp 48) (.const (.int .i64 0))) 0 46 true,lg 50 (.load 3 (.tmp 49)) 3 46 true,lg 51 (.call ⟨.value (.func 27),#[.tmp 47,.tmp 50],#[34,3]⟩) 4 46 true,lg 52 (.unOp .not 4 (.tmp 51)) 4 46 true,lo 53 (.pick (.tmp 46) (.tmp 52) (.const (.bool false))) 4,lo 42 (.assign (.tmp 53)) 4]
abbrev rup_units_m8296_r18:List LO:=[lo 54 (.load 34 (.tmp 6)) 34,lm 55 11 23,lo 56 (.indexAddr 23 (.tmp 55) (.const (.int .i64 0))) 0,lo 57 (.load 3 (.tmp 56)) 3,lo 58 (.lookup 34 (.tmp 54) (.tmp 57) false) 3,lo 59 (.binOp .add 3 (.tmp 58) (.const (.int .i64 1)) 3) 3,ln (.mapUpdate 34 (.tmp 54) (.tmp 57) (.tmp 59)) 0]
noncomputable def rup_units_m8296_y19_a0:Code:=codeSub (bodyOf Go.Proofs.Tryz.f16) [1,0,1,1,1,1,0,0,0,0,1,0,1,0,0]
theorem rup_units_m8296_y19_aw:lower E0 rup_units_m8296_y19_a0=some (.reg false rup_units_m8296_r14):=by kernel_rfl
noncomputable def rup_units_m8296_y19_b0:Code:=codeSub (bodyOf Go.Proofs.Tryz.f16) [1,0,1,1,1,1,0,0,0,0,1,0,1,0,1]
theorem rup_units_m8296_y19_bw:lower E0 rup_units_m8296_y19_b0=some (.block 5 (.block 6 (.seq (.reg false rup_units_m8296_r15) (.cond (.tmp 38) (.seq (.reg false rup_units_m8296_r16) (.exit 2)) (.seq (.reg true rup_units_m8296_r17) (.cond (.tmp 42) (.reg true rup_units_m8296_r18) .skip)))))):=by kernel_rfl
abbrev rup_units_m8296_r20:List LO:=[lo 60 (.load 34 (.tmp 6)) 34,lo 61 (.call ⟨.builtin .len,#[.tmp 60],#[34]⟩) 3,lm 62 10 3,lo 63 (.binOp .eql 3 (.tmp 61) (.tmp 62) 3) 4]
abbrev rup_units_m8296_r21:List LO:=[lo 64 (.load 34 (.tmp 6)) 34,lo 65 (.load 4 (.tmp 9)) 4,lo 4 (.assign (.tmp 64)) 34,lo 5 (.assign (.tmp 65)) 4]
noncomputable abbrev rup_units_m8296_c:LC:=.seq (.reg false rup_units_m8296_r1) (.scope (.seq (.reg false rup_units_m8296_r2) (.seq (.seq (.reg false rup_units_m8296_r3) (.block 0 (.loop (.seq (.reg false rup_units_m8296_r4) (.seq (.cond (.tmp 16) .skip (.exit 0)) (.seq (.block 1 (.seq (.reg false rup_units_m8296_r5) (.seq (.seq (.reg false rup_units_m8296_r6) (.cond (.tmp 21) (.exit 1) .skip)) (.seq (.seq (.reg false rup_units_m8296_r7) (.cond (.tmp 25) (.seq (.reg false rup_units_m8296_r8) .ret) .skip)) (.reg false rup_units_m8296_r9))))) (.reg false rup_units_m8296_r10))))))) (.seq (.reg false rup_units_m8296_r11) (.seq .label (.seq (.block 2 (.loop (.block 3 (.seq (.reg false rup_units_m8296_r12) (.seq (.seq (.reg false rup_units_m8296_r13) (.block 4 (.rng (.tmp 36) [37] rup_units_m8296_y19_a0 rup_units_m8296_y19_b0))) (.seq (.reg false rup_units_m8296_r20) (.cond (.tmp 63) (.exit 2) .skip))))))) (.seq (.reg true rup_units_m8296_r21) .ret)))))))
theorem rup_units_m8296_k:FnOk E0 16 66 [.tmp 4,.tmp 5] rup_units_m8296_c:=⟨⟨Go.Proofs.Tryz.f16,by kernel_rfl,by kernel_rfl,by kernel_rfl,by kernel_rfl,by kernel_rfl⟩,rfl,rfl⟩
noncomputable def rup_units_m8296_l1 (a1:List Int):(List (Int × Int) × Int)→Option (Step (List (Int × Int) × Int) ((List (Int × Int)) ⊕ (List (Int × Int)))):=fun (x137,x138)=>(if (decide (x138 < (List.length a1:Int)))=true then Option.bind (Option.bind (ixl a1 x138) (fun x151=>Option.bind (rup_literal x151) (fun x152=>(if (!x152)=true then some (Sum.inl x137) else Option.bind (rup_sheet_isTrue x137 (w64 (0 - x151))) (fun x153=>(if x153=true then some (Sum.inr ()) else some (Sum.inl (mput x137 x151 (w64 ((mget x137 x151) + 1))))))))):Option ((List (Int × Int)) ⊕ (Unit))) (fun y=>match y with | Sum.inl x150=>some (Step.next (x150,(w64 (x138 + 1)))) | Sum.inr _=>some (Step.done (Sum.inl x137))) else some (Step.done (Sum.inr x137)))
noncomputable abbrev rup_units_m8296_lp17 (a0:List (List Int)) (x210:List (Int × Int)) (q:LoopState) (p:Option Code):AObj:=.loop { state:=q,pending:=p,tmps:=tl 66 [V 0 (.fsl 1 (List.map c_L3 a0)),V 6 (pt 1 1),V 9 (pt 3 1),V 10 (iv (List.length x210:Int)),V 36 (.fn 37 [pt 4 1,pt 5 1])] none,params:=[37],assign:=rup_units_m8296_y19_a0,body:=rup_units_m8296_y19_b0 }
noncomputable def rup_units_m8296_l2 (x295:List (Int × Int)) (x351:(List Int)):(List Int × Int)→Option (Step (List Int × Int) (List Int)):=fun (x359,x360)=>(if (decide (x360 < (List.length x351:Int)))=true then Option.bind (Option.bind (ixl x351 x360) (fun x376=>Option.bind (rup_sheet_isTrue x295 (w64 (0 - x376))) (fun x377=>Option.bind (if (!x377)=true then Option.bind (slices_Contains_int_int x359 x376) (fun x380=>some (!x380)) else some false:Option (Bool)) (fun x379=>(if x379=true then Option.bind (app 8 x359 [x376]) (fun x381=>some x381) else some x359)))):Option (List Int)) (fun x375=>some (Step.next (x375,(w64 (x360 + 1))))) else some (Step.done x359))
noncomputable def rup_units_m8296_l3 (a0:List (List Int)):(List (Int × Int) × Int)→Option (Step (List (Int × Int) × Int) ((List (Int × Int)) ⊕ (List (Int × Int)))):=fun (x295,x296)=>(if (decide (x296 < (List.length a0:Int)))=true then Option.bind (Option.bind (ixl a0 x296) (fun x351=>Option.bind (slices_ContainsFunc_int_int_se3d8 x351 x295) (fun x352=>(if x352=true then some (Sum.inl x295) else Option.bind (loopC (rup_units_m8296_l2 x295 x351) ([],0)) (fun x369=>Option.bind ((if ((List.length x369:Int) == 0)=true then some (Sum.inl ()) else Option.bind (if ((List.length x369:Int) == 1)=true then Option.bind (ixl x369 0) (fun x390=>Option.bind (rup_sheet_isTrue x295 x390) (fun x391=>some (!x391))) else some false:Option (Bool)) (fun x389=>(if x389=true then Option.bind (ixl x369 0) (fun x392=>some (Sum.inr (mput x295 x392 (w64 ((mget x295 x392) + 1))))) else some (Sum.inr x295)))):Option ((Unit) ⊕ (List (Int × Int)))) (fun y=>match y with | Sum.inl _=>some (Sum.inr ()) | Sum.inr x386=>some (Sum.inl x386)))))):Option ((List (Int × Int)) ⊕ (Unit))) (fun y=>match y with | Sum.inl x350=>some (Step.next (x350,(w64 (x296 + 1)))) | Sum.inr _=>some (Step.done (Sum.inl x295))) else some (Step.done (Sum.inr x295)))
noncomputable def rup_units_m8296_l4 (a0:List (List Int)):(List (Int × Int))→Option (Step (List (Int × Int)) (List (Int × Int) × Bool)):=fun x210=>Option.bind (rup_sheet_open x210 a0) (fun _=>Option.bind (loopC (rup_units_m8296_l3 a0) (x210,0)) (fun y=>match y with | Sum.inl x324=>some (Step.done (x324,true)) | Sum.inr x325=>(if ((List.length x325:Int) == (List.length x210:Int))=true then some (Step.done (x325,false)) else some (Step.next x325))))
abbrev rup_units_m8296_T (a0:List (List Int)) (a1:List Int) (r:List (Int × Int) × Bool):CS:=⟨[V 4 (.mp 1),V 5 (bv r.2)],[(0,.rows 1 (List.map cI a1)),(1,.map (oM r.1))],2⟩
noncomputable def rup_units_m8296 (a0:List (List Int)) (a1:List Int):Option (List (Int × Int) × Bool):=Option.bind (loopC (rup_units_m8296_l1 a1) (([]:List (Int × Int)),0)) (fun y=>match y with | Sum.inl x145=>some (x145,true) | Sum.inr x146=>Option.bind (loopC (rup_units_m8296_l4 a0) x146) (fun (x268,x269)=>some (x268,x269)))
theorem rup_units_m8296_ok (a0:List (List Int)) (a1:List Int):CtM E0 16 [.fsl 1 (List.map c_L3 a0),.osl 0 0 (List.length a1) 1] [(0,.rows 1 (List.map cI a1))] 1 (rup_units_m8296 a0 a1) (fun r:List (Int × Int) × Bool=>.tup [.mp 1,bv r.2]) (fun r:List (Int × Int) × Bool=>[(0,.rows 1 (List.map cI a1)),(1,.map (oM r.1))]) 2:=ctm_intro (N:=66) (L:=rup_units_m8296_c) rup_units_m8296_k rfl (Nat.le_of_ble_eq_true rfl) (fun F hF=>by
 unfold rup_units_m8296
 refine jS ⟨[V 0 (.fsl 1 (List.map c_L3 a0)),V 1 (.osl 0 0 (List.length a1) 1)],[(0,.rows 1 (List.map cI a1))],1⟩ ?_
 refine jc_scope ?_
 refine jS ⟨[V 0 (.fsl 1 (List.map c_L3 a0)),V 1 (.osl 0 0 (List.length a1) 1),V 6 (pt 2 1)],[(0,.rows 1 (List.map cI a1)),(1,.map (oM ([]:List (Int × Int)))),W 2 1 [.mp 1]],3⟩ ?_
 refine jc_seq ?_
 refine jS ⟨[V 0 (.fsl 1 (List.map c_L3 a0)),V 6 (pt 2 1),V 13 (.osl 0 0 (List.length a1) 1),V 14 (iv (List.length a1:Int)),V 15 (iv 0)],[(0,.rows 1 (List.map cI a1)),(1,.map (oM ([]:List (Int × Int)))),W 2 1 [.mp 1]],3⟩ ?_
 refine jc_block ?_
 refine jc_bind (fun y=>match y with | Sum.inl x145=>⟨[V 4 (.mp 1),V 5 (bv true)],[(0,.rows 1 (List.map cI a1)),(1,.map (oM x145))],2⟩ | Sum.inr x146=>⟨[V 0 (.fsl 1 (List.map c_L3 a0)),V 6 (pt 1 1)],[(0,.rows 1 (List.map cI a1)),W 1 1 [.mp 2],(2,.map (oM x146))],3⟩) (fun y=>match y with | Sum.inl x145=>.ret | Sum.inr x146=>(.exit 0)) (jc_loop (fun (x137,x138)=>⟨[V 0 (.fsl 1 (List.map c_L3 a0)),V 6 (pt 1 1),V 13 (.osl 0 0 (List.length a1) 1),V 14 (iv (List.length a1:Int)),V 15 (iv x138)],[(0,.rows 1 (List.map cI a1)),W 1 1 [.mp 2],(2,.map (oM x137))],3⟩) (wkR [(0,some 0),(1,some 2),(2,some 1)] (fix_of hF (k:=1) rfl) (pc (hL 0 (noid_map ni_I _)) (pc (hC 2) (pc (hM 1) allp_nil)))) ?_) ?_
 ·rintro⟨x137,x138⟩
  unfold rup_units_m8296_l1
  refine jS ⟨[V 0 (.fsl 1 (List.map c_L3 a0)),V 6 (pt 1 1),V 13 (.osl 0 0 (List.length a1) 1),V 14 (iv (List.length a1:Int)),V 15 (iv x138),V 16 (bv (decide (x138 < (List.length a1:Int))))],[(0,.rows 1 (List.map cI a1)),W 1 1 [.mp 2],(2,.map (oM x137))],3⟩ ?_
  refine jc_seq ?_
  refine jIf ?_ ?_
  ·refine jc_skip ?_
   refine jx_seqN ?_
   refine jc_seq ?_
   refine jc_bind (fun y=>match y with | Sum.inl x150=>⟨[V 0 (.fsl 1 (List.map c_L3 a0)),V 6 (pt 1 1),V 13 (.osl 0 0 (List.length a1) 1),V 14 (iv (List.length a1:Int)),V 15 (iv x138)],[(0,.rows 1 (List.map cI a1)),W 1 1 [.mp 2],(2,.map (oM x150))],3⟩ | Sum.inr _=>⟨[V 4 (.mp 1),V 5 (bv true)],[(0,.rows 1 (List.map cI a1)),(1,.map (oM x137))],2⟩) (fun y=>match y with | Sum.inl x150=>.normal | Sum.inr _=>.ret) ?_ ?_
   ·refine jc_block ?_
    refine jR ?_
    refine jr_part (i:=0) (mo:=ixl a1 x138) rfl rfl rfl rfl (fun _ hc=>aop_ixo0 (sz:=1) (e:=3) (kk:=.i64) (id:=0) (by kernel_rfl) (by kernel_rfl) (by kernel_rfl) (by kernel_rfl) hc) (fun _=>rfl) ?_
    intro x151 h151
    refine jr_one (i:=1) (v:=iv x151) rfl rfl rfl rfl (aop_ldo (l:=a1) (c:=cI) (id:=0) (k:=(Int.toNat x138)) (sz:=1) (off:=0) (a:=x151) (by kernel_rfl) (by kernel_rfl) (ixl_lt h151).2.2 (by kernel_rfl)) rfl ?_
    refine jG 2 1 ⟨[V 0 (.fsl 1 (List.map c_L3 a0)),V 6 (pt 1 1),V 8 (iv x151),V 13 (.osl 0 0 (List.length a1) 1),V 14 (iv (List.length a1:Int)),V 15 (iv x138)],[(0,.rows 1 (List.map cI a1)),W 1 1 [.mp 2],(2,.map (oM x137))],3⟩ ?_
    refine jN ?_
    refine jc_seq ?_
    refine jR ?_
    refine jG 0 1 ⟨[V 0 (.fsl 1 (List.map c_L3 a0)),V 6 (pt 1 1),V 8 (iv x151),V 13 (.osl 0 0 (List.length a1) 1),V 14 (iv (List.length a1:Int)),V 15 (iv x138),V 19 (iv x151)],[(0,.rows 1 (List.map cI a1)),W 1 1 [.mp 2],(2,.map (oM x137))],3⟩ ?_
    refine jK 1 (rup_literal_ok x151) ?_
    intro x152 h152
    refine jG 2 1 ⟨[V 0 (.fsl 1 (List.map c_L3 a0)),V 6 (pt 1 1),V 8 (iv x151),V 13 (.osl 0 0 (List.length a1) 1),V 14 (iv (List.length a1:Int)),V 15 (iv x138),V 21 (bv (!x152))],[(0,.rows 1 (List.map cI a1)),W 1 1 [.mp 2],(2,.map (oM x137))],3⟩ ?_
    refine jN ?_
    refine jIf ?_ ?_
    ·refine jc_exit ?_
     refine jx_seqE ?_
     refine jx_blkE ?_
     exact jx_mid rfl (wkR [(0,some 0),(1,some 1),(2,some 2)] (fix_of hF (k:=1) rfl) (pc (hL 0 (noid_map ni_I _)) (pc (hC 1) (pc (hM 2) allp_nil))))
    refine jc_skip ?_
    refine jx_seqN ?_
    refine jc_seq ?_
    refine jR ?_
    refine jG 0 3 ⟨[V 0 (.fsl 1 (List.map c_L3 a0)),V 6 (pt 1 1),V 8 (iv x151),V 13 (.osl 0 0 (List.length a1) 1),V 14 (iv (List.length a1:Int)),V 15 (iv x138),V 22 (.mp 2),V 24 (iv (w64 (0 - x151)))],[(0,.rows 1 (List.map cI a1)),W 1 1 [.mp 2],(2,.map (oM x137))],3⟩ ?_
    refine jr_callF (i:=3) rfl rfl rfl rfl (vs:=[.mp 2,iv (w64 (0 - x151))]) (by kernel_rfl) (snapL_cons (snapc_mp (by kernel_rfl)) (snapL_cons rfl (snapL_nil _))) (all2_cons (fle_refl _) (all2_cons (fle_refl _) all2_nil)) (rup_sheet_isTrue_ok x137 (w64 (0 - x151))) (fun _=>rfl) (fun _=>rfl) ?_
    intro x153 h153
    refine jN ?_
    refine jIf ?_ ?_
    ·refine jS ⟨[V 4 (.mp 2),V 5 (bv true)],[(0,.rows 1 (List.map cI a1)),(2,.map (oM x137))],3⟩ ?_
     refine jc_ret ?_
     refine jx_seqR ?_
     refine jx_blkR ?_
     exact jx_mid rfl (wkR [(0,some 0),(1,some 2)] (fix_of hF (k:=1) rfl) (pc (hL 0 (noid_map ni_I _)) (pc (hM 2) allp_nil)))
    refine jc_skip ?_
    refine jx_seqN ?_
    refine jc_reg ?_
    refine jG 0 2 ⟨[V 0 (.fsl 1 (List.map c_L3 a0)),V 6 (pt 1 1),V 13 (.osl 0 0 (List.length a1) 1),V 14 (iv (List.length a1:Int)),V 15 (iv x138),V 27 (.mp 2),V 28 (iv x151)],[(0,.rows 1 (List.map cI a1)),W 1 1 [.mp 2],(2,.map (oM x137))],3⟩ ?_
    refine jr_one (i:=2) (v:=iv (mget x137 x151)) (us:=[]) rfl rfl rfl rfl (aop_look (l:=x137) (id:=2) (kk:=x151) (kt:=3) (et:=3) (by kernel_rfl) (by kernel_rfl) (by kernel_rfl) (by kernel_rfl) (by kernel_rfl) (by kernel_rfl)) rfl ?_
    refine jG 3 1 ⟨[V 0 (.fsl 1 (List.map c_L3 a0)),V 6 (pt 1 1),V 13 (.osl 0 0 (List.length a1) 1),V 14 (iv (List.length a1:Int)),V 15 (iv x138),V 27 (.mp 2),V 28 (iv x151),V 30 (iv (w64 ((mget x137 x151) + 1)))],[(0,.rows 1 (List.map cI a1)),W 1 1 [.mp 2],(2,.map (oM x137))],3⟩ ?_
    refine jr_sto (i:=4) [0,6,13,14,15] [0,1,2] (st1:=⟨[V 0 (.fsl 1 (List.map c_L3 a0)),V 6 (pt 1 1),V 13 (.osl 0 0 (List.length a1) 1),V 14 (iv (List.length a1:Int)),V 15 (iv x138)],[(0,.rows 1 (List.map cI a1)),W 1 1 [.mp 2],(2,.map (oM (mput x137 x151 (w64 ((mget x137 x151) + 1)))))],3⟩) rfl rfl rfl rfl (aop_mput (l:=x137) (id:=2) (kk:=x151) (v:=(w64 ((mget x137 x151) + 1))) (kt:=3) (et:=3) (by kernel_rfl) (by kernel_rfl) (by kernel_rfl) (by kernel_rfl) (by kernel_rfl) (by kernel_rfl)) (by kernel_rfl) ?_
    refine jr_nil rfl ?_
    refine jx_blkN ?_
    exact jx_mid rfl (wkR [(0,some 0),(1,some 1),(2,some 2)] (fix_of hF (k:=1) rfl) (pc (hL 0 (noid_map ni_I _)) (pc (hC 1) (pc (hM 2) allp_nil))))
   rintro (x150 | _)
   ·refine jx_seqN ?_
    refine jT ⟨[V 0 (.fsl 1 (List.map c_L3 a0)),V 6 (pt 1 1),V 13 (.osl 0 0 (List.length a1) 1),V 14 (iv (List.length a1:Int)),V 15 (iv (w64 (x138 + 1)))],[(0,.rows 1 (List.map cI a1)),W 1 1 [.mp 2],(2,.map (oM x150))],3⟩ ?_
    exact jx_next (wkR [(0,some 0),(1,some 1),(2,some 2)] (fix_of hF (k:=1) rfl) (pc (hL 0 (noid_map ni_I _)) (pc (hC 1) (pc (hM 2) allp_nil))))
   refine jx_seqR ?_
   exact jx_done rfl nofun (wkR [(0,some 0),(1,some 1)] (fix_of hF (k:=1) rfl) (pc (hL 0 (noid_map ni_I _)) (pc (hM 1) allp_nil)))
  refine jc_exit ?_
  refine jx_seqE ?_
  exact jx_done rfl nofun (wkR [(0,some 0),(1,some 1),(2,some 2)] (fix_of hF (k:=1) rfl) (pc (hL 0 (noid_map ni_I _)) (pc (hC 1) (pc (hM 2) allp_nil))))
 rintro (x145 | x146)
 ·refine jx_blkR ?_
  refine jx_seqR ?_
  refine jx_scopeR ?_
  exact jx_retM (rup_units_m8296_T a0 a1 (x145,true)) (.inr rfl) (wkR [(0,some 0),(1,some 1)] (fix_of hF (k:=1) rfl) (pc (hL 0 (noid_map ni_I _)) (pc (hM 1) allp_nil)))
 refine jx_blkE ?_
 refine jx_seqN ?_
 refine jS ⟨[V 0 (.fsl 1 (List.map c_L3 a0)),V 6 (pt 1 1),V 9 (pt 3 1)],[(0,.rows 1 (List.map cI a1)),W 1 1 [.mp 2],(2,.map (oM x146)),W 3 1 [bv false]],4⟩ ?_
 refine jc_seq ?_
 refine jc_label ?_
 refine jx_seqN ?_
 refine jc_seq ?_
 refine jc_block ?_
 refine jc_bind (fun (x268,x269)=>⟨[V 6 (pt 1 1),V 9 (pt 3 1)],[(0,.rows 1 (List.map cI a1)),W 1 1 [.mp 2],(2,.map (oM x268)),W 3 1 [bv x269]],4⟩) (fun (x268,x269)=>(.exit 2)) (jc_loop (fun x210=>⟨[V 0 (.fsl 1 (List.map c_L3 a0)),V 6 (pt 1 1),V 9 (pt 3 1)],[(0,.rows 1 (List.map cI a1)),W 1 1 [.mp 2],(2,.map (oM x210)),W 3 1 [bv false]],4⟩) (wkR [(0,some 0),(1,some 1),(2,some 2),(3,some 3)] (fix_of hF (k:=1) rfl) (pc (hL 0 (noid_map ni_I _)) (pc (hC 1) (pc (hM 2) (pc (hC 3) allp_nil))))) ?_) ?_
 ·intro x210
  unfold rup_units_m8296_l4
  refine jc_block ?_
  refine jR ?_
  refine jG 0 1 ⟨[V 0 (.fsl 1 (List.map c_L3 a0)),V 6 (pt 1 1),V 9 (pt 3 1),V 32 (.mp 2)],[(0,.rows 1 (List.map cI a1)),W 1 1 [.mp 2],(2,.map (oM x210)),W 3 1 [bv false]],4⟩ ?_
  refine jr_one (i:=1) (v:=iv (List.length x210:Int)) (us:=[]) rfl rfl rfl rfl (aop_lenm (l:=x210) (id:=2) (kt:=3) (et:=3) (by kernel_rfl) (by kernel_rfl) (by kernel_rfl) (by kernel_rfl)) rfl ?_
  refine jG 2 1 ⟨[V 0 (.fsl 1 (List.map c_L3 a0)),V 6 (pt 1 1),V 9 (pt 3 1),V 10 (iv (List.length x210:Int))],[(0,.rows 1 (List.map cI a1)),W 1 1 [.mp 2],(2,.map (oM x210)),W 3 1 [bv false]],4⟩ ?_
  refine jN ?_
  refine jc_seq ?_
  refine jR ?_
  refine jG 0 2 ⟨[V 0 (.fsl 1 (List.map c_L3 a0)),V 6 (pt 1 1),V 9 (pt 3 1),V 10 (iv (List.length x210:Int)),V 34 (.mp 2),V 35 (.fsl 1 (List.map c_L3 a0))],[(0,.rows 1 (List.map cI a1)),W 1 1 [.mp 2],(2,.map (oM x210)),W 3 1 [bv false]],4⟩ ?_
  refine jr_callM 2 [(0,some 2)] [(2,some 0),(4,some 1),(5,some 2)] (fun r:Unit=>[(0,.rows 1 (List.map cI a1)),W 1 1 [.mp 2],(2,.map (oM x210)),W 3 1 [bv false],W 4 1 [.fsl 1 (List.map c_L3 a0)],W 5 1 [.mp 2]]) (fun r:Unit=>.fn 37 [pt 4 1,pt 5 1]) 6 (rup_sheet_open_ok x210 a0) (pc (hM 2) allp_nil) (fun r=>(pc (.inl ⟨rfl,rfl⟩) (pc (.inl ⟨rfl,rfl⟩) (pc (.inr (hM 0)) (pc (.inl ⟨rfl,rfl⟩) (pc (.inr (hC 1)) (pc (.inr (hC 2)) allp_nil))))))) ?_
  rintro⟨⟩ hm22
  refine jN ?_
  refine jc_block ?_
  refine jc_keep [0,6,9,10,36] [0,1,2,3,4,5] (st1:=⟨[V 0 (.fsl 1 (List.map c_L3 a0)),V 6 (pt 1 1),V 9 (pt 3 1),V 10 (iv (List.length x210:Int)),V 36 (.fn 37 [pt 4 1,pt 5 1])],[(0,.rows 1 (List.map cI a1)),W 1 1 [.mp 2],(2,.map (oM x210)),W 3 1 [bv false],W 4 1 [.fsl 1 (List.map c_L3 a0)],W 5 1 [.mp 2]],6⟩) (by kernel_rfl) ?_
  refine jc_rng (g:=37) (caps:=[pt 4 1,pt 5 1]) (by kernel_rfl) rup_sheet_open_1_it_k (Nat.le_of_ble_eq_true rfl) ?_
  intro F17 hc17
  refine jR ?_
  refine jG 0 3 ⟨[V 0 (.yld 6),V 2 (pt 5 1),V 9 (.fsl 1 (List.map c_L3 a0)),V 10 (iv (List.length (List.map c_L3 a0):Int)),V 11 (iv 0)],[(0,.rows 1 (List.map cI a1)),W 1 1 [.mp 2],(2,.map (oM x210)),W 3 1 [bv false],W 4 1 [.fsl 1 (List.map c_L3 a0)],W 5 1 [.mp 2],(6,rup_units_m8296_lp17 a0 x210 .ready none)],7⟩ ?_
  simp only[List.length_map]
  refine jN ?_
  refine jc_block ?_
  refine jc_bind (fun y=>match y with | Sum.inl x324=>⟨[],[(0,.rows 1 (List.map cI a1)),W 1 1 [.mp 2],(2,.map (oM x324)),W 3 1 [bv true],W 4 1 [.fsl 1 (List.map c_L3 a0)],W 5 1 [.mp 2],(6,rup_units_m8296_lp17 a0 x210 .done (some (.exit 2)))],7⟩ | Sum.inr x325=>⟨[],[(0,.rows 1 (List.map cI a1)),W 1 1 [.mp 2],(2,.map (oM x325)),W 3 1 [bv false],W 4 1 [.fsl 1 (List.map c_L3 a0)],W 5 1 [.mp 2],(6,rup_units_m8296_lp17 a0 x210 .ready none)],7⟩) (fun y=>match y with | Sum.inl x324=>.ret | Sum.inr x325=>(.exit 0)) (jc_loop (fun (x295,x296)=>⟨[V 0 (.yld 6),V 2 (pt 5 1),V 9 (.fsl 1 (List.map c_L3 a0)),V 10 (iv (List.length a0:Int)),V 11 (iv x296)],[(0,.rows 1 (List.map cI a1)),W 1 1 [.mp 2],(2,.map (oM x295)),W 3 1 [bv false],W 4 1 [.fsl 1 (List.map c_L3 a0)],W 5 1 [.mp 2],(6,rup_units_m8296_lp17 a0 x210 .ready none)],7⟩) (wkR [(0,some 0),(1,some 1),(2,some 2),(3,some 3),(4,some 4),(5,some 5),(6,some 6)] (fix_of hc17.2.2 (k:=7) rfl) (pc (hL 0 (noid_map ni_I _)) (pc (hC 1) (pc (hM 2) (pc (hC 3) (pc (hC 4) (pc (hC 5) (pc (.inr (.inr (.inl ⟨6,_,_,rfl,rfl,rfl,by kernel_rfl⟩))) allp_nil)))))))) ?_) ?_
  ·rintro⟨x295,x296⟩
   unfold rup_units_m8296_l3
   refine jS ⟨[V 0 (.yld 6),V 2 (pt 5 1),V 9 (.fsl 1 (List.map c_L3 a0)),V 10 (iv (List.length a0:Int)),V 11 (iv x296),V 12 (bv (decide (x296 < (List.length a0:Int))))],[(0,.rows 1 (List.map cI a1)),W 1 1 [.mp 2],(2,.map (oM x295)),W 3 1 [bv false],W 4 1 [.fsl 1 (List.map c_L3 a0)],W 5 1 [.mp 2],(6,rup_units_m8296_lp17 a0 x210 .ready none)],7⟩ ?_
   refine jc_seq ?_
   refine jIf ?_ ?_
   ·refine jc_skip ?_
    refine jx_seqN ?_
    refine jc_seq ?_
    refine jc_bind (fun y=>match y with | Sum.inl x350=>⟨[V 0 (.yld 6),V 2 (pt 5 1),V 9 (.fsl 1 (List.map c_L3 a0)),V 10 (iv (List.length a0:Int)),V 11 (iv x296)],[(0,.rows 1 (List.map cI a1)),W 1 1 [.mp 2],(2,.map (oM x350)),W 3 1 [bv false],W 4 1 [.fsl 1 (List.map c_L3 a0)],W 5 1 [.mp 2],(6,rup_units_m8296_lp17 a0 x210 .ready none)],7⟩ | Sum.inr _=>⟨[],[(0,.rows 1 (List.map cI a1)),W 1 1 [.mp 2],(2,.map (oM x295)),W 3 1 [bv true],W 4 1 [.fsl 1 (List.map c_L3 a0)],W 5 1 [.mp 2],(6,rup_units_m8296_lp17 a0 x210 .done (some (.exit 2)))],7⟩) (fun y=>match y with | Sum.inl x350=>.normal | Sum.inr _=>.ret) ?_ ?_
    ·refine jc_block ?_
     refine jR ?_
     refine jr_part (i:=0) (mo:=ixl a0 x296) rfl rfl rfl rfl (fun _ hc=>aop_ixf (c:=c_L3) (sz:=1) (e:=23) (kk:=.i64) (by kernel_rfl) (by kernel_rfl) (by kernel_rfl) (by kernel_rfl) hc) (fun _=>rfl) ?_
     intro x351 h351
     refine jG 1 2 ⟨[V 0 (.yld 6),V 2 (pt 5 1),V 5 (.fsl 1 (List.map cI x351)),V 9 (.fsl 1 (List.map c_L3 a0)),V 10 (iv (List.length a0:Int)),V 11 (iv x296)],[(0,.rows 1 (List.map cI a1)),W 1 1 [.mp 2],(2,.map (oM x295)),W 3 1 [bv false],W 4 1 [.fsl 1 (List.map c_L3 a0)],W 5 1 [.mp 2],(6,rup_units_m8296_lp17 a0 x210 .ready none)],7⟩ ?_
     refine jN ?_
     refine jc_seq ?_
     refine jR ?_
     refine jG 0 2 ⟨[V 0 (.yld 6),V 2 (pt 5 1),V 5 (.fsl 1 (List.map cI x351)),V 9 (.fsl 1 (List.map c_L3 a0)),V 10 (iv (List.length a0:Int)),V 11 (iv x296),V 15 (.fsl 1 (List.map cI x351)),V 16 (.fn 39 [pt 5 1])],[(0,.rows 1 (List.map cI a1)),W 1 1 [.mp 2],(2,.map (oM x295)),W 3 1 [bv false],W 4 1 [.fsl 1 (List.map c_L3 a0)],W 5 1 [.mp 2],(6,rup_units_m8296_lp17 a0 x210 .ready none)],7⟩ ?_
     refine jr_callF (i:=2) rfl rfl rfl rfl (vs:=[.fsl 1 (List.map cI x351),.fn 39 [pt 5 1]]) (by kernel_rfl) (snapL_cons rfl (snapL_cons (snapc_fn (snapL_cons (snapc_ptr (row:=[.mp 2]) (by kernel_rfl) (snapL_cons (snapc_mp (by kernel_rfl)) (snapL_nil _))) (snapL_nil _))) (snapL_nil _))) (all2_cons (fle_refl _) (all2_cons (fle_refl _) all2_nil)) (slices_ContainsFunc_int_int_se3d8_ok x351 x295) (fun _=>rfl) (fun _=>rfl) ?_
     intro x352 h352
     refine jN ?_
     refine jIf ?_ ?_
     ·refine jc_exit ?_
      refine jx_seqE ?_
      refine jx_blkE ?_
      exact jx_mid rfl (wkR [(0,some 0),(1,some 1),(2,some 2),(3,some 3),(4,some 4),(5,some 5),(6,some 6)] (fix_of hc17.2.2 (k:=7) rfl) (pc (hL 0 (noid_map ni_I _)) (pc (hC 1) (pc (hM 2) (pc (hC 3) (pc (hC 4) (pc (hC 5) (pc (.inr (.inr (.inl ⟨6,_,_,rfl,rfl,rfl,by kernel_rfl⟩))) allp_nil))))))))
     refine jc_skip ?_
     refine jx_seqN ?_
     refine jS ⟨[V 0 (.yld 6),V 2 (pt 5 1),V 5 (.fsl 1 (List.map cI x351)),V 6 (nilS),V 9 (.fsl 1 (List.map c_L3 a0)),V 10 (iv (List.length a0:Int)),V 11 (iv x296)],[(0,.rows 1 (List.map cI a1)),W 1 1 [.mp 2],(2,.map (oM x295)),W 3 1 [bv false],W 4 1 [.fsl 1 (List.map c_L3 a0)],W 5 1 [.mp 2],(6,rup_units_m8296_lp17 a0 x210 .ready none)],7⟩ ?_
     refine jc_seq ?_
     refine jR ?_
     refine jG 0 3 ⟨[V 0 (.yld 6),V 2 (pt 5 1),V 6 (nilS),V 9 (.fsl 1 (List.map c_L3 a0)),V 10 (iv (List.length a0:Int)),V 11 (iv x296),V 18 (.fsl 1 (List.map cI x351)),V 19 (iv (List.length (List.map cI x351):Int)),V 20 (iv 0)],[(0,.rows 1 (List.map cI a1)),W 1 1 [.mp 2],(2,.map (oM x295)),W 3 1 [bv false],W 4 1 [.fsl 1 (List.map c_L3 a0)],W 5 1 [.mp 2],(6,rup_units_m8296_lp17 a0 x210 .ready none)],7⟩ ?_
     simp only[List.length_map]
     refine jN ?_
     refine jc_block ?_
     refine jc_bind (fun x369=>⟨[V 0 (.yld 6),V 2 (pt 5 1),V 6 (.osl 7 0 (List.length x369) 1),V 9 (.fsl 1 (List.map c_L3 a0)),V 10 (iv (List.length a0:Int)),V 11 (iv x296)],[(0,.rows 1 (List.map cI a1)),W 1 1 [.mp 2],(2,.map (oM x295)),W 3 1 [bv false],W 4 1 [.fsl 1 (List.map c_L3 a0)],W 5 1 [.mp 2],(6,rup_units_m8296_lp17 a0 x210 .ready none),(7,.rows 1 (List.map cI x369))],8⟩) (fun x369=>(.exit 2)) (jc_loop (fun (x359,x360)=>⟨[V 0 (.yld 6),V 2 (pt 5 1),V 6 (.osl 7 0 (List.length x359) 1),V 9 (.fsl 1 (List.map c_L3 a0)),V 10 (iv (List.length a0:Int)),V 11 (iv x296),V 18 (.fsl 1 (List.map cI x351)),V 19 (iv (List.length x351:Int)),V 20 (iv x360)],[(0,.rows 1 (List.map cI a1)),W 1 1 [.mp 2],(2,.map (oM x295)),W 3 1 [bv false],W 4 1 [.fsl 1 (List.map c_L3 a0)],W 5 1 [.mp 2],(6,rup_units_m8296_lp17 a0 x210 .ready none),(7,.rows 1 (List.map cI x359))],8⟩) (wkR [(0,some 0),(1,some 1),(2,some 2),(3,some 3),(4,some 4),(5,some 5),(6,some 6),(7,none)] (fix_of hc17.2.2 (k:=7) rfl) (pc (hL 0 (noid_map ni_I _)) (pc (hC 1) (pc (hM 2) (pc (hC 3) (pc (hC 4) (pc (hC 5) (pc (.inr (.inr (.inl ⟨6,_,_,rfl,rfl,rfl,by kernel_rfl⟩))) (pc hZ allp_nil))))))))) ?_) ?_
     ·rintro⟨x359,x360⟩
      unfold rup_units_m8296_l2
      refine jS ⟨[V 0 (.yld 6),V 2 (pt 5 1),V 6 (.osl 7 0 (List.length x359) 1),V 9 (.fsl 1 (List.map c_L3 a0)),V 10 (iv (List.length a0:Int)),V 11 (iv x296),V 18 (.fsl 1 (List.map cI x351)),V 19 (iv (List.length x351:Int)),V 20 (iv x360),V 21 (bv (decide (x360 < (List.length x351:Int))))],[(0,.rows 1 (List.map cI a1)),W 1 1 [.mp 2],(2,.map (oM x295)),W 3 1 [bv false],W 4 1 [.fsl 1 (List.map c_L3 a0)],W 5 1 [.mp 2],(6,rup_units_m8296_lp17 a0 x210 .ready none),(7,.rows 1 (List.map cI x359))],8⟩ ?_
      refine jc_seq ?_
      refine jIf ?_ ?_
      ·refine jc_skip ?_
       refine jx_seqN ?_
       refine jc_seq ?_
       refine jc_bind (fun x375=>⟨[V 0 (.yld 6),V 2 (pt 5 1),V 6 (.osl 7 0 (List.length x375) 1),V 9 (.fsl 1 (List.map c_L3 a0)),V 10 (iv (List.length a0:Int)),V 11 (iv x296),V 18 (.fsl 1 (List.map cI x351)),V 19 (iv (List.length x351:Int)),V 20 (iv x360)],[(0,.rows 1 (List.map cI a1)),W 1 1 [.mp 2],(2,.map (oM x295)),W 3 1 [bv false],W 4 1 [.fsl 1 (List.map c_L3 a0)],W 5 1 [.mp 2],(6,rup_units_m8296_lp17 a0 x210 .ready none),(7,.rows 1 (List.map cI x375))],8⟩) (fun x375=>.normal) ?_ ?_
       ·refine jc_block ?_
        refine jR ?_
        refine jr_part (i:=0) (mo:=ixl x351 x360) rfl rfl rfl rfl (fun _ hc=>aop_ixf (c:=cI) (sz:=1) (e:=3) (kk:=.i64) (by kernel_rfl) (by kernel_rfl) (by kernel_rfl) (by kernel_rfl) hc) (fun _=>rfl) ?_
        intro x376 h376
        refine jG 1 2 ⟨[V 0 (.yld 6),V 2 (pt 5 1),V 6 (.osl 7 0 (List.length x359) 1),V 8 (iv x376),V 9 (.fsl 1 (List.map c_L3 a0)),V 10 (iv (List.length a0:Int)),V 11 (iv x296),V 18 (.fsl 1 (List.map cI x351)),V 19 (iv (List.length x351:Int)),V 20 (iv x360)],[(0,.rows 1 (List.map cI a1)),W 1 1 [.mp 2],(2,.map (oM x295)),W 3 1 [bv false],W 4 1 [.fsl 1 (List.map c_L3 a0)],W 5 1 [.mp 2],(6,rup_units_m8296_lp17 a0 x210 .ready none),(7,.rows 1 (List.map cI x359))],8⟩ ?_
        refine jN ?_
        refine jR ?_
        refine jG 0 3 ⟨[V 0 (.yld 6),V 2 (pt 5 1),V 6 (.osl 7 0 (List.length x359) 1),V 8 (iv x376),V 9 (.fsl 1 (List.map c_L3 a0)),V 10 (iv (List.length a0:Int)),V 11 (iv x296),V 18 (.fsl 1 (List.map cI x351)),V 19 (iv (List.length x351:Int)),V 20 (iv x360),V 24 (.mp 2),V 26 (iv (w64 (0 - x376)))],[(0,.rows 1 (List.map cI a1)),W 1 1 [.mp 2],(2,.map (oM x295)),W 3 1 [bv false],W 4 1 [.fsl 1 (List.map c_L3 a0)],W 5 1 [.mp 2],(6,rup_units_m8296_lp17 a0 x210 .ready none),(7,.rows 1 (List.map cI x359))],8⟩ ?_
        refine jr_callF (i:=3) rfl rfl rfl rfl (vs:=[.mp 2,iv (w64 (0 - x376))]) (by kernel_rfl) (snapL_cons (snapc_mp (by kernel_rfl)) (snapL_cons rfl (snapL_nil _))) (all2_cons (fle_refl _) (all2_cons (fle_refl _) all2_nil)) (rup_sheet_isTrue_ok x295 (w64 (0 - x376))) (fun _=>rfl) (fun _=>rfl) ?_
        intro x377 h377
        refine jG 4 2 ⟨[V 0 (.yld 6),V 2 (pt 5 1),V 6 (.osl 7 0 (List.length x359) 1),V 8 (iv x376),V 9 (.fsl 1 (List.map c_L3 a0)),V 10 (iv (List.length a0:Int)),V 11 (iv x296),V 18 (.fsl 1 (List.map cI x351)),V 19 (iv (List.length x351:Int)),V 20 (iv x360),V 29 (bv (!x377))],[(0,.rows 1 (List.map cI a1)),W 1 1 [.mp 2],(2,.map (oM x295)),W 3 1 [bv false],W 4 1 [.fsl 1 (List.map c_L3 a0)],W 5 1 [.mp 2],(6,rup_units_m8296_lp17 a0 x210 .ready none),(7,.rows 1 (List.map cI x359))],8⟩ ?_
        refine jr_bind 6 5 (fun x379=>⟨[V 0 (.yld 6),V 2 (pt 5 1),V 6 (.osl 7 0 (List.length x359) 1),V 8 (iv x376),V 9 (.fsl 1 (List.map c_L3 a0)),V 10 (iv (List.length a0:Int)),V 11 (iv x296),V 18 (.fsl 1 (List.map cI x351)),V 19 (iv (List.length x351:Int)),V 20 (iv x360),V 34 (bv x379)],[(0,.rows 1 (List.map cI a1)),W 1 1 [.mp 2],(2,.map (oM x295)),W 3 1 [bv false],W 4 1 [.fsl 1 (List.map c_L3 a0)],W 5 1 [.mp 2],(6,rup_units_m8296_lp17 a0 x210 .ready none),(7,.rows 1 (List.map cI x359))],8⟩) ?_ ?_
        ·refine jSp 29 ?_ ?_
         ·refine jG 0 2 ⟨[V 0 (.yld 6),V 2 (pt 5 1),V 6 (.osl 7 0 (List.length x359) 1),V 8 (iv x376),V 9 (.fsl 1 (List.map c_L3 a0)),V 10 (iv (List.length a0:Int)),V 11 (iv x296),V 18 (.fsl 1 (List.map cI x351)),V 19 (iv (List.length x351:Int)),V 20 (iv x360),(29,.lit true),V 30 (.osl 7 0 (List.length x359) 1),V 31 (iv x376)],[(0,.rows 1 (List.map cI a1)),W 1 1 [.mp 2],(2,.map (oM x295)),W 3 1 [bv false],W 4 1 [.fsl 1 (List.map c_L3 a0)],W 5 1 [.mp 2],(6,rup_units_m8296_lp17 a0 x210 .ready none),(7,.rows 1 (List.map cI x359))],8⟩ ?_
          refine jr_callF (i:=2) rfl rfl rfl rfl (vs:=[.osl 7 0 (List.length x359) 1,iv x376]) (by kernel_rfl) (snapL_cons (snapc_own fz_I (by kernel_rfl)) (snapL_cons rfl (snapL_nil _))) (all2_cons (fle_refl _) (all2_cons (fle_refl _) all2_nil)) (slices_Contains_int_int_ok x359 x376) (fun _=>rfl) (fun _=>rfl) ?_
          intro x380 h380
          refine jG 3 2 ⟨[V 0 (.yld 6),V 2 (pt 5 1),V 6 (.osl 7 0 (List.length x359) 1),V 8 (iv x376),V 9 (.fsl 1 (List.map c_L3 a0)),V 10 (iv (List.length a0:Int)),V 11 (iv x296),V 18 (.fsl 1 (List.map cI x351)),V 19 (iv (List.length x351:Int)),V 20 (iv x360),V 34 (bv (!x380))],[(0,.rows 1 (List.map cI a1)),W 1 1 [.mp 2],(2,.map (oM x295)),W 3 1 [bv false],W 4 1 [.fsl 1 (List.map c_L3 a0)],W 5 1 [.mp 2],(6,rup_units_m8296_lp17 a0 x210 .ready none),(7,.rows 1 (List.map cI x359))],8⟩ ?_
          refine jr_nil rfl ?_
          exact jx_mid rfl (wkR [(0,some 0),(1,some 1),(2,some 2),(3,some 3),(4,some 4),(5,some 5),(6,some 6),(7,some 7)] (fix_of hc17.2.2 (k:=7) rfl) (pc (hL 0 (noid_map ni_I _)) (pc (hC 1) (pc (hM 2) (pc (hC 3) (pc (hC 4) (pc (hC 5) (pc (.inr (.inr (.inl ⟨6,_,_,rfl,rfl,rfl,by kernel_rfl⟩))) (pc (hL 7 (noid_map ni_I _)) allp_nil)))))))))
         refine jG 0 5 ⟨[V 0 (.yld 6),V 2 (pt 5 1),V 6 (.osl 7 0 (List.length x359) 1),V 8 (iv x376),V 9 (.fsl 1 (List.map c_L3 a0)),V 10 (iv (List.length a0:Int)),V 11 (iv x296),V 18 (.fsl 1 (List.map cI x351)),V 19 (iv (List.length x351:Int)),V 20 (iv x360),V 34 (bv false)],[(0,.rows 1 (List.map cI a1)),W 1 1 [.mp 2],(2,.map (oM x295)),W 3 1 [bv false],W 4 1 [.fsl 1 (List.map c_L3 a0)],W 5 1 [.mp 2],(6,rup_units_m8296_lp17 a0 x210 .ready none),(7,.rows 1 (List.map cI x359))],8⟩ ?_
         refine jr_nil rfl ?_
         exact jx_mid rfl (wkR [(0,some 0),(1,some 1),(2,some 2),(3,some 3),(4,some 4),(5,some 5),(6,some 6),(7,some 7)] (fix_of hc17.2.2 (k:=7) rfl) (pc (hL 0 (noid_map ni_I _)) (pc (hC 1) (pc (hM 2) (pc (hC 3) (pc (hC 4) (pc (hC 5) (pc (.inr (.inr (.inl ⟨6,_,_,rfl,rfl,rfl,by kernel_rfl⟩))) (pc (hL 7 (noid_map ni_I _)) allp_nil)))))))))
        intro x379
        refine jN ?_
        refine jIf ?_ ?_
        ·refine jc_reg ?_
         refine jG 0 3 ⟨[V 0 (.yld 6),V 2 (pt 5 1),V 9 (.fsl 1 (List.map c_L3 a0)),V 10 (iv (List.length a0:Int)),V 11 (iv x296),V 18 (.fsl 1 (List.map cI x351)),V 19 (iv (List.length x351:Int)),V 20 (iv x360),V 35 (.osl 7 0 (List.length x359) 1),V 37 (.osl 8 0 (List.length [x376]) 1)],[(0,.rows 1 (List.map cI a1)),W 1 1 [.mp 2],(2,.map (oM x295)),W 3 1 [bv false],W 4 1 [.fsl 1 (List.map c_L3 a0)],W 5 1 [.mp 2],(6,rup_units_m8296_lp17 a0 x210 .ready none),(7,.rows 1 (List.map cI x359)),(8,.rows 1 (List.map cI [x376]))],9⟩ ?_
         refine jr_part (i:=3) (mo:=app 8 x359 [x376]) rfl rfl rfl rfl (fun _ hc=>aop_app (u:=.osl 7 0 (List.length x359) 1) (w:=.osl 8 0 (List.length [x376]) 1) (e:=3) (td:=.slice 3) (by kernel_rfl) (by kernel_rfl) (by kernel_rfl) (by kernel_rfl) (.inl ⟨_,rfl⟩) (appendOf_own (c:=cI) (sz:=1) (b:=8) (id:=7) (by kernel_rfl) (by kernel_rfl) (rows_own (by kernel_rfl)) (List.cons_ne_nil _ _) hc)) (fun _=>rfl) ?_
         intro x381 h381
         refine jG 4 1 ⟨[V 0 (.yld 6),V 2 (pt 5 1),V 6 (.osl 9 0 (List.length x381) 1),V 9 (.fsl 1 (List.map c_L3 a0)),V 10 (iv (List.length a0:Int)),V 11 (iv x296),V 18 (.fsl 1 (List.map cI x351)),V 19 (iv (List.length x351:Int)),V 20 (iv x360)],[(0,.rows 1 (List.map cI a1)),W 1 1 [.mp 2],(2,.map (oM x295)),W 3 1 [bv false],W 4 1 [.fsl 1 (List.map c_L3 a0)],W 5 1 [.mp 2],(6,rup_units_m8296_lp17 a0 x210 .ready none),(9,.rows 1 (List.map cI x381))],10⟩ ?_
         refine jr_nil rfl ?_
         refine jx_blkN ?_
         exact jx_mid rfl (wkR [(0,some 0),(1,some 1),(2,some 2),(3,some 3),(4,some 4),(5,some 5),(6,some 6),(7,some 9)] (fix_of hc17.2.2 (k:=7) rfl) (pc (hL 0 (noid_map ni_I _)) (pc (hC 1) (pc (hM 2) (pc (hC 3) (pc (hC 4) (pc (hC 5) (pc (.inr (.inr (.inl ⟨6,_,_,rfl,rfl,rfl,by kernel_rfl⟩))) (pc (hL 9 (noid_map ni_I _)) allp_nil)))))))))
        refine jc_skip ?_
        refine jx_blkN ?_
        exact jx_mid rfl (wkR [(0,some 0),(1,some 1),(2,some 2),(3,some 3),(4,some 4),(5,some 5),(6,some 6),(7,some 7)] (fix_of hc17.2.2 (k:=7) rfl) (pc (hL 0 (noid_map ni_I _)) (pc (hC 1) (pc (hM 2) (pc (hC 3) (pc (hC 4) (pc (hC 5) (pc (.inr (.inr (.inl ⟨6,_,_,rfl,rfl,rfl,by kernel_rfl⟩))) (pc (hL 7 (noid_map ni_I _)) allp_nil)))))))))
       intro x375
       refine jx_seqN ?_
       refine jT ⟨[V 0 (.yld 6),V 2 (pt 5 1),V 6 (.osl 7 0 (List.length x375) 1),V 9 (.fsl 1 (List.map c_L3 a0)),V 10 (iv (List.length a0:Int)),V 11 (iv x296),V 18 (.fsl 1 (List.map cI x351)),V 19 (iv (List.length x351:Int)),V 20 (iv (w64 (x360 + 1)))],[(0,.rows 1 (List.map cI a1)),W 1 1 [.mp 2],(2,.map (oM x295)),W 3 1 [bv false],W 4 1 [.fsl 1 (List.map c_L3 a0)],W 5 1 [.mp 2],(6,rup_units_m8296_lp17 a0 x210 .ready none),(7,.rows 1 (List.map cI x375))],8⟩ ?_
       exact jx_next (wkR [(0,some 0),(1,some 1),(2,some 2),(3,some 3),(4,some 4),(5,some 5),(6,some 6),(7,some 7)] (fix_of hc17.2.2 (k:=7) rfl) (pc (hL 0 (noid_map ni_I _)) (pc (hC 1) (pc (hM 2) (pc (hC 3) (pc (hC 4) (pc (hC 5) (pc (.inr (.inr (.inl ⟨6,_,_,rfl,rfl,rfl,by kernel_rfl⟩))) (pc (hL 7 (noid_map ni_I _)) allp_nil)))))))))
      refine jc_exit ?_
      refine jx_seqE ?_
      exact jx_done rfl nofun (wkR [(0,some 0),(1,some 1),(2,some 2),(3,some 3),(4,some 4),(5,some 5),(6,some 6),(7,some 7)] (fix_of hc17.2.2 (k:=7) rfl) (pc (hL 0 (noid_map ni_I _)) (pc (hC 1) (pc (hM 2) (pc (hC 3) (pc (hC 4) (pc (hC 5) (pc (.inr (.inr (.inl ⟨6,_,_,rfl,rfl,rfl,by kernel_rfl⟩))) (pc (hL 7 (noid_map ni_I _)) allp_nil)))))))))
     intro x369
     refine jx_blkE ?_
     refine jx_seqN ?_
     refine jR ?_
     refine jG 0 2 ⟨[V 0 (.yld 6),V 2 (pt 5 1),V 9 (.fsl 1 (List.map c_L3 a0)),V 10 (iv (List.length a0:Int)),V 11 (iv x296),V 40 (.yld 6),V 41 (.osl 7 0 (List.length x369) 1)],[(0,.rows 1 (List.map cI a1)),W 1 1 [.mp 2],(2,.map (oM x295)),W 3 1 [bv false],W 4 1 [.fsl 1 (List.map c_L3 a0)],W 5 1 [.mp 2],(6,rup_units_m8296_lp17 a0 x210 .ready none),(7,.rows 1 (List.map cI x369))],8⟩ ?_
     refine jr_yield (i:=2) (l:=6) (Nc:=66) (Kc:=[V 0 (.fsl 1 (List.map c_L3 a0)),V 6 (pt 1 1),V 9 (pt 3 1),V 10 (iv (List.length x210:Int)),V 36 (.fn 37 [pt 4 1,pt 5 1])]) (ps:=[37]) (vs:=[.osl 7 0 (List.length x369) 1]) (fun y=>match y with | Sum.inl _=>⟨[],[(0,.rows 1 (List.map cI a1)),W 1 1 [.mp 2],(2,.map (oM x295)),W 3 1 [bv true],W 4 1 [.fsl 1 (List.map c_L3 a0)],W 5 1 [.mp 2],(6,rup_units_m8296_lp17 a0 x210 .busy none)],8⟩ | Sum.inr x386=>⟨[],[(0,.rows 1 (List.map cI a1)),W 1 1 [.mp 2],(2,.map (oM x386)),W 3 1 [bv false],W 4 1 [.fsl 1 (List.map c_L3 a0)],W 5 1 [.mp 2],(6,rup_units_m8296_lp17 a0 x210 .busy none)],8⟩) (fun y=>match y with | Sum.inl _=>(.exit 2) | Sum.inr x386=>.normal) [0,2,9,10,11,42] [0,1,2,3,4,5,6] (after:=(fun y=>match y with | Sum.inl _=>⟨[V 0 (.yld 6),V 2 (pt 5 1),V 9 (.fsl 1 (List.map c_L3 a0)),V 10 (iv (List.length a0:Int)),V 11 (iv x296),V 42 (bv false)],[(0,.rows 1 (List.map cI a1)),W 1 1 [.mp 2],(2,.map (oM x295)),W 3 1 [bv true],W 4 1 [.fsl 1 (List.map c_L3 a0)],W 5 1 [.mp 2],(6,rup_units_m8296_lp17 a0 x210 .done (some (.exit 2)))],8⟩ | Sum.inr x386=>⟨[V 0 (.yld 6),V 2 (pt 5 1),V 9 (.fsl 1 (List.map c_L3 a0)),V 10 (iv (List.length a0:Int)),V 11 (iv x296),V 42 (bv true)],[(0,.rows 1 (List.map cI a1)),W 1 1 [.mp 2],(2,.map (oM x386)),W 3 1 [bv false],W 4 1 [.fsl 1 (List.map c_L3 a0)],W 5 1 [.mp 2],(6,rup_units_m8296_lp17 a0 x210 .ready none)],8⟩)) rfl rfl rup_units_m8296_y19_aw rup_units_m8296_y19_bw (by kernel_rfl) (by kernel_rfl) (yctx_of hc17 rfl) rfl (by kernel_rfl) rfl ?_ (by rintro (_ | x386) <;> exact⟨none,by kernel_rfl⟩) (by rintro (_ | x386) <;> kernel_rfl) ?_
     ·intro F21 hy21
      refine jT ⟨[V 6 (pt 1 1),V 9 (pt 3 1),V 11 (.osl 7 0 (List.length x369) 1)],[(0,.rows 1 (List.map cI a1)),W 1 1 [.mp 2],(2,.map (oM x295)),W 3 1 [bv false],W 4 1 [.fsl 1 (List.map c_L3 a0)],W 5 1 [.mp 2],(6,rup_units_m8296_lp17 a0 x210 .ready none),(7,.rows 1 (List.map cI x369))],8⟩ ?_
      refine jx_asg hy21 rfl ?_
      refine jc_block ?_
      refine jc_block ?_
      refine jS ⟨[V 6 (pt 1 1),V 9 (pt 3 1),V 11 (.osl 7 0 (List.length x369) 1),V 38 (bv ((List.length x369:Int) == 0))],[(0,.rows 1 (List.map cI a1)),W 1 1 [.mp 2],(2,.map (oM x295)),W 3 1 [bv false],W 4 1 [.fsl 1 (List.map c_L3 a0)],W 5 1 [.mp 2],(6,rup_units_m8296_lp17 a0 x210 .busy none),(7,.rows 1 (List.map cI x369))],8⟩ ?_
      refine jIf ?_ ?_
      ·refine jS ⟨[],[(0,.rows 1 (List.map cI a1)),W 1 1 [.mp 2],(2,.map (oM x295)),W 3 1 [bv true],W 4 1 [.fsl 1 (List.map c_L3 a0)],W 5 1 [.mp 2],(6,rup_units_m8296_lp17 a0 x210 .busy none)],8⟩ ?_
       refine jc_exit ?_
       refine jx_blkX rfl ?_
       refine jx_blkX rfl ?_
       exact jx_mid rfl (wkR [(0,some 0),(1,some 1),(2,some 2),(3,some 3),(4,some 4),(5,some 5),(6,some 6),(7,some 7)] (fix_of hy21.2 (k:=8) rfl) (pc (hL 0 (noid_map ni_I _)) (pc (hC 1) (pc (hM 2) (pc (hC 3) (pc (hC 4) (pc (hC 5) (pc (.inr (.inr (.inl ⟨6,_,_,rfl,rfl,rfl,by kernel_rfl⟩))) allp_nil))))))))
      refine jR ?_
      refine jG 0 4 ⟨[V 6 (pt 1 1),V 11 (.osl 7 0 (List.length x369) 1),V 46 (bv ((List.length x369:Int) == 1))],[(0,.rows 1 (List.map cI a1)),W 1 1 [.mp 2],(2,.map (oM x295)),W 3 1 [bv false],W 4 1 [.fsl 1 (List.map c_L3 a0)],W 5 1 [.mp 2],(6,rup_units_m8296_lp17 a0 x210 .busy none),(7,.rows 1 (List.map cI x369))],8⟩ ?_
      refine jr_bind 4 7 (fun x389=>⟨[V 6 (pt 1 1),V 11 (.osl 7 0 (List.length x369) 1),V 53 (bv x389)],[(0,.rows 1 (List.map cI a1)),W 1 1 [.mp 2],(2,.map (oM x295)),W 3 1 [bv false],W 4 1 [.fsl 1 (List.map c_L3 a0)],W 5 1 [.mp 2],(6,rup_units_m8296_lp17 a0 x210 .busy none),(7,.rows 1 (List.map cI x369))],8⟩) ?_ ?_
      ·refine jSp 46 ?_ ?_
       ·refine jG 0 2 ⟨[V 6 (pt 1 1),V 11 (.osl 7 0 (List.length x369) 1),(46,.lit true),V 47 (.mp 2),V 48 (.osl 7 0 (List.length x369) 1)],[(0,.rows 1 (List.map cI a1)),W 1 1 [.mp 2],(2,.map (oM x295)),W 3 1 [bv false],W 4 1 [.fsl 1 (List.map c_L3 a0)],W 5 1 [.mp 2],(6,rup_units_m8296_lp17 a0 x210 .busy none),(7,.rows 1 (List.map cI x369))],8⟩ ?_
        refine jr_part (i:=2) (mo:=ixl x369 0) rfl rfl rfl rfl (fun _ hc=>aop_ixo0 (sz:=1) (e:=3) (kk:=.i64) (id:=7) (by kernel_rfl) (by kernel_rfl) (by kernel_rfl) (by kernel_rfl) hc) (fun _=>rfl) ?_
        intro x390 h390
        refine jr_one (i:=3) (v:=iv x390) rfl rfl rfl rfl (aop_ldo (l:=x369) (c:=cI) (id:=7) (k:=(Int.toNat 0)) (sz:=1) (off:=0) (a:=x390) (by kernel_rfl) (by kernel_rfl) (ixl_lt h390).2.2 (by kernel_rfl)) rfl ?_
        refine jr_callF (i:=4) rfl rfl rfl rfl (vs:=[.mp 2,iv x390]) (by kernel_rfl) (snapL_cons (snapc_mp (by kernel_rfl)) (snapL_cons rfl (snapL_nil _))) (all2_cons (fle_refl _) (all2_cons (fle_refl _) all2_nil)) (rup_sheet_isTrue_ok x295 x390) (fun _=>rfl) (fun _=>rfl) ?_
        intro x391 h391
        refine jG 5 2 ⟨[V 6 (pt 1 1),V 11 (.osl 7 0 (List.length x369) 1),V 53 (bv (!x391))],[(0,.rows 1 (List.map cI a1)),W 1 1 [.mp 2],(2,.map (oM x295)),W 3 1 [bv false],W 4 1 [.fsl 1 (List.map c_L3 a0)],W 5 1 [.mp 2],(6,rup_units_m8296_lp17 a0 x210 .busy none),(7,.rows 1 (List.map cI x369))],8⟩ ?_
        refine jr_nil rfl ?_
        exact jx_mid rfl (wkR [(0,some 0),(1,some 1),(2,some 2),(3,some 3),(4,some 4),(5,some 5),(6,some 6),(7,some 7)] (fix_of hy21.2 (k:=8) rfl) (pc (hL 0 (noid_map ni_I _)) (pc (hC 1) (pc (hM 2) (pc (hC 3) (pc (hC 4) (pc (hC 5) (pc (.inr (.inr (.inl ⟨6,_,_,rfl,rfl,rfl,by kernel_rfl⟩))) (pc (hL 7 (noid_map ni_I _)) allp_nil)))))))))
       refine jG 0 7 ⟨[V 6 (pt 1 1),V 11 (.osl 7 0 (List.length x369) 1),V 53 (bv false)],[(0,.rows 1 (List.map cI a1)),W 1 1 [.mp 2],(2,.map (oM x295)),W 3 1 [bv false],W 4 1 [.fsl 1 (List.map c_L3 a0)],W 5 1 [.mp 2],(6,rup_units_m8296_lp17 a0 x210 .busy none),(7,.rows 1 (List.map cI x369))],8⟩ ?_
       refine jr_nil rfl ?_
       exact jx_mid rfl (wkR [(0,some 0),(1,some 1),(2,some 2),(3,some 3),(4,some 4),(5,some 5),(6,some 6),(7,some 7)] (fix_of hy21.2 (k:=8) rfl) (pc (hL 0 (noid_map ni_I _)) (pc (hC 1) (pc (hM 2) (pc (hC 3) (pc (hC 4) (pc (hC 5) (pc (.inr (.inr (.inl ⟨6,_,_,rfl,rfl,rfl,by kernel_rfl⟩))) (pc (hL 7 (noid_map ni_I _)) allp_nil)))))))))
      intro x389
      refine jG 11 1 ⟨[V 6 (pt 1 1),V 11 (.osl 7 0 (List.length x369) 1),V 42 (bv x389)],[(0,.rows 1 (List.map cI a1)),W 1 1 [.mp 2],(2,.map (oM x295)),W 3 1 [bv false],W 4 1 [.fsl 1 (List.map c_L3 a0)],W 5 1 [.mp 2],(6,rup_units_m8296_lp17 a0 x210 .busy none),(7,.rows 1 (List.map cI x369))],8⟩ ?_
      refine jN ?_
      refine jIf ?_ ?_
      ·refine jc_reg ?_
       refine jG 0 2 ⟨[V 54 (.mp 2),V 55 (.osl 7 0 (List.length x369) 1)],[(0,.rows 1 (List.map cI a1)),W 1 1 [.mp 2],(2,.map (oM x295)),W 3 1 [bv false],W 4 1 [.fsl 1 (List.map c_L3 a0)],W 5 1 [.mp 2],(6,rup_units_m8296_lp17 a0 x210 .busy none),(7,.rows 1 (List.map cI x369))],8⟩ ?_
       refine jr_part (i:=2) (mo:=ixl x369 0) rfl rfl rfl rfl (fun _ hc=>aop_ixo0 (sz:=1) (e:=3) (kk:=.i64) (id:=7) (by kernel_rfl) (by kernel_rfl) (by kernel_rfl) (by kernel_rfl) hc) (fun _=>rfl) ?_
       intro x392 h392
       refine jr_one (i:=3) (v:=iv x392) rfl rfl rfl rfl (aop_ldo (l:=x369) (c:=cI) (id:=7) (k:=(Int.toNat 0)) (sz:=1) (off:=0) (a:=x392) (by kernel_rfl) (by kernel_rfl) (ixl_lt h392).2.2 (by kernel_rfl)) rfl ?_
       refine jr_one (i:=4) (v:=iv (mget x295 x392)) (us:=[]) rfl rfl rfl rfl (aop_look (l:=x295) (id:=2) (kk:=x392) (kt:=3) (et:=3) (by kernel_rfl) (by kernel_rfl) (by kernel_rfl) (by kernel_rfl) (by kernel_rfl) (by kernel_rfl)) rfl ?_
       refine jG 5 1 ⟨[V 54 (.mp 2),V 57 (iv x392),V 59 (iv (w64 ((mget x295 x392) + 1)))],[(0,.rows 1 (List.map cI a1)),W 1 1 [.mp 2],(2,.map (oM x295)),W 3 1 [bv false],W 4 1 [.fsl 1 (List.map c_L3 a0)],W 5 1 [.mp 2],(6,rup_units_m8296_lp17 a0 x210 .busy none)],8⟩ ?_
       refine jr_sto (i:=6) [] [0,1,2,3,4,5,6] (st1:=⟨[],[(0,.rows 1 (List.map cI a1)),W 1 1 [.mp 2],(2,.map (oM (mput x295 x392 (w64 ((mget x295 x392) + 1))))),W 3 1 [bv false],W 4 1 [.fsl 1 (List.map c_L3 a0)],W 5 1 [.mp 2],(6,rup_units_m8296_lp17 a0 x210 .busy none)],8⟩) rfl rfl rfl rfl (aop_mput (l:=x295) (id:=2) (kk:=x392) (v:=(w64 ((mget x295 x392) + 1))) (kt:=3) (et:=3) (by kernel_rfl) (by kernel_rfl) (by kernel_rfl) (by kernel_rfl) (by kernel_rfl) (by kernel_rfl)) (by kernel_rfl) ?_
       refine jr_nil rfl ?_
       refine jx_blkN ?_
       refine jx_blkN ?_
       exact jx_mid rfl (wkR [(0,some 0),(1,some 1),(2,some 2),(3,some 3),(4,some 4),(5,some 5),(6,some 6),(7,some 7)] (fix_of hy21.2 (k:=8) rfl) (pc (hL 0 (noid_map ni_I _)) (pc (hC 1) (pc (hM 2) (pc (hC 3) (pc (hC 4) (pc (hC 5) (pc (.inr (.inr (.inl ⟨6,_,_,rfl,rfl,rfl,by kernel_rfl⟩))) allp_nil))))))))
      refine jc_skip ?_
      refine jx_blkN ?_
      refine jx_blkN ?_
      exact jx_mid rfl (wkR [(0,some 0),(1,some 1),(2,some 2),(3,some 3),(4,some 4),(5,some 5),(6,some 6),(7,some 7)] (fix_of hy21.2 (k:=8) rfl) (pc (hL 0 (noid_map ni_I _)) (pc (hC 1) (pc (hM 2) (pc (hC 3) (pc (hC 4) (pc (hC 5) (pc (.inr (.inr (.inl ⟨6,_,_,rfl,rfl,rfl,by kernel_rfl⟩))) allp_nil))))))))
     rintro (_ | x386)
     ·refine jG 3 1 ⟨[V 0 (.yld 6),V 2 (pt 5 1),V 9 (.fsl 1 (List.map c_L3 a0)),V 10 (iv (List.length a0:Int)),V 11 (iv x296),V 43 (bv true)],[(0,.rows 1 (List.map cI a1)),W 1 1 [.mp 2],(2,.map (oM x295)),W 3 1 [bv true],W 4 1 [.fsl 1 (List.map c_L3 a0)],W 5 1 [.mp 2],(6,rup_units_m8296_lp17 a0 x210 .done (some (.exit 2)))],8⟩ ?_
      refine jN ?_
      refine jc_condK (c:=true) (by kernel_rfl) ?_
      refine jc_ret ?_
      refine jx_blkR ?_
      exact jx_mid rfl (wkR [(0,some 0),(1,some 1),(2,some 2),(3,some 3),(4,some 4),(5,some 5),(6,some 6)] (fix_of hc17.2.2 (k:=7) rfl) (pc (hL 0 (noid_map ni_I _)) (pc (hC 1) (pc (hM 2) (pc (hC 3) (pc (hC 4) (pc (hC 5) (pc (.inr (.inr (.inl ⟨6,_,_,rfl,rfl,rfl,by kernel_rfl⟩))) allp_nil))))))))
     refine jG 3 1 ⟨[V 0 (.yld 6),V 2 (pt 5 1),V 9 (.fsl 1 (List.map c_L3 a0)),V 10 (iv (List.length a0:Int)),V 11 (iv x296),V 43 (bv false)],[(0,.rows 1 (List.map cI a1)),W 1 1 [.mp 2],(2,.map (oM x386)),W 3 1 [bv false],W 4 1 [.fsl 1 (List.map c_L3 a0)],W 5 1 [.mp 2],(6,rup_units_m8296_lp17 a0 x210 .ready none)],8⟩ ?_
     refine jN ?_
     refine jc_condK (c:=false) (by kernel_rfl) ?_
     refine jc_skip ?_
     refine jx_blkN ?_
     exact jx_mid rfl (wkR [(0,some 0),(1,some 1),(2,some 2),(3,some 3),(4,some 4),(5,some 5),(6,some 6)] (fix_of hc17.2.2 (k:=7) rfl) (pc (hL 0 (noid_map ni_I _)) (pc (hC 1) (pc (hM 2) (pc (hC 3) (pc (hC 4) (pc (hC 5) (pc (.inr (.inr (.inl ⟨6,_,_,rfl,rfl,rfl,by kernel_rfl⟩))) allp_nil))))))))
    rintro (x350 | _)
    ·refine jx_seqN ?_
     refine jT ⟨[V 0 (.yld 6),V 2 (pt 5 1),V 9 (.fsl 1 (List.map c_L3 a0)),V 10 (iv (List.length a0:Int)),V 11 (iv (w64 (x296 + 1)))],[(0,.rows 1 (List.map cI a1)),W 1 1 [.mp 2],(2,.map (oM x350)),W 3 1 [bv false],W 4 1 [.fsl 1 (List.map c_L3 a0)],W 5 1 [.mp 2],(6,rup_units_m8296_lp17 a0 x210 .ready none)],7⟩ ?_
     exact jx_next (wkR [(0,some 0),(1,some 1),(2,some 2),(3,some 3),(4,some 4),(5,some 5),(6,some 6)] (fix_of hc17.2.2 (k:=7) rfl) (pc (hL 0 (noid_map ni_I _)) (pc (hC 1) (pc (hM 2) (pc (hC 3) (pc (hC 4) (pc (hC 5) (pc (.inr (.inr (.inl ⟨6,_,_,rfl,rfl,rfl,by kernel_rfl⟩))) allp_nil))))))))
    refine jx_seqR ?_
    exact jx_done rfl nofun (wkR [(0,some 0),(1,some 1),(2,some 2),(3,some 3),(4,some 4),(5,some 5),(6,some 6)] (fix_of hc17.2.2 (k:=7) rfl) (pc (hL 0 (noid_map ni_I _)) (pc (hC 1) (pc (hM 2) (pc (hC 3) (pc (hC 4) (pc (hC 5) (pc (.inr (.inr (.inl ⟨6,_,_,rfl,rfl,rfl,by kernel_rfl⟩))) allp_nil))))))))
   refine jc_exit ?_
   refine jx_seqE ?_
   exact jx_done rfl nofun (wkR [(0,some 0),(1,some 1),(2,some 2),(3,some 3),(4,some 4),(5,some 5),(6,some 6)] (fix_of hc17.2.2 (k:=7) rfl) (pc (hL 0 (noid_map ni_I _)) (pc (hC 1) (pc (hM 2) (pc (hC 3) (pc (hC 4) (pc (hC 5) (pc (.inr (.inr (.inl ⟨6,_,_,rfl,rfl,rfl,by kernel_rfl⟩))) allp_nil))))))))
  rintro (x324 | x325)
  ·refine jx_blkR ?_
   refine jx_rng hc17 (.inr rfl) rfl nofun rfl ?_
   refine jx_blkX rfl ?_
   refine jx_seqE ?_
   refine jx_blkX rfl ?_
   exact jx_done rfl nofun (wkR [(0,some 0),(1,some 1),(2,some 2),(3,some 3)] (fix_of hF (k:=1) rfl) (pc (hL 0 (noid_map ni_I _)) (pc (hC 1) (pc (hM 2) (pc (hC 3) allp_nil)))))
  refine jx_blkE ?_
  refine jx_rng hc17 (.inl rfl) rfl nofun rfl ?_
  refine jx_blkN ?_
  refine jx_seqN ?_
  refine jR ?_
  refine jG 0 1 ⟨[V 0 (.fsl 1 (List.map c_L3 a0)),V 6 (pt 1 1),V 9 (pt 3 1),V 10 (iv (List.length x210:Int)),V 60 (.mp 2)],[(0,.rows 1 (List.map cI a1)),W 1 1 [.mp 2],(2,.map (oM x325)),W 3 1 [bv false]],7⟩ ?_
  refine jr_one (i:=1) (v:=iv (List.length x325:Int)) (us:=[]) rfl rfl rfl rfl (aop_lenm (l:=x325) (id:=2) (kt:=3) (et:=3) (by kernel_rfl) (by kernel_rfl) (by kernel_rfl) (by kernel_rfl)) rfl ?_
  refine jG 2 2 ⟨[V 0 (.fsl 1 (List.map c_L3 a0)),V 6 (pt 1 1),V 9 (pt 3 1),V 63 (bv ((List.length x325:Int) == (List.length x210:Int)))],[(0,.rows 1 (List.map cI a1)),W 1 1 [.mp 2],(2,.map (oM x325)),W 3 1 [bv false]],7⟩ ?_
  refine jN ?_
  refine jIf ?_ ?_
  ·refine jc_exit ?_
   refine jx_blkX rfl ?_
   exact jx_done rfl nofun (wkR [(0,some 0),(1,some 1),(2,some 2),(3,some 3)] (fix_of hF (k:=1) rfl) (pc (hL 0 (noid_map ni_I _)) (pc (hC 1) (pc (hM 2) (pc (hC 3) allp_nil)))))
  refine jc_skip ?_
  refine jx_blkN ?_
  exact jx_next (wkR [(0,some 0),(1,some 1),(2,some 2),(3,some 3)] (fix_of hF (k:=1) rfl) (pc (hL 0 (noid_map ni_I _)) (pc (hC 1) (pc (hM 2) (pc (hC 3) allp_nil)))))
 rintro⟨x268,x269⟩
 refine jx_blkE ?_
 refine jx_seqN ?_
 refine jS ⟨[V 4 (.mp 2),V 5 (bv x269)],[(0,.rows 1 (List.map cI a1)),(2,.map (oM x268))],4⟩ ?_
 refine jc_ret ?_
 refine jx_scopeR ?_
 exact jx_retM (rup_units_m8296_T a0 a1 (x268,x269)) (.inr rfl) (wkR [(0,some 0),(1,some 2)] (fix_of hF (k:=1) rfl) (pc (hL 0 (noid_map ni_I _)) (pc (hM 2) allp_nil))))
theorem rup_units_m8296_okE (a0:List (List Int)) (a1:List Int):CtM E 16 [.fsl 1 (List.map c_L3 a0),.osl 0 0 (List.length a1) 1] [(0,.rows 1 (List.map cI a1))] 1 (rup_units_m8296 a0 a1) (fun r:List (Int × Int) × Bool=>.tup [.mp 1,bv r.2]) (fun r:List (Int × Int) × Bool=>[(0,.rows 1 (List.map cI a1)),(1,.map (oM r.1))]) 2:=CtM.lift (E:=E) (E0:=E0) rfl rfl rfl rfl (rup_units_m8296_ok a0 a1)
abbrev rup_Step_r1:List LO:=[lo 4 (.assign (.const (.bool false))) 4]
abbrev rup_Step_r2:List LO:=[lo 5 (.assign (.const (.slice none 0 0))) 23]
abbrev rup_Step_r3:List LO:=[lm 10 1 23,lo 11 (.call ⟨.builtin .len,#[.tmp 10],#[23]⟩) 3,lo 12 (.move (.const (.int .i64 0))) 3]
abbrev rup_Step_r4:List LO:=[lo 13 (.binOp .lss 3 (.tmp 12) (.tmp 11) 3) 0]
abbrev rup_Step_r5:List LO:=[lo 14 (.indexAddr 23 (.tmp 10) (.tmp 12)) 0,lo 15 (.load 3 (.tmp 14)) 3,lo 7 (.assign (.tmp 15)) 3]
abbrev rup_Step_r6:List LO:=[lm 16 7 3,lo 17 (.call ⟨.value (.func 22),#[.tmp 16],#[3]⟩) 4,lo 18 (.unOp .not 4 (.tmp 17)) 4]
abbrev rup_Step_r7:List LO:=[lo 4 (.assign (.const (.bool false))) 4]
abbrev rup_Step_r8:List LO:=[lm 19 5 23,lm 20 7 3,lo 21 (.unOp .neg 3 (.tmp 20)) 3,lo 22 (.buildSlice 23 1 #[(0,.tmp 21)]) 23,lo 23 (.call ⟨.builtin .append,#[.tmp 19,.tmp 22],#[23,23]⟩) 23,lo 5 (.assign (.tmp 23)) 23]
abbrev rup_Step_r9:List LO:=[lo 24 (.binOp .add 3 (.tmp 12) (.const (.int .i64 1)) 3) 3,lm 12 24 3]
abbrev rup_Step_r10:List LO:=[lm 26 0 22,lm 27 5 23,lo 28 (.call ⟨.value (.func 16),#[.tmp 26,.tmp 27],#[22,23]⟩) 35,lm 25 28 35,lo 29 (.extract (.tmp 25) 0) 34,lo 30 (.extract (.tmp 25) 1) 4,lo 8 (.assign (.tmp 29)) 34,lo 9 (.assign (.tmp 30)) 4]
abbrev rup_Step_r11:List LO:=[lm 31 9 4,lo 4 (.assign (.tmp 31)) 4]
abbrev rup_Step_c:LC:=.seq (.reg false rup_Step_r1) (.seq (.reg false rup_Step_r2) (.seq (.seq (.reg false rup_Step_r3) (.block 0 (.loop (.seq (.reg false rup_Step_r4) (.seq (.cond (.tmp 13) .skip (.exit 0)) (.seq (.block 1 (.seq (.reg false rup_Step_r5) (.seq (.seq (.reg false rup_Step_r6) (.cond (.tmp 18) (.seq (.reg false rup_Step_r7) .ret) .skip)) (.reg false rup_Step_r8)))) (.reg false rup_Step_r9))))))) (.seq (.reg false rup_Step_r10) (.seq (.reg false rup_Step_r11) .ret))))
theorem rup_Step_k:FnOk E 9 32 [.tmp 4] rup_Step_c:=⟨⟨Go.Proofs.Tryz.f9,by kernel_rfl,by kernel_rfl,by kernel_rfl,by kernel_rfl,by kernel_rfl⟩,rfl,rfl⟩
noncomputable def rup_Step_l1 (a1:(List Int)):(List Int × Int)→Option (Step (List Int × Int) ((Unit) ⊕ (List Int))):=fun (x4,x5)=>(if (decide (x5 < (List.length a1:Int)))=true then Option.bind (ixl a1 x5) (fun x12=>Option.bind (rup_literal x12) (fun x13=>(if (!x13)=true then some (Step.done (Sum.inl ())) else Option.bind (app 8 x4 [(w64 (0 - x12))]) (fun x14=>some (Step.next (x14,(w64 (x5 + 1)))))))) else some (Step.done (Sum.inr x4)))
noncomputable def rup_Step (a0:(List (List Int))) (a1:(List Int)):Option (Bool):=Option.bind (loopC (rup_Step_l1 a1) ([],0)) (fun y=>match y with | Sum.inl _=>some false | Sum.inr x11=>Option.bind (rup_units_m8296 a0 x11) (fun (x15,x16)=>some x16))
theorem rup_Step_ok (a0:(List (List Int))) (a1:(List Int)):Ct E 9 [.fsl 1 (List.map c_L3 a0),.fsl 1 (List.map cI a1)] (rup_Step a0 a1) (fun r:Bool=>bv r):=ct_intro (N:=32) (L:=rup_Step_c) rup_Step_k rfl (Nat.le_of_ble_eq_true rfl) (by kernel_rfl) (by
 unfold rup_Step
 refine jS ⟨[V 0 (.fsl 1 (List.map c_L3 a0)),V 1 (.fsl 1 (List.map cI a1))],[],0⟩ ?_
 refine jS ⟨[V 0 (.fsl 1 (List.map c_L3 a0)),V 1 (.fsl 1 (List.map cI a1)),V 5 (nilS)],[],0⟩ ?_
 refine jc_seq ?_
 refine jR ?_
 refine jG 0 3 ⟨[V 0 (.fsl 1 (List.map c_L3 a0)),V 5 (nilS),V 10 (.fsl 1 (List.map cI a1)),V 11 (iv (List.length (List.map cI a1):Int)),V 12 (iv 0)],[],0⟩ ?_
 simp only[List.length_map]
 refine jN ?_
 refine jc_block ?_
 refine jc_bind (fun y=>match y with | Sum.inl _=>⟨[V 4 (bv false)],[],0⟩ | Sum.inr x11=>⟨[V 0 (.fsl 1 (List.map c_L3 a0)),V 5 (.osl 0 0 (List.length x11) 1)],[(0,.rows 1 (List.map cI x11))],1⟩) (fun y=>match y with | Sum.inl _=>.ret | Sum.inr x11=>(.exit 0)) (jc_loop (fun (x4,x5)=>⟨[V 0 (.fsl 1 (List.map c_L3 a0)),V 5 (.osl 0 0 (List.length x4) 1),V 10 (.fsl 1 (List.map cI a1)),V 11 (iv (List.length a1:Int)),V 12 (iv x5)],[(0,.rows 1 (List.map cI x4))],1⟩) (wkR [(0,none)] (fix_nil _) (pc hZ allp_nil)) ?_) ?_
 ·rintro⟨x4,x5⟩
  unfold rup_Step_l1
  refine jS ⟨[V 0 (.fsl 1 (List.map c_L3 a0)),V 5 (.osl 0 0 (List.length x4) 1),V 10 (.fsl 1 (List.map cI a1)),V 11 (iv (List.length a1:Int)),V 12 (iv x5),V 13 (bv (decide (x5 < (List.length a1:Int))))],[(0,.rows 1 (List.map cI x4))],1⟩ ?_
  refine jc_seq ?_
  refine jIf ?_ ?_
  ·refine jc_skip ?_
   refine jx_seqN ?_
   refine jc_seq ?_
   refine jc_block ?_
   refine jR ?_
   refine jr_part (i:=0) (mo:=ixl a1 x5) rfl rfl rfl rfl (fun _ hc=>aop_ixf (c:=cI) (sz:=1) (e:=3) (kk:=.i64) (by kernel_rfl) (by kernel_rfl) (by kernel_rfl) (by kernel_rfl) hc) (fun _=>rfl) ?_
   intro x12 h12
   refine jG 1 2 ⟨[V 0 (.fsl 1 (List.map c_L3 a0)),V 5 (.osl 0 0 (List.length x4) 1),V 7 (iv x12),V 10 (.fsl 1 (List.map cI a1)),V 11 (iv (List.length a1:Int)),V 12 (iv x5)],[(0,.rows 1 (List.map cI x4))],1⟩ ?_
   refine jN ?_
   refine jc_seq ?_
   refine jR ?_
   refine jG 0 1 ⟨[V 0 (.fsl 1 (List.map c_L3 a0)),V 5 (.osl 0 0 (List.length x4) 1),V 7 (iv x12),V 10 (.fsl 1 (List.map cI a1)),V 11 (iv (List.length a1:Int)),V 12 (iv x5),V 16 (iv x12)],[(0,.rows 1 (List.map cI x4))],1⟩ ?_
   refine jK 1 (rup_literal_okE x12) ?_
   intro x13 h13
   refine jG 2 1 ⟨[V 0 (.fsl 1 (List.map c_L3 a0)),V 5 (.osl 0 0 (List.length x4) 1),V 7 (iv x12),V 10 (.fsl 1 (List.map cI a1)),V 11 (iv (List.length a1:Int)),V 12 (iv x5),V 18 (bv (!x13))],[(0,.rows 1 (List.map cI x4))],1⟩ ?_
   refine jN ?_
   refine jIf ?_ ?_
   ·refine jS ⟨[V 4 (bv false)],[],1⟩ ?_
    refine jc_ret ?_
    refine jx_seqR ?_
    refine jx_blkR ?_
    refine jx_seqR ?_
    exact jx_done rfl nofun (wkR [] (fix_nil _) allp_nil)
   refine jc_skip ?_
   refine jx_seqN ?_
   refine jc_reg ?_
   refine jG 0 4 ⟨[V 0 (.fsl 1 (List.map c_L3 a0)),V 10 (.fsl 1 (List.map cI a1)),V 11 (iv (List.length a1:Int)),V 12 (iv x5),V 19 (.osl 0 0 (List.length x4) 1),V 22 (.osl 1 0 (List.length [(w64 (0 - x12))]) 1)],[(0,.rows 1 (List.map cI x4)),(1,.rows 1 (List.map cI [(w64 (0 - x12))]))],2⟩ ?_
   refine jr_part (i:=4) (mo:=app 8 x4 [(w64 (0 - x12))]) rfl rfl rfl rfl (fun _ hc=>aop_app (u:=.osl 0 0 (List.length x4) 1) (w:=.osl 1 0 (List.length [(w64 (0 - x12))]) 1) (e:=3) (td:=.slice 3) (by kernel_rfl) (by kernel_rfl) (by kernel_rfl) (by kernel_rfl) (.inl ⟨_,rfl⟩) (appendOf_own (c:=cI) (sz:=1) (b:=8) (id:=0) (by kernel_rfl) (by kernel_rfl) (rows_own (by kernel_rfl)) (List.cons_ne_nil _ _) hc)) (fun _=>rfl) ?_
   intro x14 h14
   refine jG 5 1 ⟨[V 0 (.fsl 1 (List.map c_L3 a0)),V 5 (.osl 2 0 (List.length x14) 1),V 10 (.fsl 1 (List.map cI a1)),V 11 (iv (List.length a1:Int)),V 12 (iv x5)],[(2,.rows 1 (List.map cI x14))],3⟩ ?_
   refine jr_nil rfl ?_
   refine jx_blkN ?_
   refine jx_seqN ?_
   refine jT ⟨[V 0 (.fsl 1 (List.map c_L3 a0)),V 5 (.osl 2 0 (List.length x14) 1),V 10 (.fsl 1 (List.map cI a1)),V 11 (iv (List.length a1:Int)),V 12 (iv (w64 (x5 + 1)))],[(2,.rows 1 (List.map cI x14))],3⟩ ?_
   exact jx_next (wkR [(0,some 2)] (fix_nil _) (pc (hL 2 (noid_map ni_I _)) allp_nil))
  refine jc_exit ?_
  refine jx_seqE ?_
  exact jx_done rfl nofun (wkR [(0,some 0)] (fix_nil _) (pc (hL 0 (noid_map ni_I _)) allp_nil))
 rintro (_ | x11)
 ·refine jx_blkR ?_
  refine jx_seqR ?_
  exact jx_retF (.inr rfl) (v:=bv false) (by kernel_rfl) rfl (fle_refl _)
 refine jx_blkE ?_
 refine jx_seqN ?_
 refine jR ?_
 refine jG 0 2 ⟨[V 26 (.fsl 1 (List.map c_L3 a0)),V 27 (.osl 0 0 (List.length x11) 1)],[(0,.rows 1 (List.map cI x11))],1⟩ ?_
 refine jr_callM 2 [(0,some 0)] [(0,some 0),(1,some 1)] (fun r:List (Int × Int) × Bool=>[(0,.rows 1 (List.map cI x11)),(1,.map (oM r.1))]) (fun r:List (Int × Int) × Bool=>.tup [.mp 1,bv r.2]) 2 (rup_units_m8296_okE a0 x11) (pc (hL 0 (noid_map ni_I _)) allp_nil) (fun r=>(pc (.inr (hL 0 (noid_map ni_I _))) (pc (.inr (hM 1)) allp_nil))) ?_
 rintro⟨x15,x16⟩ hm1
 refine jG 3 5 ⟨[V 9 (bv x16)],[],2⟩ ?_
 refine jN ?_
 refine jS ⟨[V 4 (bv x16)],[],2⟩ ?_
 refine jc_ret ?_
 exact jx_retF (.inr rfl) (v:=bv x16) (by kernel_rfl) rfl (fle_refl _))
abbrev ref29_Lit_r1:List LO:=[lo 2 (.assign (.const (.bool false))) 4]
abbrev ref29_Lit_r2:List LO:=[lm 3 0 3,lo 4 (.binOp .neq 3 (.tmp 3) (.const (.int .i64 0)) 3) 4,lm 5 4 4,lmg 6 0 3 5 true,lg 7 (.binOp .geq 3 (.tmp 6) (.const (.int .i64 (-4096))) 3) 4 5 true,lo 8 (.pick (.tmp 5) (.tmp 7) (.const (.bool false))) 4,lm 9 8 4,lmg 10 0 3 9 true,lg 11 (.binOp .leq 3 (.tmp 10) (.const (.int .i64 4096)) 3) 4 9 true,lo 12 (.pick (.tmp 9) (.tmp 11) (.const (.bool false))) 4,lo 2 (.assign (.tmp 12)) 4]
abbrev ref29_Lit_c:LC:=.seq (.reg false ref29_Lit_r1) (.seq (.reg false ref29_Lit_r2) .ret)
theorem ref29_Lit_k:FnOk E 31 13 [.tmp 2] ref29_Lit_c:=⟨⟨Go.Proofs.Tryz.f31,by kernel_rfl,by kernel_rfl,by kernel_rfl,by kernel_rfl,by kernel_rfl⟩,rfl,rfl⟩
noncomputable def ref29_Lit (a0:Int):Option (Bool):=some (((a0 != 0) && (decide (a0≥(-4096)))) && (decide (a0≤4096)))
theorem ref29_Lit_ok (a0:Int):Ct E 31 [iv a0] (ref29_Lit a0) (fun r:Bool=>bv r):=ct_intro (N:=13) (L:=ref29_Lit_c) ref29_Lit_k rfl (Nat.le_of_ble_eq_true rfl) (by kernel_rfl) (by
 unfold ref29_Lit
 refine jS ⟨[V 0 (iv a0)],[],0⟩ ?_
 refine jS ⟨[V 2 (bv (((a0 != 0) && (decide (a0≥(-4096)))) && (decide (a0≤4096))))],[],0⟩ ?_
 refine jc_ret ?_
 exact jx_retF (.inr rfl) (v:=bv (((a0 != 0) && (decide (a0≥(-4096)))) && (decide (a0≤4096)))) (by kernel_rfl) rfl (fle_refl _))
abbrev ref29_Lits_r1:List LO:=[lo 2 (.assign (.const (.bool false))) 4]
abbrev ref29_Lits_r2:List LO:=[lo 3 (.assign (.const (.int .i64 0))) 3]
abbrev ref29_Lits_r3:List LO:=[lm 4 3 3,lm 5 0 23,lo 6 (.call ⟨.builtin .len,#[.tmp 5],#[23]⟩) 3,lo 7 (.binOp .lss 3 (.tmp 4) (.tmp 6) 3) 4]
abbrev ref29_Lits_r4:List LO:=[lm 10 0 23,lm 11 3 3,lo 12 (.indexAddr 23 (.tmp 10) (.tmp 11)) 0,lo 13 (.load 3 (.tmp 12)) 3,lo 14 (.call ⟨.value (.func 31),#[.tmp 13],#[3]⟩) 4,lo 15 (.unOp .not 4 (.tmp 14)) 4]
abbrev ref29_Lits_r5:List LO:=[lo 2 (.assign (.const (.bool false))) 4]
abbrev ref29_Lits_r6:List LO:=[lm 8 3 3,lo 9 (.binOp .add 3 (.tmp 8) (.const (.int .i64 1)) 3) 3,lo 3 (.assign (.tmp 9)) 3]
abbrev ref29_Lits_r7:List LO:=[lo 2 (.assign (.const (.bool true))) 4]
abbrev ref29_Lits_c:LC:=.seq (.reg false ref29_Lits_r1) (.seq (.seq (.reg false ref29_Lits_r2) (.block 0 (.loop (.seq (.seq (.reg false ref29_Lits_r3) (.cond (.tmp 7) .skip (.exit 0))) (.seq (.block 1 (.seq (.reg false ref29_Lits_r4) (.cond (.tmp 15) (.seq (.reg false ref29_Lits_r5) .ret) .skip))) (.reg false ref29_Lits_r6)))))) (.seq (.reg false ref29_Lits_r7) .ret))
theorem ref29_Lits_k:FnOk E 23 16 [.tmp 2] ref29_Lits_c:=⟨⟨Go.Proofs.Tryz.f23,by kernel_rfl,by kernel_rfl,by kernel_rfl,by kernel_rfl,by kernel_rfl⟩,rfl,rfl⟩
noncomputable def ref29_Lits_l1 (a0:(List Int)):Int→Option (Step (Int) ((Unit) ⊕ (Unit))):=fun x3=>(if (decide (x3 < (List.length a0:Int)))=true then Option.bind (ixl a0 x3) (fun x7=>Option.bind (ref29_Lit x7) (fun x8=>(if (!x8)=true then some (Step.done (Sum.inl ())) else some (Step.next (w64 (x3 + 1)))))) else some (Step.done (Sum.inr ())))
noncomputable def ref29_Lits (a0:(List Int)):Option (Bool):=Option.bind (loopC (ref29_Lits_l1 a0) 0) (fun y=>match y with | Sum.inl _=>some false | Sum.inr _=>some true)
theorem ref29_Lits_ok (a0:(List Int)):Ct E 23 [.fsl 1 (List.map cI a0)] (ref29_Lits a0) (fun r:Bool=>bv r):=ct_intro (N:=16) (L:=ref29_Lits_c) ref29_Lits_k rfl (Nat.le_of_ble_eq_true rfl) (by kernel_rfl) (by
 unfold ref29_Lits
 refine jS ⟨[V 0 (.fsl 1 (List.map cI a0))],[],0⟩ ?_
 refine jc_seq ?_
 refine jS ⟨[V 0 (.fsl 1 (List.map cI a0)),V 3 (iv 0)],[],0⟩ ?_
 refine jc_block ?_
 refine jc_bind (fun y=>match y with | Sum.inl _=>⟨[V 2 (bv false)],[],0⟩ | Sum.inr _=>⟨[],[],0⟩) (fun y=>match y with | Sum.inl _=>.ret | Sum.inr _=>(.exit 0)) (jc_loop (fun x3=>⟨[V 0 (.fsl 1 (List.map cI a0)),V 3 (iv x3)],[],0⟩) (wkR [] (fix_nil _) allp_nil) ?_) ?_
 ·intro x3
  unfold ref29_Lits_l1
  refine jc_seq ?_
  refine jR ?_
  refine jG 0 4 ⟨[V 0 (.fsl 1 (List.map cI a0)),V 3 (iv x3),V 7 (bv (decide (x3 < (List.length (List.map cI a0):Int))))],[],0⟩ ?_
  simp only[List.length_map]
  refine jN ?_
  refine jIf ?_ ?_
  ·refine jc_skip ?_
   refine jx_seqN ?_
   refine jc_seq ?_
   refine jc_block ?_
   refine jR ?_
   refine jG 0 2 ⟨[V 0 (.fsl 1 (List.map cI a0)),V 3 (iv x3),V 10 (.fsl 1 (List.map cI a0)),V 11 (iv x3)],[],0⟩ ?_
   refine jr_part (i:=2) (mo:=ixl a0 x3) rfl rfl rfl rfl (fun _ hc=>aop_ixf (c:=cI) (sz:=1) (e:=3) (kk:=.i64) (by kernel_rfl) (by kernel_rfl) (by kernel_rfl) (by kernel_rfl) hc) (fun _=>rfl) ?_
   intro x7 h7
   refine jG 3 1 ⟨[V 0 (.fsl 1 (List.map cI a0)),V 3 (iv x3),V 13 (iv x7)],[],0⟩ ?_
   refine jK 4 (ref29_Lit_ok x7) ?_
   intro x8 h8
   refine jG 5 1 ⟨[V 0 (.fsl 1 (List.map cI a0)),V 3 (iv x3),V 15 (bv (!x8))],[],0⟩ ?_
   refine jN ?_
   refine jIf ?_ ?_
   ·refine jS ⟨[V 2 (bv false)],[],0⟩ ?_
    refine jc_ret ?_
    refine jx_blkR ?_
    refine jx_seqR ?_
    exact jx_done rfl nofun (wkR [] (fix_nil _) allp_nil)
   refine jc_skip ?_
   refine jx_blkN ?_
   refine jx_seqN ?_
   refine jT ⟨[V 0 (.fsl 1 (List.map cI a0)),V 3 (iv (w64 (x3 + 1)))],[],0⟩ ?_
   exact jx_next (wkR [] (fix_nil _) allp_nil)
  refine jc_exit ?_
  refine jx_seqE ?_
  exact jx_done rfl nofun (wkR [] (fix_nil _) allp_nil)
 rintro (_ | _)
 ·refine jx_blkR ?_
  refine jx_seqR ?_
  exact jx_retF (.inr rfl) (v:=bv false) (by kernel_rfl) rfl (fle_refl _)
 refine jx_blkE ?_
 refine jx_seqN ?_
 refine jS ⟨[V 2 (bv true)],[],0⟩ ?_
 refine jc_ret ?_
 exact jx_retF (.inr rfl) (v:=bv true) (by kernel_rfl) rfl (fle_refl _))
abbrev ref29_marks_is_r1:List LO:=[lo 4 (.assign (.const (.bool false))) 4]
abbrev ref29_marks_is_r2:List LO:=[lm 5 0 41,lm 6 1 3,lo 7 (.binOp .add 3 (.tmp 6) (.const (.int .i64 4096)) 3) 3,lo 8 (.indexAddr 41 (.tmp 5) (.tmp 7)) 0,lo 9 (.load 4 (.tmp 8)) 4,lo 4 (.assign (.tmp 9)) 4]
abbrev ref29_marks_is_c:LC:=.seq (.reg false ref29_marks_is_r1) (.seq (.reg false ref29_marks_is_r2) .ret)
theorem ref29_marks_is_k:FnOk E 21 10 [.tmp 4] ref29_marks_is_c:=⟨⟨Go.Proofs.Tryz.f21,by kernel_rfl,by kernel_rfl,by kernel_rfl,by kernel_rfl,by kernel_rfl⟩,rfl,rfl⟩
noncomputable def ref29_marks_is (a0:(List Bool)) (a1:Int):Option (Bool):=Option.bind (ixl a0 (w64 (a1 + 4096))) (fun x1=>some x1)
theorem ref29_marks_is_ok (a0:(List Bool)) (a1:Int):Ct E 21 [.fsl 1 (List.map cT a0),iv a1] (ref29_marks_is a0 a1) (fun r:Bool=>bv r):=ct_intro (N:=10) (L:=ref29_marks_is_c) ref29_marks_is_k rfl (Nat.le_of_ble_eq_true rfl) (by kernel_rfl) (by
 unfold ref29_marks_is
 refine jS ⟨[V 0 (.fsl 1 (List.map cT a0)),V 1 (iv a1)],[],0⟩ ?_
 refine jR ?_
 refine jG 0 3 ⟨[V 5 (.fsl 1 (List.map cT a0)),V 7 (iv (w64 (a1 + 4096)))],[],0⟩ ?_
 refine jr_part (i:=3) (mo:=ixl a0 (w64 (a1 + 4096))) rfl rfl rfl rfl (fun _ hc=>aop_ixf (c:=cT) (sz:=1) (e:=4) (kk:=.i64) (by kernel_rfl) (by kernel_rfl) (by kernel_rfl) (by kernel_rfl) hc) (fun _=>rfl) ?_
 intro x1 h1
 refine jG 4 2 ⟨[V 4 (bv x1)],[],0⟩ ?_
 refine jN ?_
 refine jc_ret ?_
 exact jx_retF (.inr rfl) (v:=bv x1) (by kernel_rfl) rfl (fle_refl _))
abbrev ref29_marks_open_r1:List LO:=[lo 4 (.assign (.const (.bool false))) 4,lo 5 (.assign (.const (.int .i64 0))) 3,lo 6 (.assign (.const (.int .i64 0))) 3]
abbrev ref29_marks_open_r2:List LO:=[lo 7 (.assign (.const (.int .i64 0))) 3]
abbrev ref29_marks_open_r3:List LO:=[lo 8 (.assign (.const (.int .i64 0))) 3]
abbrev ref29_marks_open_r4:List LO:=[lo 9 (.assign (.const (.int .i64 0))) 3]
abbrev ref29_marks_open_r5:List LO:=[lm 10 9 3,lm 11 1 23,lo 12 (.call ⟨.builtin .len,#[.tmp 11],#[23]⟩) 3,lo 13 (.binOp .lss 3 (.tmp 10) (.tmp 12) 3) 4]
abbrev ref29_marks_open_r6:List LO:=[lm 17 0 41,lm 18 1 23,lm 19 9 3,lo 20 (.indexAddr 23 (.tmp 18) (.tmp 19)) 0,lo 21 (.load 3 (.tmp 20)) 3,lo 22 (.call ⟨.value (.func 21),#[.tmp 17,.tmp 21],#[41,3]⟩) 4,lo 16 (.assign (.tmp 22)) 4]
abbrev ref29_marks_open_r7:List LO:=[lo 4 (.assign (.const (.bool true))) 4,lo 5 (.assign (.const (.int .i64 0))) 3,lo 6 (.assign (.const (.int .i64 0))) 3]
abbrev ref29_marks_open_r8:List LO:=[lm 24 0 41,lm 25 1 23,lm 26 9 3,lo 27 (.indexAddr 23 (.tmp 25) (.tmp 26)) 0,lo 28 (.load 3 (.tmp 27)) 3,lo 29 (.unOp .neg 3 (.tmp 28)) 3,lo 30 (.call ⟨.value (.func 21),#[.tmp 24,.tmp 29],#[41,3]⟩) 4,lo 23 (.assign (.tmp 30)) 4]
abbrev ref29_marks_open_r9:List LO:=[lm 32 7 3,lo 33 (.binOp .eql 3 (.tmp 32) (.const (.int .i64 0)) 3) 4,lm 34 33 4,lmg 35 1 23 34 false,lmg 36 9 3 34 false,lg 37 (.indexAddr 23 (.tmp 35) (.tmp 36)) 0 34 false,lg 38 (.load 3 (.tmp 37)) 3 34 false,lmg 39 8 3 34 false,lg 40 (.binOp .neq 3 (.tmp 38) (.tmp 39) 3) 4 34 false,lo 41 (.pick (.tmp 34) (.const (.bool true)) (.tmp 40)) 4,lo 31 (.assign (.tmp 41)) 4]
abbrev ref29_marks_open_r10:List LO:=[lm 42 7 3,lo 43 (.binOp .add 3 (.tmp 42) (.const (.int .i64 1)) 3) 3,lo 7 (.assign (.tmp 43)) 3]
abbrev ref29_marks_open_r11:List LO:=[lm 44 1 23,lm 45 9 3,lo 46 (.indexAddr 23 (.tmp 44) (.tmp 45)) 0,lo 47 (.load 3 (.tmp 46)) 3,lo 8 (.assign (.tmp 47)) 3]
abbrev ref29_marks_open_r12:List LO:=[lm 14 9 3,lo 15 (.binOp .add 3 (.tmp 14) (.const (.int .i64 1)) 3) 3,lo 9 (.assign (.tmp 15)) 3]
abbrev ref29_marks_open_r13:List LO:=[lm 48 7 3,lm 49 8 3,lo 4 (.assign (.const (.bool false))) 4,lo 5 (.assign (.tmp 48)) 3,lo 6 (.assign (.tmp 49)) 3]
abbrev ref29_marks_open_c:LC:=.seq (.reg false ref29_marks_open_r1) (.seq (.reg false ref29_marks_open_r2) (.seq (.reg false ref29_marks_open_r3) (.seq (.seq (.reg false ref29_marks_open_r4) (.block 0 (.loop (.seq (.seq (.reg false ref29_marks_open_r5) (.cond (.tmp 13) .skip (.exit 0))) (.seq (.block 1 (.block 2 (.seq (.reg false ref29_marks_open_r6) (.cond (.tmp 16) (.seq (.reg false ref29_marks_open_r7) .ret) (.seq (.reg false ref29_marks_open_r8) (.cond (.tmp 23) .skip (.seq (.reg false ref29_marks_open_r9) (.cond (.tmp 31) (.seq (.reg false ref29_marks_open_r10) (.reg false ref29_marks_open_r11)) .skip)))))))) (.reg false ref29_marks_open_r12)))))) (.seq (.reg false ref29_marks_open_r13) .ret))))
theorem ref29_marks_open_k:FnOk E 51 50 [.tmp 4,.tmp 5,.tmp 6] ref29_marks_open_c:=⟨⟨Go.Proofs.Tryz.f51,by kernel_rfl,by kernel_rfl,by kernel_rfl,by kernel_rfl,by kernel_rfl⟩,rfl,rfl⟩
noncomputable def ref29_marks_open_l1 (a0:(List Bool)) (a1:(List Int)):(Int × Int × Int)→Option (Step (Int × Int × Int) ((Unit) ⊕ (Int × Int))):=fun (x8,x9,x10)=>(if (decide (x10 < (List.length a1:Int)))=true then Option.bind (Option.bind (ixl a1 x10) (fun x34=>Option.bind (ref29_marks_is a0 x34) (fun x35=>(if x35=true then some (Sum.inl ()) else Option.bind (ixl a1 x10) (fun x36=>Option.bind (ref29_marks_is a0 (w64 (0 - x36))) (fun x37=>(if x37=true then some (Sum.inr (x8,x9)) else Option.bind (if (x8 == 0)=true then some true else Option.bind (ixl a1 x10) (fun x40=>some (x40 != x9)):Option (Bool)) (fun x39=>(if x39=true then Option.bind (ixl a1 x10) (fun x41=>some (Sum.inr ((w64 (x8 + 1)),x41))) else some (Sum.inr (x8,x9)))))))))):Option ((Unit) ⊕ (Int × Int))) (fun y=>match y with | Sum.inl _=>some (Step.done (Sum.inl ())) | Sum.inr (x32,x33)=>some (Step.next (x32,x33,(w64 (x10 + 1))))) else some (Step.done (Sum.inr (x8,x9))))
noncomputable def ref29_marks_open (a0:(List Bool)) (a1:(List Int)):Option (Bool × Int × Int):=Option.bind (loopC (ref29_marks_open_l1 a0 a1) (0,0,0)) (fun y=>match y with | Sum.inl _=>some (true,0,0) | Sum.inr (x23,x24)=>some (false,x23,x24))
theorem ref29_marks_open_ok (a0:(List Bool)) (a1:(List Int)):Ct E 51 [.fsl 1 (List.map cT a0),.fsl 1 (List.map cI a1)] (ref29_marks_open a0 a1) (fun r:Bool × Int × Int=>.tup [bv r.1,iv r.2.1,iv r.2.2]):=ct_intro (N:=50) (L:=ref29_marks_open_c) ref29_marks_open_k rfl (Nat.le_of_ble_eq_true rfl) (by kernel_rfl) (by
 unfold ref29_marks_open
 refine jS ⟨[V 0 (.fsl 1 (List.map cT a0)),V 1 (.fsl 1 (List.map cI a1))],[],0⟩ ?_
 refine jS ⟨[V 0 (.fsl 1 (List.map cT a0)),V 1 (.fsl 1 (List.map cI a1)),V 7 (iv 0)],[],0⟩ ?_
 refine jS ⟨[V 0 (.fsl 1 (List.map cT a0)),V 1 (.fsl 1 (List.map cI a1)),V 7 (iv 0),V 8 (iv 0)],[],0⟩ ?_
 refine jc_seq ?_
 refine jS ⟨[V 0 (.fsl 1 (List.map cT a0)),V 1 (.fsl 1 (List.map cI a1)),V 7 (iv 0),V 8 (iv 0),V 9 (iv 0)],[],0⟩ ?_
 refine jc_block ?_
 refine jc_bind (fun y=>match y with | Sum.inl _=>⟨[V 4 (bv true),V 5 (iv 0),V 6 (iv 0)],[],0⟩ | Sum.inr (x23,x24)=>⟨[V 7 (iv x23),V 8 (iv x24)],[],0⟩) (fun y=>match y with | Sum.inl _=>.ret | Sum.inr (x23,x24)=>(.exit 0)) (jc_loop (fun (x8,x9,x10)=>⟨[V 0 (.fsl 1 (List.map cT a0)),V 1 (.fsl 1 (List.map cI a1)),V 7 (iv x8),V 8 (iv x9),V 9 (iv x10)],[],0⟩) (wkR [] (fix_nil _) allp_nil) ?_) ?_
 ·rintro⟨x8,x9,x10⟩
  unfold ref29_marks_open_l1
  refine jc_seq ?_
  refine jR ?_
  refine jG 0 4 ⟨[V 0 (.fsl 1 (List.map cT a0)),V 1 (.fsl 1 (List.map cI a1)),V 7 (iv x8),V 8 (iv x9),V 9 (iv x10),V 13 (bv (decide (x10 < (List.length (List.map cI a1):Int))))],[],0⟩ ?_
  simp only[List.length_map]
  refine jN ?_
  refine jIf ?_ ?_
  ·refine jc_skip ?_
   refine jx_seqN ?_
   refine jc_seq ?_
   refine jc_bind (fun y=>match y with | Sum.inl _=>⟨[V 4 (bv true),V 5 (iv 0),V 6 (iv 0)],[],0⟩ | Sum.inr (x32,x33)=>⟨[V 0 (.fsl 1 (List.map cT a0)),V 1 (.fsl 1 (List.map cI a1)),V 7 (iv x32),V 8 (iv x33),V 9 (iv x10)],[],0⟩) (fun y=>match y with | Sum.inl _=>.ret | Sum.inr (x32,x33)=>.normal) ?_ ?_
   ·refine jc_block ?_
    refine jc_block ?_
    refine jR ?_
    refine jG 0 3 ⟨[V 0 (.fsl 1 (List.map cT a0)),V 1 (.fsl 1 (List.map cI a1)),V 7 (iv x8),V 8 (iv x9),V 9 (iv x10),V 17 (.fsl 1 (List.map cT a0)),V 18 (.fsl 1 (List.map cI a1)),V 19 (iv x10)],[],0⟩ ?_
    refine jr_part (i:=3) (mo:=ixl a1 x10) rfl rfl rfl rfl (fun _ hc=>aop_ixf (c:=cI) (sz:=1) (e:=3) (kk:=.i64) (by kernel_rfl) (by kernel_rfl) (by kernel_rfl) (by kernel_rfl) hc) (fun _=>rfl) ?_
    intro x34 h34
    refine jG 4 1 ⟨[V 0 (.fsl 1 (List.map cT a0)),V 1 (.fsl 1 (List.map cI a1)),V 7 (iv x8),V 8 (iv x9),V 9 (iv x10),V 17 (.fsl 1 (List.map cT a0)),V 21 (iv x34)],[],0⟩ ?_
    refine jK 5 (ref29_marks_is_ok a0 x34) ?_
    intro x35 h35
    refine jG 6 1 ⟨[V 0 (.fsl 1 (List.map cT a0)),V 1 (.fsl 1 (List.map cI a1)),V 7 (iv x8),V 8 (iv x9),V 9 (iv x10),V 16 (bv x35)],[],0⟩ ?_
    refine jN ?_
    refine jIf ?_ ?_
    ·refine jS ⟨[V 4 (bv true),V 5 (iv 0),V 6 (iv 0)],[],0⟩ ?_
     refine jc_ret ?_
     refine jx_blkR ?_
     refine jx_blkR ?_
     exact jx_mid rfl (wkR [] (fix_nil _) allp_nil)
    refine jR ?_
    refine jG 0 3 ⟨[V 0 (.fsl 1 (List.map cT a0)),V 1 (.fsl 1 (List.map cI a1)),V 7 (iv x8),V 8 (iv x9),V 9 (iv x10),V 24 (.fsl 1 (List.map cT a0)),V 25 (.fsl 1 (List.map cI a1)),V 26 (iv x10)],[],0⟩ ?_
    refine jr_part (i:=3) (mo:=ixl a1 x10) rfl rfl rfl rfl (fun _ hc=>aop_ixf (c:=cI) (sz:=1) (e:=3) (kk:=.i64) (by kernel_rfl) (by kernel_rfl) (by kernel_rfl) (by kernel_rfl) hc) (fun _=>rfl) ?_
    intro x36 h36
    refine jG 4 2 ⟨[V 0 (.fsl 1 (List.map cT a0)),V 1 (.fsl 1 (List.map cI a1)),V 7 (iv x8),V 8 (iv x9),V 9 (iv x10),V 24 (.fsl 1 (List.map cT a0)),V 29 (iv (w64 (0 - x36)))],[],0⟩ ?_
    refine jK 6 (ref29_marks_is_ok a0 (w64 (0 - x36))) ?_
    intro x37 h37
    refine jG 7 1 ⟨[V 0 (.fsl 1 (List.map cT a0)),V 1 (.fsl 1 (List.map cI a1)),V 7 (iv x8),V 8 (iv x9),V 9 (iv x10),V 23 (bv x37)],[],0⟩ ?_
    refine jN ?_
    refine jIf ?_ ?_
    ·refine jc_skip ?_
     refine jx_blkN ?_
     refine jx_blkN ?_
     exact jx_mid rfl (wkR [] (fix_nil _) allp_nil)
    refine jR ?_
    refine jG 0 3 ⟨[V 0 (.fsl 1 (List.map cT a0)),V 1 (.fsl 1 (List.map cI a1)),V 7 (iv x8),V 8 (iv x9),V 9 (iv x10),V 34 (bv (x8 == 0))],[],0⟩ ?_
    refine jr_bind 3 7 (fun x39=>⟨[V 0 (.fsl 1 (List.map cT a0)),V 1 (.fsl 1 (List.map cI a1)),V 7 (iv x8),V 8 (iv x9),V 9 (iv x10),V 41 (bv x39)],[],0⟩) ?_ ?_
    ·refine jSp 34 ?_ ?_
     ·refine jG 0 7 ⟨[V 0 (.fsl 1 (List.map cT a0)),V 1 (.fsl 1 (List.map cI a1)),V 7 (iv x8),V 8 (iv x9),V 9 (iv x10),V 41 (bv true)],[],0⟩ ?_
      refine jr_nil rfl ?_
      exact jx_mid rfl (wkR [] (fix_nil _) allp_nil)
     refine jG 0 2 ⟨[V 0 (.fsl 1 (List.map cT a0)),V 1 (.fsl 1 (List.map cI a1)),V 7 (iv x8),V 8 (iv x9),V 9 (iv x10),(34,.lit false),V 35 (.fsl 1 (List.map cI a1)),V 36 (iv x10)],[],0⟩ ?_
     refine jr_part (i:=2) (mo:=ixl a1 x10) rfl rfl rfl rfl (fun _ hc=>aop_ixf (c:=cI) (sz:=1) (e:=3) (kk:=.i64) (by kernel_rfl) (by kernel_rfl) (by kernel_rfl) (by kernel_rfl) hc) (fun _=>rfl) ?_
     intro x40 h40
     refine jG 3 4 ⟨[V 0 (.fsl 1 (List.map cT a0)),V 1 (.fsl 1 (List.map cI a1)),V 7 (iv x8),V 8 (iv x9),V 9 (iv x10),V 41 (bv (x40 != x9))],[],0⟩ ?_
     refine jr_nil rfl ?_
     exact jx_mid rfl (wkR [] (fix_nil _) allp_nil)
    intro x39
    refine jG 10 1 ⟨[V 0 (.fsl 1 (List.map cT a0)),V 1 (.fsl 1 (List.map cI a1)),V 7 (iv x8),V 8 (iv x9),V 9 (iv x10),V 31 (bv x39)],[],0⟩ ?_
    refine jN ?_
    refine jIf ?_ ?_
    ·refine jS ⟨[V 0 (.fsl 1 (List.map cT a0)),V 1 (.fsl 1 (List.map cI a1)),V 7 (iv (w64 (x8 + 1))),V 9 (iv x10)],[],0⟩ ?_
     refine jc_reg ?_
     refine jG 0 2 ⟨[V 0 (.fsl 1 (List.map cT a0)),V 1 (.fsl 1 (List.map cI a1)),V 7 (iv (w64 (x8 + 1))),V 9 (iv x10),V 44 (.fsl 1 (List.map cI a1)),V 45 (iv x10)],[],0⟩ ?_
     refine jr_part (i:=2) (mo:=ixl a1 x10) rfl rfl rfl rfl (fun _ hc=>aop_ixf (c:=cI) (sz:=1) (e:=3) (kk:=.i64) (by kernel_rfl) (by kernel_rfl) (by kernel_rfl) (by kernel_rfl) hc) (fun _=>rfl) ?_
     intro x41 h41
     refine jG 3 2 ⟨[V 0 (.fsl 1 (List.map cT a0)),V 1 (.fsl 1 (List.map cI a1)),V 7 (iv (w64 (x8 + 1))),V 8 (iv x41),V 9 (iv x10)],[],0⟩ ?_
     refine jr_nil rfl ?_
     refine jx_blkN ?_
     refine jx_blkN ?_
     exact jx_mid rfl (wkR [] (fix_nil _) allp_nil)
    refine jc_skip ?_
    refine jx_blkN ?_
    refine jx_blkN ?_
    exact jx_mid rfl (wkR [] (fix_nil _) allp_nil)
   rintro (_ | ⟨x32,x33⟩)
   ·refine jx_seqR ?_
    exact jx_done rfl nofun (wkR [] (fix_nil _) allp_nil)
   refine jx_seqN ?_
   refine jT ⟨[V 0 (.fsl 1 (List.map cT a0)),V 1 (.fsl 1 (List.map cI a1)),V 7 (iv x32),V 8 (iv x33),V 9 (iv (w64 (x10 + 1)))],[],0⟩ ?_
   exact jx_next (wkR [] (fix_nil _) allp_nil)
  refine jc_exit ?_
  refine jx_seqE ?_
  exact jx_done rfl nofun (wkR [] (fix_nil _) allp_nil)
 rintro (_ | ⟨x23,x24⟩)
 ·refine jx_blkR ?_
  refine jx_seqR ?_
  exact jx_retF (.inr rfl) (v:=.tup [bv true,iv 0,iv 0]) (by kernel_rfl) rfl (fle_refl _)
 refine jx_blkE ?_
 refine jx_seqN ?_
 refine jS ⟨[V 4 (bv false),V 5 (iv x23),V 6 (iv x24)],[],0⟩ ?_
 refine jc_ret ?_
 exact jx_retF (.inr rfl) (v:=.tup [bv false,iv x23,iv x24]) (by kernel_rfl) rfl (fle_refl _))
abbrev ref29_marks_set_r1:List LO:=[lm 4 0 41,lm 5 1 3,lo 6 (.binOp .add 3 (.tmp 5) (.const (.int .i64 4096)) 3) 3,lo 7 (.indexAddr 41 (.tmp 4) (.tmp 6)) 0,ln (.store 4 (.tmp 7) (.const (.bool true))) 0]
abbrev ref29_marks_set_c:LC:=.reg false ref29_marks_set_r1
theorem ref29_marks_set_k:FnOk E 32 8 [] ref29_marks_set_c:=⟨⟨Go.Proofs.Tryz.f32,by kernel_rfl,by kernel_rfl,by kernel_rfl,by kernel_rfl,by kernel_rfl⟩,rfl,rfl⟩
abbrev ref29_marks_set_T (a0:List Bool) (a1:Int) (r:Unit):CS:=⟨[],[(0,.rows 1 (List.map cT (List.set a0 (Int.toNat (w64 (a1 + 4096))) true)))],1⟩
noncomputable def ref29_marks_set (a0:List Bool) (a1:Int):Option (Unit):=Option.bind (ixl a0 (w64 (a1 + 4096))) (fun x2=>some ())
theorem ref29_marks_set_ok (a0:List Bool) (a1:Int):CtM E 32 [.osl 0 0 (List.length a0) 1,iv a1] [(0,.rows 1 (List.map cT a0))] 1 (ref29_marks_set a0 a1) (fun r:Unit=>.tup []) (fun r:Unit=>[(0,.rows 1 (List.map cT (List.set a0 (Int.toNat (w64 (a1 + 4096))) true)))]) 1:=ctm_intro (N:=8) (L:=ref29_marks_set_c) ref29_marks_set_k rfl (Nat.le_of_ble_eq_true rfl) (fun F hF=>by
 unfold ref29_marks_set
 refine jc_reg ?_
 refine jG 0 3 ⟨[V 4 (.osl 0 0 (List.length a0) 1),V 6 (iv (w64 (a1 + 4096)))],[(0,.rows 1 (List.map cT a0))],1⟩ ?_
 refine jr_part (i:=3) (mo:=ixl a0 (w64 (a1 + 4096))) rfl rfl rfl rfl (fun _ hc=>aop_ixo0 (sz:=1) (e:=4) (kk:=.i64) (id:=0) (by kernel_rfl) (by kernel_rfl) (by kernel_rfl) (by kernel_rfl) hc) (fun _=>rfl) ?_
 intro x2 h2
 refine jr_sto (i:=4) [] [0] (st1:=⟨[],[(0,.rows 1 (List.map cT (List.set a0 (Int.toNat (w64 (a1 + 4096))) true)))],1⟩) rfl rfl rfl rfl (aop_sto (l:=a0) (c:=cT) (id:=0) (k:=(Int.toNat (w64 (a1 + 4096)))) (sz:=1) (off:=0) (a:=x2) (a':=true) (w:=bv true) (cs:=[bv true]) (by kernel_rfl) (by kernel_rfl) (by kernel_rfl) (by kernel_rfl) (by kernel_rfl) (ixl_lt h2).2.2 (Nat.le_of_ble_eq_true rfl) (by kernel_rfl)) (by simp only[List.length_set]; kernel_rfl) ?_
 refine jr_nil rfl ?_
 exact jx_retM (ref29_marks_set_T a0 a1 ()) (.inl rfl) (wkR [(0,some 0)] (fix_of hF (k:=1) rfl) (pc (hL 0 (noid_map ni_T _)) allp_nil)))
abbrev ref29_marks_spread_r1:List LO:=[lo 4 (.assign (.const (.bool false))) 4]
abbrev ref29_marks_spread_r2:List LO:=[lo 5 (.assign (.const (.bool true))) 4]
abbrev ref29_marks_spread_r3:List LO:=[lm 10 5 4]
abbrev ref29_marks_spread_r4:List LO:=[lo 5 (.assign (.const (.bool false))) 4]
abbrev ref29_marks_spread_r5:List LO:=[lo 6 (.assign (.const (.int .i64 0))) 3]
abbrev ref29_marks_spread_r6:List LO:=[lm 11 6 3,lm 12 1 22,lo 13 (.call ⟨.builtin .len,#[.tmp 12],#[22]⟩) 3,lo 14 (.binOp .lss 3 (.tmp 11) (.tmp 13) 3) 4]
abbrev ref29_marks_spread_r7:List LO:=[lm 17 1 22,lm 18 6 3,lo 19 (.indexAddr 22 (.tmp 17) (.tmp 18)) 0,lo 20 (.load 23 (.tmp 19)) 23,lo 21 (.call ⟨.value (.func 23),#[.tmp 20],#[23]⟩) 4,lo 22 (.unOp .not 4 (.tmp 21)) 4]
abbrev ref29_marks_spread_r8:List LO:=[lm 24 0 41,lm 25 1 22,lm 26 6 3,lo 27 (.indexAddr 22 (.tmp 25) (.tmp 26)) 0,lo 28 (.load 23 (.tmp 27)) 23,lo 29 (.call ⟨.value (.func 51),#[.tmp 24,.tmp 28],#[41,23]⟩) 81,lm 23 29 81,lo 30 (.extract (.tmp 23) 0) 4,lo 31 (.extract (.tmp 23) 1) 3,lo 32 (.extract (.tmp 23) 2) 3,lo 7 (.assign (.tmp 30)) 4,lo 8 (.assign (.tmp 31)) 3,lo 9 (.assign (.tmp 32)) 3]
abbrev ref29_marks_spread_r9:List LO:=[lm 37 7 4,lm 38 37 4,lmg 39 8 3 38 false,lg 40 (.binOp .gtr 3 (.tmp 39) (.const (.int .i64 1)) 3) 4 38 false,lo 41 (.pick (.tmp 38) (.const (.bool true)) (.tmp 40)) 4,lo 36 (.assign (.tmp 41)) 4]
abbrev ref29_marks_spread_r10:List LO:=[lm 43 8 3,lo 44 (.binOp .eql 3 (.tmp 43) (.const (.int .i64 0)) 3) 4,lo 42 (.assign (.tmp 44)) 4]
abbrev ref29_marks_spread_r11:List LO:=[lo 4 (.assign (.const (.bool true))) 4]
abbrev ref29_marks_spread_r12:List LO:=[lm 33 0 41,lm 34 9 3,lo 35 (.call ⟨.value (.func 32),#[.tmp 33,.tmp 34],#[41,3]⟩) 0]
abbrev ref29_marks_spread_r13:List LO:=[lo 5 (.assign (.const (.bool true))) 4]
abbrev ref29_marks_spread_r14:List LO:=[lm 15 6 3,lo 16 (.binOp .add 3 (.tmp 15) (.const (.int .i64 1)) 3) 3,lo 6 (.assign (.tmp 16)) 3]
abbrev ref29_marks_spread_r15:List LO:=[lo 4 (.assign (.const (.bool false))) 4]
abbrev ref29_marks_spread_c:LC:=.seq (.reg false ref29_marks_spread_r1) (.seq (.seq (.reg false ref29_marks_spread_r2) (.block 0 (.loop (.seq (.seq (.reg false ref29_marks_spread_r3) (.cond (.tmp 10) .skip (.exit 0))) (.block 1 (.seq (.reg false ref29_marks_spread_r4) (.seq (.reg false ref29_marks_spread_r5) (.block 2 (.loop (.seq (.seq (.reg false ref29_marks_spread_r6) (.cond (.tmp 14) .skip (.exit 2))) (.seq (.block 3 (.seq (.seq (.reg false ref29_marks_spread_r7) (.cond (.tmp 22) (.exit 3) .skip)) (.seq (.reg false ref29_marks_spread_r8) (.block 4 (.seq (.reg false ref29_marks_spread_r9) (.cond (.tmp 36) .skip (.seq (.reg false ref29_marks_spread_r10) (.cond (.tmp 42) (.seq (.reg false ref29_marks_spread_r11) .ret) (.seq (.reg false ref29_marks_spread_r12) (.reg false ref29_marks_spread_r13)))))))))) (.reg false ref29_marks_spread_r14)))))))))))) (.seq (.reg false ref29_marks_spread_r15) .ret))
theorem ref29_marks_spread_k:FnOk E 33 45 [.tmp 4] ref29_marks_spread_c:=⟨⟨Go.Proofs.Tryz.f33,by kernel_rfl,by kernel_rfl,by kernel_rfl,by kernel_rfl,by kernel_rfl⟩,rfl,rfl⟩
noncomputable def ref29_marks_spread_l1 (a1:List (List Int)):(List Bool × Bool × Int)→Option (Step (List Bool × Bool × Int) ((List Bool) ⊕ (List Bool × Bool))):=fun (x105,x106,x107)=>(if (decide (x107 < (List.length a1:Int)))=true then Option.bind (Option.bind (ixl a1 x107) (fun x126=>Option.bind (ref29_Lits x126) (fun x127=>(if (!x127)=true then some (Sum.inl (x105,x106)) else Option.bind (ixl a1 x107) (fun x128=>Option.bind (ref29_marks_open x105 x128) (fun x129=>(if (x129.1 || (decide (x129.2.1 > 1)))=true then some (Sum.inl (x105,x106)) else (if (x129.2.1 == 0)=true then some (Sum.inr ()) else Option.bind (ref29_marks_set x105 x129.2.2) (fun _=>some (Sum.inl ((List.set x105 (Int.toNat (w64 (x129.2.2 + 4096))) true),true)))))))))):Option ((List Bool × Bool) ⊕ (Unit))) (fun y=>match y with | Sum.inl (x124,x125)=>some (Step.next (x124,x125,(w64 (x107 + 1)))) | Sum.inr _=>some (Step.done (Sum.inl x105))) else some (Step.done (Sum.inr (x105,x106))))
noncomputable def ref29_marks_spread_l2 (a1:List (List Int)):(List Bool × Bool)→Option (Step (List Bool × Bool) ((List Bool) ⊕ (List Bool))):=fun (x72,x73)=>(if x73=true then Option.bind (loopC (ref29_marks_spread_l1 a1) (x72,false,0)) (fun y=>match y with | Sum.inl x117=>some (Step.done (Sum.inl x117)) | Sum.inr (x118,x119)=>some (Step.next (x118,x119))) else some (Step.done (Sum.inr x72)))
abbrev ref29_marks_spread_T (a0:List Bool) (a1:List (List Int)) (r:Bool × List Bool):CS:=⟨[V 4 (bv r.1)],[(0,.rows 1 (List.map cT r.2))],1⟩
noncomputable def ref29_marks_spread (a0:List Bool) (a1:List (List Int)):Option (Bool × List Bool):=Option.bind (loopC (ref29_marks_spread_l2 a1) (a0,true)) (fun y=>match y with | Sum.inl x97=>some (true,x97) | Sum.inr x98=>some (false,x98))
theorem ref29_marks_spread_ok (a0:List Bool) (a1:List (List Int)):CtM E 33 [.osl 0 0 (List.length a0) 1,.fsl 1 (List.map c_L3 a1)] [(0,.rows 1 (List.map cT a0))] 1 (ref29_marks_spread a0 a1) (fun r:Bool × List Bool=>bv r.1) (fun r:Bool × List Bool=>[(0,.rows 1 (List.map cT r.2))]) 1:=ctm_intro (N:=45) (L:=ref29_marks_spread_c) ref29_marks_spread_k rfl (Nat.le_of_ble_eq_true rfl) (fun F hF=>by
 unfold ref29_marks_spread
 refine jS ⟨[V 0 (.osl 0 0 (List.length a0) 1),V 1 (.fsl 1 (List.map c_L3 a1))],[(0,.rows 1 (List.map cT a0))],1⟩ ?_
 refine jc_seq ?_
 refine jS ⟨[V 0 (.osl 0 0 (List.length a0) 1),V 1 (.fsl 1 (List.map c_L3 a1)),V 5 (bv true)],[(0,.rows 1 (List.map cT a0))],1⟩ ?_
 refine jc_block ?_
 refine jc_bind (fun y=>match y with | Sum.inl x97=>⟨[V 4 (bv true)],[(0,.rows 1 (List.map cT x97))],1⟩ | Sum.inr x98=>⟨[],[(0,.rows 1 (List.map cT x98))],1⟩) (fun y=>match y with | Sum.inl x97=>.ret | Sum.inr x98=>(.exit 0)) (jc_loop (fun (x72,x73)=>⟨[V 0 (.osl 0 0 (List.length x72) 1),V 1 (.fsl 1 (List.map c_L3 a1)),V 5 (bv x73)],[(0,.rows 1 (List.map cT x72))],1⟩) (wkR [(0,some 0)] (fix_of hF (k:=1) rfl) (pc (hL 0 (noid_map ni_T _)) allp_nil)) ?_) ?_
 ·rintro⟨x72,x73⟩
  unfold ref29_marks_spread_l2
  refine jc_seq ?_
  refine jS ⟨[V 0 (.osl 0 0 (List.length x72) 1),V 1 (.fsl 1 (List.map c_L3 a1)),V 10 (bv x73)],[(0,.rows 1 (List.map cT x72))],1⟩ ?_
  refine jIf ?_ ?_
  ·refine jc_skip ?_
   refine jx_seqN ?_
   refine jc_block ?_
   refine jS ⟨[V 0 (.osl 0 0 (List.length x72) 1),V 1 (.fsl 1 (List.map c_L3 a1)),V 5 (bv false)],[(0,.rows 1 (List.map cT x72))],1⟩ ?_
   refine jS ⟨[V 0 (.osl 0 0 (List.length x72) 1),V 1 (.fsl 1 (List.map c_L3 a1)),V 5 (bv false),V 6 (iv 0)],[(0,.rows 1 (List.map cT x72))],1⟩ ?_
   refine jc_block ?_
   refine jc_bind (fun y=>match y with | Sum.inl x117=>⟨[V 4 (bv true)],[(0,.rows 1 (List.map cT x117))],1⟩ | Sum.inr (x118,x119)=>⟨[V 0 (.osl 0 0 (List.length x118) 1),V 1 (.fsl 1 (List.map c_L3 a1)),V 5 (bv x119)],[(0,.rows 1 (List.map cT x118))],1⟩) (fun y=>match y with | Sum.inl x117=>.ret | Sum.inr (x118,x119)=>(.exit 2)) (jc_loop (fun (x105,x106,x107)=>⟨[V 0 (.osl 0 0 (List.length x105) 1),V 1 (.fsl 1 (List.map c_L3 a1)),V 5 (bv x106),V 6 (iv x107)],[(0,.rows 1 (List.map cT x105))],1⟩) (wkR [(0,some 0)] (fix_of hF (k:=1) rfl) (pc (hL 0 (noid_map ni_T _)) allp_nil)) ?_) ?_
   ·rintro⟨x105,x106,x107⟩
    unfold ref29_marks_spread_l1
    refine jc_seq ?_
    refine jR ?_
    refine jG 0 4 ⟨[V 0 (.osl 0 0 (List.length x105) 1),V 1 (.fsl 1 (List.map c_L3 a1)),V 5 (bv x106),V 6 (iv x107),V 14 (bv (decide (x107 < (List.length (List.map c_L3 a1):Int))))],[(0,.rows 1 (List.map cT x105))],1⟩ ?_
    simp only[List.length_map]
    refine jN ?_
    refine jIf ?_ ?_
    ·refine jc_skip ?_
     refine jx_seqN ?_
     refine jc_seq ?_
     refine jc_bind (fun y=>match y with | Sum.inl (x124,x125)=>⟨[V 0 (.osl 0 0 (List.length x124) 1),V 1 (.fsl 1 (List.map c_L3 a1)),V 5 (bv x125),V 6 (iv x107)],[(0,.rows 1 (List.map cT x124))],1⟩ | Sum.inr _=>⟨[V 4 (bv true)],[(0,.rows 1 (List.map cT x105))],1⟩) (fun y=>match y with | Sum.inl (x124,x125)=>.normal | Sum.inr _=>.ret) ?_ ?_
     ·refine jc_block ?_
      refine jc_seq ?_
      refine jR ?_
      refine jG 0 2 ⟨[V 0 (.osl 0 0 (List.length x105) 1),V 1 (.fsl 1 (List.map c_L3 a1)),V 5 (bv x106),V 6 (iv x107),V 17 (.fsl 1 (List.map c_L3 a1)),V 18 (iv x107)],[(0,.rows 1 (List.map cT x105))],1⟩ ?_
      refine jr_part (i:=2) (mo:=ixl a1 x107) rfl rfl rfl rfl (fun _ hc=>aop_ixf (c:=c_L3) (sz:=1) (e:=23) (kk:=.i64) (by kernel_rfl) (by kernel_rfl) (by kernel_rfl) (by kernel_rfl) hc) (fun _=>rfl) ?_
      intro x126 h126
      refine jG 3 1 ⟨[V 0 (.osl 0 0 (List.length x105) 1),V 1 (.fsl 1 (List.map c_L3 a1)),V 5 (bv x106),V 6 (iv x107),V 20 (.fsl 1 (List.map cI x126))],[(0,.rows 1 (List.map cT x105))],1⟩ ?_
      refine jK 4 (ref29_Lits_ok x126) ?_
      intro x127 h127
      refine jG 5 1 ⟨[V 0 (.osl 0 0 (List.length x105) 1),V 1 (.fsl 1 (List.map c_L3 a1)),V 5 (bv x106),V 6 (iv x107),V 22 (bv (!x127))],[(0,.rows 1 (List.map cT x105))],1⟩ ?_
      refine jN ?_
      refine jIf ?_ ?_
      ·refine jc_exit ?_
       refine jx_seqE ?_
       refine jx_blkE ?_
       exact jx_mid rfl (wkR [(0,some 0)] (fix_of hF (k:=1) rfl) (pc (hL 0 (noid_map ni_T _)) allp_nil))
      refine jc_skip ?_
      refine jx_seqN ?_
      refine jR ?_
      refine jG 0 3 ⟨[V 0 (.osl 0 0 (List.length x105) 1),V 1 (.fsl 1 (List.map c_L3 a1)),V 5 (bv x106),V 6 (iv x107),V 24 (.osl 0 0 (List.length x105) 1),V 25 (.fsl 1 (List.map c_L3 a1)),V 26 (iv x107)],[(0,.rows 1 (List.map cT x105))],1⟩ ?_
      refine jr_part (i:=3) (mo:=ixl a1 x107) rfl rfl rfl rfl (fun _ hc=>aop_ixf (c:=c_L3) (sz:=1) (e:=23) (kk:=.i64) (by kernel_rfl) (by kernel_rfl) (by kernel_rfl) (by kernel_rfl) hc) (fun _=>rfl) ?_
      intro x128 h128
      refine jG 4 1 ⟨[V 0 (.osl 0 0 (List.length x105) 1),V 1 (.fsl 1 (List.map c_L3 a1)),V 5 (bv x106),V 6 (iv x107),V 24 (.osl 0 0 (List.length x105) 1),V 28 (.fsl 1 (List.map cI x128))],[(0,.rows 1 (List.map cT x105))],1⟩ ?_
      refine jr_callF (i:=5) rfl rfl rfl rfl (vs:=[.osl 0 0 (List.length x105) 1,.fsl 1 (List.map cI x128)]) (by kernel_rfl) (snapL_cons (snapc_own fz_T (by kernel_rfl)) (snapL_cons rfl (snapL_nil _))) (all2_cons (fle_refl _) (all2_cons (fle_refl _) all2_nil)) (ref29_marks_open_ok x105 x128) (fun _=>rfl) (fun _=>rfl) ?_
      intro x129 h129
      refine jG 6 7 ⟨[V 0 (.osl 0 0 (List.length x105) 1),V 1 (.fsl 1 (List.map c_L3 a1)),V 5 (bv x106),V 6 (iv x107),V 7 (bv x129.1),V 8 (iv x129.2.1),V 9 (iv x129.2.2)],[(0,.rows 1 (List.map cT x105))],1⟩ ?_
      refine jN ?_
      refine jc_block ?_
      refine jS ⟨[V 0 (.osl 0 0 (List.length x105) 1),V 1 (.fsl 1 (List.map c_L3 a1)),V 5 (bv x106),V 6 (iv x107),V 8 (iv x129.2.1),V 9 (iv x129.2.2),V 36 (bv (x129.1 || (decide (x129.2.1 > 1))))],[(0,.rows 1 (List.map cT x105))],1⟩ ?_
      refine jIf ?_ ?_
      ·refine jc_skip ?_
       refine jx_blkN ?_
       refine jx_blkN ?_
       exact jx_mid rfl (wkR [(0,some 0)] (fix_of hF (k:=1) rfl) (pc (hL 0 (noid_map ni_T _)) allp_nil))
      refine jS ⟨[V 0 (.osl 0 0 (List.length x105) 1),V 1 (.fsl 1 (List.map c_L3 a1)),V 6 (iv x107),V 9 (iv x129.2.2),V 42 (bv (x129.2.1 == 0))],[(0,.rows 1 (List.map cT x105))],1⟩ ?_
      refine jIf ?_ ?_
      ·refine jS ⟨[V 4 (bv true)],[(0,.rows 1 (List.map cT x105))],1⟩ ?_
       refine jc_ret ?_
       refine jx_blkR ?_
       refine jx_blkR ?_
       exact jx_mid rfl (wkR [(0,some 0)] (fix_of hF (k:=1) rfl) (pc (hL 0 (noid_map ni_T _)) allp_nil))
      refine jR ?_
      refine jG 0 2 ⟨[V 0 (.osl 0 0 (List.length x105) 1),V 1 (.fsl 1 (List.map c_L3 a1)),V 6 (iv x107),V 33 (.osl 0 0 (List.length x105) 1),V 34 (iv x129.2.2)],[(0,.rows 1 (List.map cT x105))],1⟩ ?_
      refine jr_callM 2 [(0,some 0)] [(0,some 0)] (fun r:Unit=>[(0,.rows 1 (List.map cT (List.set x105 (Int.toNat (w64 (x129.2.2 + 4096))) true)))]) (fun r:Unit=>.tup []) 1 (ref29_marks_set_ok x105 x129.2.2) (pc (hL 0 (noid_map ni_T _)) allp_nil) (fun r=>(pc (.inr (hL 0 (noid_map ni_T _))) allp_nil)) ?_
      rintro⟨⟩ hm12
      rw[show List.length x105=List.length (List.set x105 (Int.toNat (w64 (x129.2.2 + 4096))) true) from List.length_set.symm]
      refine jN ?_
      refine jT ⟨[V 0 (.osl 0 0 (List.length (List.set x105 (Int.toNat (w64 (x129.2.2 + 4096))) true)) 1),V 1 (.fsl 1 (List.map c_L3 a1)),V 5 (bv true),V 6 (iv x107)],[(0,.rows 1 (List.map cT (List.set x105 (Int.toNat (w64 (x129.2.2 + 4096))) true)))],1⟩ ?_
      refine jx_blkN ?_
      refine jx_blkN ?_
      exact jx_mid rfl (wkR [(0,some 0)] (fix_of hF (k:=1) rfl) (pc (hL 0 (noid_map ni_T _)) allp_nil))
     rintro (⟨x124,x125⟩ | _)
     ·refine jx_seqN ?_
      refine jT ⟨[V 0 (.osl 0 0 (List.length x124) 1),V 1 (.fsl 1 (List.map c_L3 a1)),V 5 (bv x125),V 6 (iv (w64 (x107 + 1)))],[(0,.rows 1 (List.map cT x124))],1⟩ ?_
      exact jx_next (wkR [(0,some 0)] (fix_of hF (k:=1) rfl) (pc (hL 0 (noid_map ni_T _)) allp_nil))
     refine jx_seqR ?_
     exact jx_done rfl nofun (wkR [(0,some 0)] (fix_of hF (k:=1) rfl) (pc (hL 0 (noid_map ni_T _)) allp_nil))
    refine jc_exit ?_
    refine jx_seqE ?_
    exact jx_done rfl nofun (wkR [(0,some 0)] (fix_of hF (k:=1) rfl) (pc (hL 0 (noid_map ni_T _)) allp_nil))
   rintro (x117 | ⟨x118,x119⟩)
   ·refine jx_blkR ?_
    refine jx_blkR ?_
    exact jx_done rfl nofun (wkR [(0,some 0)] (fix_of hF (k:=1) rfl) (pc (hL 0 (noid_map ni_T _)) allp_nil))
   refine jx_blkE ?_
   refine jx_blkN ?_
   exact jx_next (wkR [(0,some 0)] (fix_of hF (k:=1) rfl) (pc (hL 0 (noid_map ni_T _)) allp_nil))
  refine jc_exit ?_
  refine jx_seqE ?_
  exact jx_done rfl nofun (wkR [(0,some 0)] (fix_of hF (k:=1) rfl) (pc (hL 0 (noid_map ni_T _)) allp_nil))
 rintro (x97 | x98)
 ·refine jx_blkR ?_
  refine jx_seqR ?_
  exact jx_retM (ref29_marks_spread_T a0 a1 (true,x97)) (.inr rfl) (wkR [(0,some 0)] (fix_of hF (k:=1) rfl) (pc (hL 0 (noid_map ni_T _)) allp_nil))
 refine jx_blkE ?_
 refine jx_seqN ?_
 refine jS ⟨[V 4 (bv false)],[(0,.rows 1 (List.map cT x98))],1⟩ ?_
 refine jc_ret ?_
 exact jx_retM (ref29_marks_spread_T a0 a1 (false,x98)) (.inr rfl) (wkR [(0,some 0)] (fix_of hF (k:=1) rfl) (pc (hL 0 (noid_map ni_T _)) allp_nil)))
theorem loopC_keep29 {σ τ:Type} {F:σ→Option (Step σ τ)} (I:σ→Prop) (Q:τ→Prop) (h:∀ x,I x→(∀ y,F x=some (.next y)→I y)∧(∀ t,F x=some (.done t)→Q t)) {x:σ} {t:τ} (hx:I x) (ht:loopC F x=some t):Q t:=by
  obtain⟨k,hk⟩:=loopC_iff.1 ht
  clear ht
  induction k generalizing x with
  | zero=>cases hk
  | succ k ih=>
    simp only[loopN] at hk
    cases hf:F x with
    | none=>rw[hf] at hk; cases hk
    | some s=>
      rw[hf] at hk
      cases s with
      | next y=>exact ih ((h x hx).1 y hf) hk
      | done t'=>cases hk; exact (h x hx).2 _ hf
def spLen1:List Bool ⊕ (List Bool × Bool)→Nat
  | .inl l=>l.length
  | .inr p=>p.1.length
def spLen2:List Bool ⊕ List Bool→Nat
  | .inl l=>l.length
  | .inr l=>l.length
theorem ref29_marks_spread_len1 {a1:List (List Int)} {n:Nat} {x:List Bool × Bool × Int} {t:List Bool ⊕ (List Bool × Bool)} (hx:x.1.length=n) (ht:loopC (ref29_marks_spread_l1 a1) x=some t):spLen1 t=n:=by
  refine loopC_keep29 (fun x=>x.1.length=n) (fun t=>spLen1 t=n) (fun⟨x,b,i⟩ hx=>?_) hx ht
  simp only at hx
  unfold ref29_marks_spread_l1
  simp only
  split
  · constructor
    · intro y hy
      obtain⟨z,h1,h2⟩:=Option.bind_eq_some_iff.1 hy
      cases z with
      | inr _=>cases h2
      | inl p=>
        cases h2
        obtain⟨_,_,h1⟩:=Option.bind_eq_some_iff.1 h1
        obtain⟨_,_,h1⟩:=Option.bind_eq_some_iff.1 h1
        split at h1
        · cases h1; exact hx
        · obtain⟨_,_,h1⟩:=Option.bind_eq_some_iff.1 h1
          obtain⟨_,_,h1⟩:=Option.bind_eq_some_iff.1 h1
          split at h1
          · cases h1; exact hx
          · split at h1
            · cases h1
            · obtain⟨_,_,h1⟩:=Option.bind_eq_some_iff.1 h1
              cases h1
              simp only[List.length_set]
              exact hx
    · intro t ht
      obtain⟨z,h1,h2⟩:=Option.bind_eq_some_iff.1 ht
      cases z with
      | inr _=>cases h2; exact hx
      | inl p=>cases h2
  · exact⟨fun y hy=>(by cases hy),fun t ht=>(by cases ht; exact hx)⟩
theorem ref29_marks_spread_len {a0:List Bool} {a1:List (List Int)} {r:Bool × List Bool} (h:ref29_marks_spread a0 a1=some r):r.2.length=a0.length:=by
  unfold ref29_marks_spread at h
  obtain⟨z,h1,h2⟩:=Option.bind_eq_some_iff.1 h
  have key:=loopC_keep29 (fun x:List Bool × Bool=>x.1.length=a0.length) (fun t:List Bool ⊕ List Bool=>spLen2 t=a0.length) (fun⟨x,b⟩ hx=>by
    simp only at hx
    unfold ref29_marks_spread_l2
    simp only
    split
    · constructor
      · intro y hy
        obtain⟨z,h3,h4⟩:=Option.bind_eq_some_iff.1 hy
        have:=ref29_marks_spread_len1 hx h3
        cases z with
        | inl _=>cases h4
        | inr p=>cases h4; exact this
      · intro t ht
        obtain⟨z,h3,h4⟩:=Option.bind_eq_some_iff.1 ht
        have:=ref29_marks_spread_len1 hx h3
        cases z with
        | inl _=>cases h4; exact this
        | inr p=>cases h4
    · exact⟨fun y hy=>(by cases hy),fun t ht=>(by cases ht; exact hx)⟩) rfl h1
  cases z with
  | inl _=>cases h2; exact key
  | inr _=>cases h2; exact key
abbrev ref29_units_r1:List LO:=[lo 4 (.assign (.const (.slice none 0 0))) 41,lo 5 (.assign (.const (.bool false))) 4]
abbrev ref29_units_r2:List LO:=[lo 8 (.makeSlice 41 (.const (.int .i64 8193)) (.const (.int .i64 8193))) 41,lo 6 (.assign (.tmp 8)) 41]
abbrev ref29_units_r3:List LO:=[lo 7 (.assign (.const (.int .i64 0))) 3]
abbrev ref29_units_r4:List LO:=[lm 9 7 3,lm 10 1 23,lo 11 (.call ⟨.builtin .len,#[.tmp 10],#[23]⟩) 3,lo 12 (.binOp .lss 3 (.tmp 9) (.tmp 11) 3) 4]
abbrev ref29_units_r5:List LO:=[lm 15 1 23,lm 16 7 3,lo 17 (.indexAddr 23 (.tmp 15) (.tmp 16)) 0,lo 18 (.load 3 (.tmp 17)) 3,lo 19 (.call ⟨.value (.func 31),#[.tmp 18],#[3]⟩) 4,lo 20 (.unOp .not 4 (.tmp 19)) 4]
abbrev ref29_units_r6:List LO:=[lm 21 6 41,lm 22 1 23,lm 23 7 3,lo 24 (.indexAddr 23 (.tmp 22) (.tmp 23)) 0,lo 25 (.load 3 (.tmp 24)) 3,lo 26 (.unOp .neg 3 (.tmp 25)) 3,lo 27 (.call ⟨.value (.func 21),#[.tmp 21,.tmp 26],#[41,3]⟩) 4]
abbrev ref29_units_r7:List LO:=[lm 28 6 41,lo 4 (.assign (.tmp 28)) 41,lo 5 (.assign (.const (.bool true))) 4]
abbrev ref29_units_r8:List LO:=[lm 29 6 41,lm 30 1 23,lm 31 7 3,lo 32 (.indexAddr 23 (.tmp 30) (.tmp 31)) 0,lo 33 (.load 3 (.tmp 32)) 3,lo 34 (.call ⟨.value (.func 32),#[.tmp 29,.tmp 33],#[41,3]⟩) 0]
abbrev ref29_units_r9:List LO:=[lm 13 7 3,lo 14 (.binOp .add 3 (.tmp 13) (.const (.int .i64 1)) 3) 3,lo 7 (.assign (.tmp 14)) 3]
abbrev ref29_units_r10:List LO:=[lm 35 6 41,lm 36 6 41,lm 37 0 22,lo 38 (.call ⟨.value (.func 33),#[.tmp 36,.tmp 37],#[41,22]⟩) 4,lo 4 (.assign (.tmp 35)) 41,lo 5 (.assign (.tmp 38)) 4]
abbrev ref29_units_c:LC:=.seq (.reg false ref29_units_r1) (.seq (.reg false ref29_units_r2) (.seq (.seq (.reg false ref29_units_r3) (.block 0 (.loop (.seq (.seq (.reg false ref29_units_r4) (.cond (.tmp 12) .skip (.exit 0))) (.seq (.block 1 (.seq (.seq (.reg false ref29_units_r5) (.cond (.tmp 20) (.exit 1) .skip)) (.seq (.seq (.reg false ref29_units_r6) (.cond (.tmp 27) (.seq (.reg false ref29_units_r7) .ret) .skip)) (.reg false ref29_units_r8)))) (.reg false ref29_units_r9)))))) (.seq (.reg false ref29_units_r10) .ret)))
theorem ref29_units_k:FnOk E 20 39 [.tmp 4,.tmp 5] ref29_units_c:=⟨⟨Go.Proofs.Tryz.f20,by kernel_rfl,by kernel_rfl,by kernel_rfl,by kernel_rfl,by kernel_rfl⟩,rfl,rfl⟩
noncomputable def ref29_units_l1 (a1:List Int):(List Bool × Int)→Option (Step (List Bool × Int) ((List Bool) ⊕ (List Bool))):=fun (x31,x32)=>(if (decide (x32 < (List.length a1:Int)))=true then Option.bind (Option.bind (ixl a1 x32) (fun x49=>Option.bind (ref29_Lit x49) (fun x50=>(if (!x50)=true then some (Sum.inl x31) else Option.bind (ixl a1 x32) (fun x51=>Option.bind (ref29_marks_is x31 (w64 (0 - x51))) (fun x52=>(if x52=true then some (Sum.inr ()) else Option.bind (ixl a1 x32) (fun x53=>Option.bind (ref29_marks_set x31 x53) (fun _=>some (Sum.inl (List.set x31 (Int.toNat (w64 (x53 + 4096))) true)))))))))):Option ((List Bool) ⊕ (Unit))) (fun y=>match y with | Sum.inl x48=>some (Step.next (x48,(w64 (x32 + 1)))) | Sum.inr _=>some (Step.done (Sum.inl x31))) else some (Step.done (Sum.inr x31)))
abbrev ref29_units_T (a0:List (List Int)) (a1:List Int) (r:List Bool × Bool):CS:=⟨[V 4 (.osl 0 0 (List.length r.1) 1),V 5 (bv r.2)],[(0,.rows 1 (List.map cT r.1))],1⟩
noncomputable def ref29_units (a0:List (List Int)) (a1:List Int):Option (List Bool × Bool):=Option.bind (mkl 1 (false:Bool) 8193 8193) (fun x24=>Option.bind (loopC (ref29_units_l1 a1) (x24,0)) (fun y=>match y with | Sum.inl x41=>some (x41,true) | Sum.inr x42=>Option.bind (ref29_marks_spread x42 a0) (fun (x54,x55)=>some (x55,x54))))
theorem ref29_units_ok (a0:List (List Int)) (a1:List Int):CtM E 20 [.fsl 1 (List.map c_L3 a0),.fsl 1 (List.map cI a1)] [] 0 (ref29_units a0 a1) (fun r:List Bool × Bool=>.tup [.osl 0 0 (List.length r.1) 1,bv r.2]) (fun r:List Bool × Bool=>[(0,.rows 1 (List.map cT r.1))]) 1:=ctm_intro (N:=39) (L:=ref29_units_c) ref29_units_k rfl (Nat.le_of_ble_eq_true rfl) (fun F hF=>by
 unfold ref29_units
 refine jS ⟨[V 0 (.fsl 1 (List.map c_L3 a0)),V 1 (.fsl 1 (List.map cI a1))],[],0⟩ ?_
 refine jR ?_
 refine jr_part (i:=0) (mo:=mkl 1 (false:Bool) 8193 8193) rfl rfl rfl rfl (fun _ hc=>aop_mks (e:=4) (sz:=1) (b:=1) (cc:=cT) (kk:=.i64) (kc:=.i64) (by kernel_rfl) (by kernel_rfl) (by kernel_rfl) (by kernel_rfl) (by kernel_rfl) hc) (fun _=>rfl) ?_
 intro x24 h24
 refine jG 1 1 ⟨[V 0 (.fsl 1 (List.map c_L3 a0)),V 1 (.fsl 1 (List.map cI a1)),V 6 (.osl 0 0 (List.length x24) 1)],[(0,.rows 1 (List.map cT x24))],1⟩ ?_
 refine jN ?_
 refine jc_seq ?_
 refine jS ⟨[V 0 (.fsl 1 (List.map c_L3 a0)),V 1 (.fsl 1 (List.map cI a1)),V 6 (.osl 0 0 (List.length x24) 1),V 7 (iv 0)],[(0,.rows 1 (List.map cT x24))],1⟩ ?_
 refine jc_block ?_
 refine jc_bind (fun y=>match y with | Sum.inl x41=>⟨[V 4 (.osl 0 0 (List.length x41) 1),V 5 (bv true)],[(0,.rows 1 (List.map cT x41))],1⟩ | Sum.inr x42=>⟨[V 0 (.fsl 1 (List.map c_L3 a0)),V 6 (.osl 0 0 (List.length x42) 1)],[(0,.rows 1 (List.map cT x42))],1⟩) (fun y=>match y with | Sum.inl x41=>.ret | Sum.inr x42=>(.exit 0)) (jc_loop (fun (x31,x32)=>⟨[V 0 (.fsl 1 (List.map c_L3 a0)),V 1 (.fsl 1 (List.map cI a1)),V 6 (.osl 0 0 (List.length x31) 1),V 7 (iv x32)],[(0,.rows 1 (List.map cT x31))],1⟩) (wkR [(0,some 0)] (fix_of hF (k:=0) rfl) (pc (hL 0 (noid_map ni_T _)) allp_nil)) ?_) ?_
 ·rintro⟨x31,x32⟩
  unfold ref29_units_l1
  refine jc_seq ?_
  refine jR ?_
  refine jG 0 4 ⟨[V 0 (.fsl 1 (List.map c_L3 a0)),V 1 (.fsl 1 (List.map cI a1)),V 6 (.osl 0 0 (List.length x31) 1),V 7 (iv x32),V 12 (bv (decide (x32 < (List.length (List.map cI a1):Int))))],[(0,.rows 1 (List.map cT x31))],1⟩ ?_
  simp only[List.length_map]
  refine jN ?_
  refine jIf ?_ ?_
  ·refine jc_skip ?_
   refine jx_seqN ?_
   refine jc_seq ?_
   refine jc_bind (fun y=>match y with | Sum.inl x48=>⟨[V 0 (.fsl 1 (List.map c_L3 a0)),V 1 (.fsl 1 (List.map cI a1)),V 6 (.osl 0 0 (List.length x48) 1),V 7 (iv x32)],[(0,.rows 1 (List.map cT x48))],1⟩ | Sum.inr _=>⟨[V 4 (.osl 0 0 (List.length x31) 1),V 5 (bv true)],[(0,.rows 1 (List.map cT x31))],1⟩) (fun y=>match y with | Sum.inl x48=>.normal | Sum.inr _=>.ret) ?_ ?_
   ·refine jc_block ?_
    refine jc_seq ?_
    refine jR ?_
    refine jG 0 2 ⟨[V 0 (.fsl 1 (List.map c_L3 a0)),V 1 (.fsl 1 (List.map cI a1)),V 6 (.osl 0 0 (List.length x31) 1),V 7 (iv x32),V 15 (.fsl 1 (List.map cI a1)),V 16 (iv x32)],[(0,.rows 1 (List.map cT x31))],1⟩ ?_
    refine jr_part (i:=2) (mo:=ixl a1 x32) rfl rfl rfl rfl (fun _ hc=>aop_ixf (c:=cI) (sz:=1) (e:=3) (kk:=.i64) (by kernel_rfl) (by kernel_rfl) (by kernel_rfl) (by kernel_rfl) hc) (fun _=>rfl) ?_
    intro x49 h49
    refine jG 3 1 ⟨[V 0 (.fsl 1 (List.map c_L3 a0)),V 1 (.fsl 1 (List.map cI a1)),V 6 (.osl 0 0 (List.length x31) 1),V 7 (iv x32),V 18 (iv x49)],[(0,.rows 1 (List.map cT x31))],1⟩ ?_
    refine jK 4 (ref29_Lit_ok x49) ?_
    intro x50 h50
    refine jG 5 1 ⟨[V 0 (.fsl 1 (List.map c_L3 a0)),V 1 (.fsl 1 (List.map cI a1)),V 6 (.osl 0 0 (List.length x31) 1),V 7 (iv x32),V 20 (bv (!x50))],[(0,.rows 1 (List.map cT x31))],1⟩ ?_
    refine jN ?_
    refine jIf ?_ ?_
    ·refine jc_exit ?_
     refine jx_seqE ?_
     refine jx_blkE ?_
     exact jx_mid rfl (wkR [(0,some 0)] (fix_of hF (k:=0) rfl) (pc (hL 0 (noid_map ni_T _)) allp_nil))
    refine jc_skip ?_
    refine jx_seqN ?_
    refine jc_seq ?_
    refine jR ?_
    refine jG 0 3 ⟨[V 0 (.fsl 1 (List.map c_L3 a0)),V 1 (.fsl 1 (List.map cI a1)),V 6 (.osl 0 0 (List.length x31) 1),V 7 (iv x32),V 21 (.osl 0 0 (List.length x31) 1),V 22 (.fsl 1 (List.map cI a1)),V 23 (iv x32)],[(0,.rows 1 (List.map cT x31))],1⟩ ?_
    refine jr_part (i:=3) (mo:=ixl a1 x32) rfl rfl rfl rfl (fun _ hc=>aop_ixf (c:=cI) (sz:=1) (e:=3) (kk:=.i64) (by kernel_rfl) (by kernel_rfl) (by kernel_rfl) (by kernel_rfl) hc) (fun _=>rfl) ?_
    intro x51 h51
    refine jG 4 2 ⟨[V 0 (.fsl 1 (List.map c_L3 a0)),V 1 (.fsl 1 (List.map cI a1)),V 6 (.osl 0 0 (List.length x31) 1),V 7 (iv x32),V 21 (.osl 0 0 (List.length x31) 1),V 26 (iv (w64 (0 - x51)))],[(0,.rows 1 (List.map cT x31))],1⟩ ?_
    refine jr_callF (i:=6) rfl rfl rfl rfl (vs:=[.osl 0 0 (List.length x31) 1,iv (w64 (0 - x51))]) (by kernel_rfl) (snapL_cons (snapc_own fz_T (by kernel_rfl)) (snapL_cons rfl (snapL_nil _))) (all2_cons (fle_refl _) (all2_cons (fle_refl _) all2_nil)) (ref29_marks_is_ok x31 (w64 (0 - x51))) (fun _=>rfl) (fun _=>rfl) ?_
    intro x52 h52
    refine jN ?_
    refine jIf ?_ ?_
    ·refine jS ⟨[V 4 (.osl 0 0 (List.length x31) 1),V 5 (bv true)],[(0,.rows 1 (List.map cT x31))],1⟩ ?_
     refine jc_ret ?_
     refine jx_seqR ?_
     refine jx_blkR ?_
     exact jx_mid rfl (wkR [(0,some 0)] (fix_of hF (k:=0) rfl) (pc (hL 0 (noid_map ni_T _)) allp_nil))
    refine jc_skip ?_
    refine jx_seqN ?_
    refine jc_reg ?_
    refine jG 0 3 ⟨[V 0 (.fsl 1 (List.map c_L3 a0)),V 1 (.fsl 1 (List.map cI a1)),V 6 (.osl 0 0 (List.length x31) 1),V 7 (iv x32),V 29 (.osl 0 0 (List.length x31) 1),V 30 (.fsl 1 (List.map cI a1)),V 31 (iv x32)],[(0,.rows 1 (List.map cT x31))],1⟩ ?_
    refine jr_part (i:=3) (mo:=ixl a1 x32) rfl rfl rfl rfl (fun _ hc=>aop_ixf (c:=cI) (sz:=1) (e:=3) (kk:=.i64) (by kernel_rfl) (by kernel_rfl) (by kernel_rfl) (by kernel_rfl) hc) (fun _=>rfl) ?_
    intro x53 h53
    refine jG 4 1 ⟨[V 0 (.fsl 1 (List.map c_L3 a0)),V 1 (.fsl 1 (List.map cI a1)),V 6 (.osl 0 0 (List.length x31) 1),V 7 (iv x32),V 29 (.osl 0 0 (List.length x31) 1),V 33 (iv x53)],[(0,.rows 1 (List.map cT x31))],1⟩ ?_
    refine jr_callM 5 [(0,some 0)] [(0,some 0)] (fun r:Unit=>[(0,.rows 1 (List.map cT (List.set x31 (Int.toNat (w64 (x53 + 4096))) true)))]) (fun r:Unit=>.tup []) 1 (ref29_marks_set_ok x31 x53) (pc (hL 0 (noid_map ni_T _)) allp_nil) (fun r=>(pc (.inr (hL 0 (noid_map ni_T _))) allp_nil)) ?_
    rintro⟨⟩ hm7
    rw[show List.length x31=List.length (List.set x31 (Int.toNat (w64 (x53 + 4096))) true) from List.length_set.symm]
    refine jr_nil rfl ?_
    refine jx_blkN ?_
    exact jx_mid rfl (wkR [(0,some 0)] (fix_of hF (k:=0) rfl) (pc (hL 0 (noid_map ni_T _)) allp_nil))
   rintro (x48 | _)
   ·refine jx_seqN ?_
    refine jT ⟨[V 0 (.fsl 1 (List.map c_L3 a0)),V 1 (.fsl 1 (List.map cI a1)),V 6 (.osl 0 0 (List.length x48) 1),V 7 (iv (w64 (x32 + 1)))],[(0,.rows 1 (List.map cT x48))],1⟩ ?_
    exact jx_next (wkR [(0,some 0)] (fix_of hF (k:=0) rfl) (pc (hL 0 (noid_map ni_T _)) allp_nil))
   refine jx_seqR ?_
   exact jx_done rfl nofun (wkR [(0,some 0)] (fix_of hF (k:=0) rfl) (pc (hL 0 (noid_map ni_T _)) allp_nil))
  refine jc_exit ?_
  refine jx_seqE ?_
  exact jx_done rfl nofun (wkR [(0,some 0)] (fix_of hF (k:=0) rfl) (pc (hL 0 (noid_map ni_T _)) allp_nil))
 rintro (x41 | x42)
 ·refine jx_blkR ?_
  refine jx_seqR ?_
  exact jx_retM (ref29_units_T a0 a1 (x41,true)) (.inr rfl) (wkR [(0,some 0)] (fix_of hF (k:=0) rfl) (pc (hL 0 (noid_map ni_T _)) allp_nil))
 refine jx_blkE ?_
 refine jx_seqN ?_
 refine jR ?_
 refine jG 0 3 ⟨[V 35 (.osl 0 0 (List.length x42) 1),V 36 (.osl 0 0 (List.length x42) 1),V 37 (.fsl 1 (List.map c_L3 a0))],[(0,.rows 1 (List.map cT x42))],1⟩ ?_
 refine jr_callM 3 [(0,some 0)] [(0,some 0)] (fun r:Bool × List Bool=>[(0,.rows 1 (List.map cT r.2))]) (fun r:Bool × List Bool=>bv r.1) 1 (ref29_marks_spread_ok x42 a0) (pc (hL 0 (noid_map ni_T _)) allp_nil) (fun r=>(pc (.inr (hL 0 (noid_map ni_T _))) allp_nil)) ?_
 rintro⟨x54,x55⟩ hm8
 try rw[← ref29_marks_spread_len hm8]
 refine jG 4 2 ⟨[V 4 (.osl 0 0 (List.length x55) 1),V 5 (bv x54)],[(0,.rows 1 (List.map cT x55))],1⟩ ?_
 refine jN ?_
 refine jc_ret ?_
 exact jx_retM (ref29_units_T a0 a1 (x55,x54)) (.inr rfl) (wkR [(0,some 0)] (fix_of hF (k:=0) rfl) (pc (hL 0 (noid_map ni_T _)) allp_nil)))
abbrev ref29_units_m8296_r1:List LO:=[lo 4 (.assign (.const (.slice none 0 0))) 41,lo 5 (.assign (.const (.bool false))) 4]
abbrev ref29_units_m8296_r2:List LO:=[lo 8 (.makeSlice 41 (.const (.int .i64 8193)) (.const (.int .i64 8193))) 41,lo 6 (.assign (.tmp 8)) 41]
abbrev ref29_units_m8296_r3:List LO:=[lo 7 (.assign (.const (.int .i64 0))) 3]
abbrev ref29_units_m8296_r4:List LO:=[lm 9 7 3,lm 10 1 23,lo 11 (.call ⟨.builtin .len,#[.tmp 10],#[23]⟩) 3,lo 12 (.binOp .lss 3 (.tmp 9) (.tmp 11) 3) 4]
abbrev ref29_units_m8296_r5:List LO:=[lm 15 1 23,lm 16 7 3,lo 17 (.indexAddr 23 (.tmp 15) (.tmp 16)) 0,lo 18 (.load 3 (.tmp 17)) 3,lo 19 (.call ⟨.value (.func 31),#[.tmp 18],#[3]⟩) 4,lo 20 (.unOp .not 4 (.tmp 19)) 4]
abbrev ref29_units_m8296_r6:List LO:=[lm 21 6 41,lm 22 1 23,lm 23 7 3,lo 24 (.indexAddr 23 (.tmp 22) (.tmp 23)) 0,lo 25 (.load 3 (.tmp 24)) 3,lo 26 (.unOp .neg 3 (.tmp 25)) 3,lo 27 (.call ⟨.value (.func 21),#[.tmp 21,.tmp 26],#[41,3]⟩) 4]
abbrev ref29_units_m8296_r7:List LO:=[lm 28 6 41,lo 4 (.assign (.tmp 28)) 41,lo 5 (.assign (.const (.bool true))) 4]
abbrev ref29_units_m8296_r8:List LO:=[lm 29 6 41,lm 30 1 23,lm 31 7 3,lo 32 (.indexAddr 23 (.tmp 30) (.tmp 31)) 0,lo 33 (.load 3 (.tmp 32)) 3,lo 34 (.call ⟨.value (.func 32),#[.tmp 29,.tmp 33],#[41,3]⟩) 0]
abbrev ref29_units_m8296_r9:List LO:=[lm 13 7 3,lo 14 (.binOp .add 3 (.tmp 13) (.const (.int .i64 1)) 3) 3,lo 7 (.assign (.tmp 14)) 3]
abbrev ref29_units_m8296_r10:List LO:=[lm 35 6 41,lm 36 6 41,lm 37 0 22,lo 38 (.call ⟨.value (.func 33),#[.tmp 36,.tmp 37],#[41,22]⟩) 4,lo 4 (.assign (.tmp 35)) 41,lo 5 (.assign (.tmp 38)) 4]
abbrev ref29_units_m8296_c:LC:=.seq (.reg false ref29_units_m8296_r1) (.seq (.reg false ref29_units_m8296_r2) (.seq (.seq (.reg false ref29_units_m8296_r3) (.block 0 (.loop (.seq (.seq (.reg false ref29_units_m8296_r4) (.cond (.tmp 12) .skip (.exit 0))) (.seq (.block 1 (.seq (.seq (.reg false ref29_units_m8296_r5) (.cond (.tmp 20) (.exit 1) .skip)) (.seq (.seq (.reg false ref29_units_m8296_r6) (.cond (.tmp 27) (.seq (.reg false ref29_units_m8296_r7) .ret) .skip)) (.reg false ref29_units_m8296_r8)))) (.reg false ref29_units_m8296_r9)))))) (.seq (.reg false ref29_units_m8296_r10) .ret)))
theorem ref29_units_m8296_k:FnOk E 20 39 [.tmp 4,.tmp 5] ref29_units_m8296_c:=⟨⟨Go.Proofs.Tryz.f20,by kernel_rfl,by kernel_rfl,by kernel_rfl,by kernel_rfl,by kernel_rfl⟩,rfl,rfl⟩
noncomputable def ref29_units_m8296_l1 (a1:List Int):(List Bool × Int)→Option (Step (List Bool × Int) ((List Bool) ⊕ (List Bool))):=fun (x31,x32)=>(if (decide (x32 < (List.length a1:Int)))=true then Option.bind (Option.bind (ixl a1 x32) (fun x49=>Option.bind (ref29_Lit x49) (fun x50=>(if (!x50)=true then some (Sum.inl x31) else Option.bind (ixl a1 x32) (fun x51=>Option.bind (ref29_marks_is x31 (w64 (0 - x51))) (fun x52=>(if x52=true then some (Sum.inr ()) else Option.bind (ixl a1 x32) (fun x53=>Option.bind (ref29_marks_set x31 x53) (fun _=>some (Sum.inl (List.set x31 (Int.toNat (w64 (x53 + 4096))) true)))))))))):Option ((List Bool) ⊕ (Unit))) (fun y=>match y with | Sum.inl x48=>some (Step.next (x48,(w64 (x32 + 1)))) | Sum.inr _=>some (Step.done (Sum.inl x31))) else some (Step.done (Sum.inr x31)))
abbrev ref29_units_m8296_T (a0:List (List Int)) (a1:List Int) (r:List Bool × Bool):CS:=⟨[V 4 (.osl 1 0 (List.length r.1) 1),V 5 (bv r.2)],[(0,.rows 1 (List.map cI a1)),(1,.rows 1 (List.map cT r.1))],2⟩
noncomputable def ref29_units_m8296 (a0:List (List Int)) (a1:List Int):Option (List Bool × Bool):=Option.bind (mkl 1 (false:Bool) 8193 8193) (fun x24=>Option.bind (loopC (ref29_units_m8296_l1 a1) (x24,0)) (fun y=>match y with | Sum.inl x41=>some (x41,true) | Sum.inr x42=>Option.bind (ref29_marks_spread x42 a0) (fun (x54,x55)=>some (x55,x54))))
theorem ref29_units_m8296_ok (a0:List (List Int)) (a1:List Int):CtM E 20 [.fsl 1 (List.map c_L3 a0),.osl 0 0 (List.length a1) 1] [(0,.rows 1 (List.map cI a1))] 1 (ref29_units_m8296 a0 a1) (fun r:List Bool × Bool=>.tup [.osl 1 0 (List.length r.1) 1,bv r.2]) (fun r:List Bool × Bool=>[(0,.rows 1 (List.map cI a1)),(1,.rows 1 (List.map cT r.1))]) 2:=ctm_intro (N:=39) (L:=ref29_units_m8296_c) ref29_units_m8296_k rfl (Nat.le_of_ble_eq_true rfl) (fun F hF=>by
 unfold ref29_units_m8296
 refine jS ⟨[V 0 (.fsl 1 (List.map c_L3 a0)),V 1 (.osl 0 0 (List.length a1) 1)],[(0,.rows 1 (List.map cI a1))],1⟩ ?_
 refine jR ?_
 refine jr_part (i:=0) (mo:=mkl 1 (false:Bool) 8193 8193) rfl rfl rfl rfl (fun _ hc=>aop_mks (e:=4) (sz:=1) (b:=1) (cc:=cT) (kk:=.i64) (kc:=.i64) (by kernel_rfl) (by kernel_rfl) (by kernel_rfl) (by kernel_rfl) (by kernel_rfl) hc) (fun _=>rfl) ?_
 intro x24 h24
 refine jG 1 1 ⟨[V 0 (.fsl 1 (List.map c_L3 a0)),V 1 (.osl 0 0 (List.length a1) 1),V 6 (.osl 1 0 (List.length x24) 1)],[(0,.rows 1 (List.map cI a1)),(1,.rows 1 (List.map cT x24))],2⟩ ?_
 refine jN ?_
 refine jc_seq ?_
 refine jS ⟨[V 0 (.fsl 1 (List.map c_L3 a0)),V 1 (.osl 0 0 (List.length a1) 1),V 6 (.osl 1 0 (List.length x24) 1),V 7 (iv 0)],[(0,.rows 1 (List.map cI a1)),(1,.rows 1 (List.map cT x24))],2⟩ ?_
 refine jc_block ?_
 refine jc_bind (fun y=>match y with | Sum.inl x41=>⟨[V 4 (.osl 1 0 (List.length x41) 1),V 5 (bv true)],[(0,.rows 1 (List.map cI a1)),(1,.rows 1 (List.map cT x41))],2⟩ | Sum.inr x42=>⟨[V 0 (.fsl 1 (List.map c_L3 a0)),V 6 (.osl 1 0 (List.length x42) 1)],[(0,.rows 1 (List.map cI a1)),(1,.rows 1 (List.map cT x42))],2⟩) (fun y=>match y with | Sum.inl x41=>.ret | Sum.inr x42=>(.exit 0)) (jc_loop (fun (x31,x32)=>⟨[V 0 (.fsl 1 (List.map c_L3 a0)),V 1 (.osl 0 0 (List.length a1) 1),V 6 (.osl 1 0 (List.length x31) 1),V 7 (iv x32)],[(0,.rows 1 (List.map cI a1)),(1,.rows 1 (List.map cT x31))],2⟩) (wkR [(0,some 0),(1,some 1)] (fix_of hF (k:=1) rfl) (pc (hL 0 (noid_map ni_I _)) (pc (hL 1 (noid_map ni_T _)) allp_nil))) ?_) ?_
 ·rintro⟨x31,x32⟩
  unfold ref29_units_m8296_l1
  refine jc_seq ?_
  refine jS ⟨[V 0 (.fsl 1 (List.map c_L3 a0)),V 1 (.osl 0 0 (List.length a1) 1),V 6 (.osl 1 0 (List.length x31) 1),V 7 (iv x32),V 12 (bv (decide (x32 < (List.length a1:Int))))],[(0,.rows 1 (List.map cI a1)),(1,.rows 1 (List.map cT x31))],2⟩ ?_
  refine jIf ?_ ?_
  ·refine jc_skip ?_
   refine jx_seqN ?_
   refine jc_seq ?_
   refine jc_bind (fun y=>match y with | Sum.inl x48=>⟨[V 0 (.fsl 1 (List.map c_L3 a0)),V 1 (.osl 0 0 (List.length a1) 1),V 6 (.osl 1 0 (List.length x48) 1),V 7 (iv x32)],[(0,.rows 1 (List.map cI a1)),(1,.rows 1 (List.map cT x48))],2⟩ | Sum.inr _=>⟨[V 4 (.osl 1 0 (List.length x31) 1),V 5 (bv true)],[(0,.rows 1 (List.map cI a1)),(1,.rows 1 (List.map cT x31))],2⟩) (fun y=>match y with | Sum.inl x48=>.normal | Sum.inr _=>.ret) ?_ ?_
   ·refine jc_block ?_
    refine jc_seq ?_
    refine jR ?_
    refine jG 0 2 ⟨[V 0 (.fsl 1 (List.map c_L3 a0)),V 1 (.osl 0 0 (List.length a1) 1),V 6 (.osl 1 0 (List.length x31) 1),V 7 (iv x32),V 15 (.osl 0 0 (List.length a1) 1),V 16 (iv x32)],[(0,.rows 1 (List.map cI a1)),(1,.rows 1 (List.map cT x31))],2⟩ ?_
    refine jr_part (i:=2) (mo:=ixl a1 x32) rfl rfl rfl rfl (fun _ hc=>aop_ixo0 (sz:=1) (e:=3) (kk:=.i64) (id:=0) (by kernel_rfl) (by kernel_rfl) (by kernel_rfl) (by kernel_rfl) hc) (fun _=>rfl) ?_
    intro x49 h49
    refine jr_one (i:=3) (v:=iv x49) rfl rfl rfl rfl (aop_ldo (l:=a1) (c:=cI) (id:=0) (k:=(Int.toNat x32)) (sz:=1) (off:=0) (a:=x49) (by kernel_rfl) (by kernel_rfl) (ixl_lt h49).2.2 (by kernel_rfl)) rfl ?_
    refine jK 4 (ref29_Lit_ok x49) ?_
    intro x50 h50
    refine jG 5 1 ⟨[V 0 (.fsl 1 (List.map c_L3 a0)),V 1 (.osl 0 0 (List.length a1) 1),V 6 (.osl 1 0 (List.length x31) 1),V 7 (iv x32),V 20 (bv (!x50))],[(0,.rows 1 (List.map cI a1)),(1,.rows 1 (List.map cT x31))],2⟩ ?_
    refine jN ?_
    refine jIf ?_ ?_
    ·refine jc_exit ?_
     refine jx_seqE ?_
     refine jx_blkE ?_
     exact jx_mid rfl (wkR [(0,some 0),(1,some 1)] (fix_of hF (k:=1) rfl) (pc (hL 0 (noid_map ni_I _)) (pc (hL 1 (noid_map ni_T _)) allp_nil)))
    refine jc_skip ?_
    refine jx_seqN ?_
    refine jc_seq ?_
    refine jR ?_
    refine jG 0 3 ⟨[V 0 (.fsl 1 (List.map c_L3 a0)),V 1 (.osl 0 0 (List.length a1) 1),V 6 (.osl 1 0 (List.length x31) 1),V 7 (iv x32),V 21 (.osl 1 0 (List.length x31) 1),V 22 (.osl 0 0 (List.length a1) 1),V 23 (iv x32)],[(0,.rows 1 (List.map cI a1)),(1,.rows 1 (List.map cT x31))],2⟩ ?_
    refine jr_part (i:=3) (mo:=ixl a1 x32) rfl rfl rfl rfl (fun _ hc=>aop_ixo0 (sz:=1) (e:=3) (kk:=.i64) (id:=0) (by kernel_rfl) (by kernel_rfl) (by kernel_rfl) (by kernel_rfl) hc) (fun _=>rfl) ?_
    intro x51 h51
    refine jr_one (i:=4) (v:=iv x51) rfl rfl rfl rfl (aop_ldo (l:=a1) (c:=cI) (id:=0) (k:=(Int.toNat x32)) (sz:=1) (off:=0) (a:=x51) (by kernel_rfl) (by kernel_rfl) (ixl_lt h51).2.2 (by kernel_rfl)) rfl ?_
    refine jG 5 1 ⟨[V 0 (.fsl 1 (List.map c_L3 a0)),V 1 (.osl 0 0 (List.length a1) 1),V 6 (.osl 1 0 (List.length x31) 1),V 7 (iv x32),V 21 (.osl 1 0 (List.length x31) 1),V 26 (iv (w64 (0 - x51)))],[(0,.rows 1 (List.map cI a1)),(1,.rows 1 (List.map cT x31))],2⟩ ?_
    refine jr_callF (i:=6) rfl rfl rfl rfl (vs:=[.osl 1 0 (List.length x31) 1,iv (w64 (0 - x51))]) (by kernel_rfl) (snapL_cons (snapc_own fz_T (by kernel_rfl)) (snapL_cons rfl (snapL_nil _))) (all2_cons (fle_refl _) (all2_cons (fle_refl _) all2_nil)) (ref29_marks_is_ok x31 (w64 (0 - x51))) (fun _=>rfl) (fun _=>rfl) ?_
    intro x52 h52
    refine jN ?_
    refine jIf ?_ ?_
    ·refine jS ⟨[V 4 (.osl 1 0 (List.length x31) 1),V 5 (bv true)],[(0,.rows 1 (List.map cI a1)),(1,.rows 1 (List.map cT x31))],2⟩ ?_
     refine jc_ret ?_
     refine jx_seqR ?_
     refine jx_blkR ?_
     exact jx_mid rfl (wkR [(0,some 0),(1,some 1)] (fix_of hF (k:=1) rfl) (pc (hL 0 (noid_map ni_I _)) (pc (hL 1 (noid_map ni_T _)) allp_nil)))
    refine jc_skip ?_
    refine jx_seqN ?_
    refine jc_reg ?_
    refine jG 0 3 ⟨[V 0 (.fsl 1 (List.map c_L3 a0)),V 1 (.osl 0 0 (List.length a1) 1),V 6 (.osl 1 0 (List.length x31) 1),V 7 (iv x32),V 29 (.osl 1 0 (List.length x31) 1),V 30 (.osl 0 0 (List.length a1) 1),V 31 (iv x32)],[(0,.rows 1 (List.map cI a1)),(1,.rows 1 (List.map cT x31))],2⟩ ?_
    refine jr_part (i:=3) (mo:=ixl a1 x32) rfl rfl rfl rfl (fun _ hc=>aop_ixo0 (sz:=1) (e:=3) (kk:=.i64) (id:=0) (by kernel_rfl) (by kernel_rfl) (by kernel_rfl) (by kernel_rfl) hc) (fun _=>rfl) ?_
    intro x53 h53
    refine jr_one (i:=4) (v:=iv x53) rfl rfl rfl rfl (aop_ldo (l:=a1) (c:=cI) (id:=0) (k:=(Int.toNat x32)) (sz:=1) (off:=0) (a:=x53) (by kernel_rfl) (by kernel_rfl) (ixl_lt h53).2.2 (by kernel_rfl)) rfl ?_
    refine jr_callM 5 [(0,some 1)] [(1,some 0)] (fun r:Unit=>[(0,.rows 1 (List.map cI a1)),(1,.rows 1 (List.map cT (List.set x31 (Int.toNat (w64 (x53 + 4096))) true)))]) (fun r:Unit=>.tup []) 2 (ref29_marks_set_ok x31 x53) (pc (hL 1 (noid_map ni_T _)) allp_nil) (fun r=>(pc (.inl ⟨rfl,rfl⟩) (pc (.inr (hL 0 (noid_map ni_T _))) allp_nil))) ?_
    rintro⟨⟩ hm7
    rw[show List.length x31=List.length (List.set x31 (Int.toNat (w64 (x53 + 4096))) true) from List.length_set.symm]
    refine jr_nil rfl ?_
    refine jx_blkN ?_
    exact jx_mid rfl (wkR [(0,some 0),(1,some 1)] (fix_of hF (k:=1) rfl) (pc (hL 0 (noid_map ni_I _)) (pc (hL 1 (noid_map ni_T _)) allp_nil)))
   rintro (x48 | _)
   ·refine jx_seqN ?_
    refine jT ⟨[V 0 (.fsl 1 (List.map c_L3 a0)),V 1 (.osl 0 0 (List.length a1) 1),V 6 (.osl 1 0 (List.length x48) 1),V 7 (iv (w64 (x32 + 1)))],[(0,.rows 1 (List.map cI a1)),(1,.rows 1 (List.map cT x48))],2⟩ ?_
    exact jx_next (wkR [(0,some 0),(1,some 1)] (fix_of hF (k:=1) rfl) (pc (hL 0 (noid_map ni_I _)) (pc (hL 1 (noid_map ni_T _)) allp_nil)))
   refine jx_seqR ?_
   exact jx_done rfl nofun (wkR [(0,some 0),(1,some 1)] (fix_of hF (k:=1) rfl) (pc (hL 0 (noid_map ni_I _)) (pc (hL 1 (noid_map ni_T _)) allp_nil)))
  refine jc_exit ?_
  refine jx_seqE ?_
  exact jx_done rfl nofun (wkR [(0,some 0),(1,some 1)] (fix_of hF (k:=1) rfl) (pc (hL 0 (noid_map ni_I _)) (pc (hL 1 (noid_map ni_T _)) allp_nil)))
 rintro (x41 | x42)
 ·refine jx_blkR ?_
  refine jx_seqR ?_
  exact jx_retM (ref29_units_m8296_T a0 a1 (x41,true)) (.inr rfl) (wkR [(0,some 0),(1,some 1)] (fix_of hF (k:=1) rfl) (pc (hL 0 (noid_map ni_I _)) (pc (hL 1 (noid_map ni_T _)) allp_nil)))
 refine jx_blkE ?_
 refine jx_seqN ?_
 refine jR ?_
 refine jG 0 3 ⟨[V 35 (.osl 1 0 (List.length x42) 1),V 36 (.osl 1 0 (List.length x42) 1),V 37 (.fsl 1 (List.map c_L3 a0))],[(0,.rows 1 (List.map cI a1)),(1,.rows 1 (List.map cT x42))],2⟩ ?_
 refine jr_callM 3 [(0,some 1)] [(1,some 0)] (fun r:Bool × List Bool=>[(0,.rows 1 (List.map cI a1)),(1,.rows 1 (List.map cT r.2))]) (fun r:Bool × List Bool=>bv r.1) 2 (ref29_marks_spread_ok x42 a0) (pc (hL 1 (noid_map ni_T _)) allp_nil) (fun r=>(pc (.inl ⟨rfl,rfl⟩) (pc (.inr (hL 0 (noid_map ni_T _))) allp_nil))) ?_
 rintro⟨x54,x55⟩ hm8
 try rw[← ref29_marks_spread_len hm8]
 refine jG 4 2 ⟨[V 4 (.osl 1 0 (List.length x55) 1),V 5 (bv x54)],[(0,.rows 1 (List.map cI a1)),(1,.rows 1 (List.map cT x55))],2⟩ ?_
 refine jN ?_
 refine jc_ret ?_
 exact jx_retM (ref29_units_m8296_T a0 a1 (x55,x54)) (.inr rfl) (wkR [(0,some 0),(1,some 1)] (fix_of hF (k:=1) rfl) (pc (hL 0 (noid_map ni_I _)) (pc (hL 1 (noid_map ni_T _)) allp_nil))))
abbrev ref29_Step_r1:List LO:=[lo 4 (.assign (.const (.bool false))) 4]
abbrev ref29_Step_r2:List LO:=[lm 9 1 23,lo 10 (.call ⟨.value (.func 23),#[.tmp 9],#[23]⟩) 4,lo 11 (.unOp .not 4 (.tmp 10)) 4]
abbrev ref29_Step_r3:List LO:=[lo 4 (.assign (.const (.bool false))) 4]
abbrev ref29_Step_r4:List LO:=[lo 5 (.assign (.const (.slice none 0 0))) 23]
abbrev ref29_Step_r5:List LO:=[lo 6 (.assign (.const (.int .i64 0))) 3]
abbrev ref29_Step_r6:List LO:=[lm 12 6 3,lm 13 1 23,lo 14 (.call ⟨.builtin .len,#[.tmp 13],#[23]⟩) 3,lo 15 (.binOp .lss 3 (.tmp 12) (.tmp 14) 3) 4]
abbrev ref29_Step_r7:List LO:=[lm 18 5 23,lm 19 1 23,lm 20 6 3,lo 21 (.indexAddr 23 (.tmp 19) (.tmp 20)) 0,lo 22 (.load 3 (.tmp 21)) 3,lo 23 (.unOp .neg 3 (.tmp 22)) 3,lo 24 (.buildSlice 23 1 #[(0,.tmp 23)]) 23,lo 25 (.call ⟨.builtin .append,#[.tmp 18,.tmp 24],#[23,23]⟩) 23,lo 5 (.assign (.tmp 25)) 23]
abbrev ref29_Step_r8:List LO:=[lm 16 6 3,lo 17 (.binOp .add 3 (.tmp 16) (.const (.int .i64 1)) 3) 3,lo 6 (.assign (.tmp 17)) 3]
abbrev ref29_Step_r9:List LO:=[lm 27 0 22,lm 28 5 23,lo 29 (.call ⟨.value (.func 20),#[.tmp 27,.tmp 28],#[22,23]⟩) 42,lm 26 29 42,lo 30 (.extract (.tmp 26) 0) 41,lo 31 (.extract (.tmp 26) 1) 4,lo 7 (.assign (.tmp 30)) 41,lo 8 (.assign (.tmp 31)) 4]
abbrev ref29_Step_r10:List LO:=[lm 32 8 4,lo 4 (.assign (.tmp 32)) 4]
abbrev ref29_Step_c:LC:=.seq (.reg false ref29_Step_r1) (.seq (.seq (.reg false ref29_Step_r2) (.cond (.tmp 11) (.seq (.reg false ref29_Step_r3) .ret) .skip)) (.seq (.reg false ref29_Step_r4) (.seq (.seq (.reg false ref29_Step_r5) (.block 0 (.loop (.seq (.seq (.reg false ref29_Step_r6) (.cond (.tmp 15) .skip (.exit 0))) (.seq (.block 1 (.reg false ref29_Step_r7)) (.reg false ref29_Step_r8)))))) (.seq (.reg false ref29_Step_r9) (.seq (.reg false ref29_Step_r10) .ret)))))
theorem ref29_Step_k:FnOk E 10 33 [.tmp 4] ref29_Step_c:=⟨⟨Go.Proofs.Tryz.f10,by kernel_rfl,by kernel_rfl,by kernel_rfl,by kernel_rfl,by kernel_rfl⟩,rfl,rfl⟩
noncomputable def ref29_Step_l1 (a1:(List Int)):(List Int × Int)→Option (Step (List Int × Int) (List Int)):=fun (x4,x5)=>(if (decide (x5 < (List.length a1:Int)))=true then Option.bind (ixl a1 x5) (fun x11=>Option.bind (app 8 x4 [(w64 (0 - x11))]) (fun x12=>some (Step.next (x12,(w64 (x5 + 1)))))) else some (Step.done x4))
noncomputable def ref29_Step (a0:(List (List Int))) (a1:(List Int)):Option (Bool):=Option.bind (ref29_Lits a1) (fun x1=>(if (!x1)=true then some false else Option.bind (loopC (ref29_Step_l1 a1) ([],0)) (fun x10=>Option.bind (ref29_units_m8296 a0 x10) (fun (x13,x14)=>some x14))))
theorem ref29_Step_ok (a0:(List (List Int))) (a1:(List Int)):Ct E 10 [.fsl 1 (List.map c_L3 a0),.fsl 1 (List.map cI a1)] (ref29_Step a0 a1) (fun r:Bool=>bv r):=ct_intro (N:=33) (L:=ref29_Step_c) ref29_Step_k rfl (Nat.le_of_ble_eq_true rfl) (by kernel_rfl) (by
 unfold ref29_Step
 refine jS ⟨[V 0 (.fsl 1 (List.map c_L3 a0)),V 1 (.fsl 1 (List.map cI a1))],[],0⟩ ?_
 refine jc_seq ?_
 refine jR ?_
 refine jG 0 1 ⟨[V 0 (.fsl 1 (List.map c_L3 a0)),V 1 (.fsl 1 (List.map cI a1)),V 9 (.fsl 1 (List.map cI a1))],[],0⟩ ?_
 refine jK 1 (ref29_Lits_ok a1) ?_
 intro x1 h1
 refine jG 2 1 ⟨[V 0 (.fsl 1 (List.map c_L3 a0)),V 1 (.fsl 1 (List.map cI a1)),V 11 (bv (!x1))],[],0⟩ ?_
 refine jN ?_
 refine jIf ?_ ?_
 ·refine jS ⟨[V 4 (bv false)],[],0⟩ ?_
  refine jc_ret ?_
  refine jx_seqR ?_
  exact jx_retF (.inr rfl) (v:=bv false) (by kernel_rfl) rfl (fle_refl _)
 refine jc_skip ?_
 refine jx_seqN ?_
 refine jS ⟨[V 0 (.fsl 1 (List.map c_L3 a0)),V 1 (.fsl 1 (List.map cI a1)),V 5 (nilS)],[],0⟩ ?_
 refine jc_seq ?_
 refine jS ⟨[V 0 (.fsl 1 (List.map c_L3 a0)),V 1 (.fsl 1 (List.map cI a1)),V 5 (nilS),V 6 (iv 0)],[],0⟩ ?_
 refine jc_block ?_
 refine jc_bind (fun x10=>⟨[V 0 (.fsl 1 (List.map c_L3 a0)),V 5 (.osl 0 0 (List.length x10) 1)],[(0,.rows 1 (List.map cI x10))],1⟩) (fun x10=>(.exit 0)) (jc_loop (fun (x4,x5)=>⟨[V 0 (.fsl 1 (List.map c_L3 a0)),V 1 (.fsl 1 (List.map cI a1)),V 5 (.osl 0 0 (List.length x4) 1),V 6 (iv x5)],[(0,.rows 1 (List.map cI x4))],1⟩) (wkR [(0,none)] (fix_nil _) (pc hZ allp_nil)) ?_) ?_
 ·rintro⟨x4,x5⟩
  unfold ref29_Step_l1
  refine jc_seq ?_
  refine jR ?_
  refine jG 0 4 ⟨[V 0 (.fsl 1 (List.map c_L3 a0)),V 1 (.fsl 1 (List.map cI a1)),V 5 (.osl 0 0 (List.length x4) 1),V 6 (iv x5),V 15 (bv (decide (x5 < (List.length (List.map cI a1):Int))))],[(0,.rows 1 (List.map cI x4))],1⟩ ?_
  simp only[List.length_map]
  refine jN ?_
  refine jIf ?_ ?_
  ·refine jc_skip ?_
   refine jx_seqN ?_
   refine jc_seq ?_
   refine jc_block ?_
   refine jc_reg ?_
   refine jG 0 3 ⟨[V 0 (.fsl 1 (List.map c_L3 a0)),V 1 (.fsl 1 (List.map cI a1)),V 6 (iv x5),V 18 (.osl 0 0 (List.length x4) 1),V 19 (.fsl 1 (List.map cI a1)),V 20 (iv x5)],[(0,.rows 1 (List.map cI x4))],1⟩ ?_
   refine jr_part (i:=3) (mo:=ixl a1 x5) rfl rfl rfl rfl (fun _ hc=>aop_ixf (c:=cI) (sz:=1) (e:=3) (kk:=.i64) (by kernel_rfl) (by kernel_rfl) (by kernel_rfl) (by kernel_rfl) hc) (fun _=>rfl) ?_
   intro x11 h11
   refine jG 4 3 ⟨[V 0 (.fsl 1 (List.map c_L3 a0)),V 1 (.fsl 1 (List.map cI a1)),V 6 (iv x5),V 18 (.osl 0 0 (List.length x4) 1),V 24 (.osl 1 0 (List.length [(w64 (0 - x11))]) 1)],[(0,.rows 1 (List.map cI x4)),(1,.rows 1 (List.map cI [(w64 (0 - x11))]))],2⟩ ?_
   refine jr_part (i:=7) (mo:=app 8 x4 [(w64 (0 - x11))]) rfl rfl rfl rfl (fun _ hc=>aop_app (u:=.osl 0 0 (List.length x4) 1) (w:=.osl 1 0 (List.length [(w64 (0 - x11))]) 1) (e:=3) (td:=.slice 3) (by kernel_rfl) (by kernel_rfl) (by kernel_rfl) (by kernel_rfl) (.inl ⟨_,rfl⟩) (appendOf_own (c:=cI) (sz:=1) (b:=8) (id:=0) (by kernel_rfl) (by kernel_rfl) (rows_own (by kernel_rfl)) (List.cons_ne_nil _ _) hc)) (fun _=>rfl) ?_
   intro x12 h12
   refine jG 8 1 ⟨[V 0 (.fsl 1 (List.map c_L3 a0)),V 1 (.fsl 1 (List.map cI a1)),V 5 (.osl 2 0 (List.length x12) 1),V 6 (iv x5)],[(2,.rows 1 (List.map cI x12))],3⟩ ?_
   refine jr_nil rfl ?_
   refine jx_blkN ?_
   refine jx_seqN ?_
   refine jT ⟨[V 0 (.fsl 1 (List.map c_L3 a0)),V 1 (.fsl 1 (List.map cI a1)),V 5 (.osl 2 0 (List.length x12) 1),V 6 (iv (w64 (x5 + 1)))],[(2,.rows 1 (List.map cI x12))],3⟩ ?_
   exact jx_next (wkR [(0,some 2)] (fix_nil _) (pc (hL 2 (noid_map ni_I _)) allp_nil))
  refine jc_exit ?_
  refine jx_seqE ?_
  exact jx_done rfl nofun (wkR [(0,some 0)] (fix_nil _) (pc (hL 0 (noid_map ni_I _)) allp_nil))
 intro x10
 refine jx_blkE ?_
 refine jx_seqN ?_
 refine jR ?_
 refine jG 0 2 ⟨[V 27 (.fsl 1 (List.map c_L3 a0)),V 28 (.osl 0 0 (List.length x10) 1)],[(0,.rows 1 (List.map cI x10))],1⟩ ?_
 refine jr_callM 2 [(0,some 0)] [(0,some 0),(1,some 1)] (fun r:List Bool × Bool=>[(0,.rows 1 (List.map cI x10)),(1,.rows 1 (List.map cT r.1))]) (fun r:List Bool × Bool=>.tup [.osl 1 0 (List.length r.1) 1,bv r.2]) 2 (ref29_units_m8296_ok a0 x10) (pc (hL 0 (noid_map ni_I _)) allp_nil) (fun r=>(pc (.inr (hL 0 (noid_map ni_I _))) (pc (.inr (hL 1 (noid_map ni_T _))) allp_nil))) ?_
 rintro⟨x13,x14⟩ hm1
 refine jG 3 5 ⟨[V 8 (bv x14)],[],2⟩ ?_
 refine jN ?_
 refine jS ⟨[V 4 (bv x14)],[],2⟩ ?_
 refine jc_ret ?_
 exact jx_retF (.inr rfl) (v:=bv x14) (by kernel_rfl) rfl (fle_refl _))
abbrev slices_Clone_int_int_r1:List LO:=[lo 2 (.assign (.const (.slice none 0 0))) 22]
abbrev slices_Clone_int_int_r2:List LO:=[lm 3 0 22,lo 4 (.binOp .eql 22 (.tmp 3) (.const (.slice none 0 0)) 22) 4]
abbrev slices_Clone_int_int_r3:List LO:=[lo 2 (.assign (.const (.slice none 0 0))) 22]
abbrev slices_Clone_int_int_r4:List LO:=[lo 5 (.buildSlice 22 0 #[]) 22,lm 6 0 22,lo 7 (.call ⟨.builtin .append,#[.tmp 5,.tmp 6],#[22,22]⟩) 22,lo 2 (.assign (.tmp 7)) 22]
abbrev slices_Clone_int_int_c:LC:=.seq (.reg false slices_Clone_int_int_r1) (.seq (.seq (.reg false slices_Clone_int_int_r2) (.cond (.tmp 4) (.seq (.reg false slices_Clone_int_int_r3) .ret) .skip)) (.seq (.reg false slices_Clone_int_int_r4) .ret))
theorem slices_Clone_int_int_k:FnOk E 24 8 [.tmp 2] slices_Clone_int_int_c:=⟨⟨Go.Proofs.Tryz.f24,by kernel_rfl,by kernel_rfl,by kernel_rfl,by kernel_rfl,by kernel_rfl⟩,rfl,rfl⟩
abbrev slices_Clone_int_int_T (a0:List (List Int)) (r:List (List Int)):CS:=⟨[V 2 (.osl 0 0 (List.length r) 1)],[(0,.rows 1 (List.map c_L3 r))],1⟩
noncomputable def slices_Clone_int_int (a0:List (List Int)):Option (List (List Int)):=Option.bind (app 24 ([]:List (List Int)) a0) (fun x3=>some x3)
theorem slices_Clone_int_int_ok (a0:List (List Int)):CtM E 24 [.fsl 1 (List.map c_L3 a0)] [] 0 (slices_Clone_int_int a0) (fun r:List (List Int)=>.osl 0 0 (List.length r) 1) (fun r:List (List Int)=>[(0,.rows 1 (List.map c_L3 r))]) 1:=ctm_intro (N:=8) (L:=slices_Clone_int_int_c) slices_Clone_int_int_k rfl (Nat.le_of_ble_eq_true rfl) (fun F hF=>by
 unfold slices_Clone_int_int
 refine jS ⟨[V 0 (.fsl 1 (List.map c_L3 a0))],[],0⟩ ?_
 refine jc_seq ?_
 refine jR ?_
 refine jG 0 1 ⟨[V 0 (.fsl 1 (List.map c_L3 a0)),V 3 (.fsl 1 (List.map c_L3 a0))],[],0⟩ ?_
 refine jr_isnil 1 (v:=.fsl 1 (List.map c_L3 a0)) (C:=a0=[]) (mA:=(some [])) (b:=false) mayF (fun h=>by first | (rw[h]; rfl) | simp[h,app]) (fun _=>?_) ?_ (hr:=.inr ⟨_,_,rfl⟩)
 ·refine jN ?_
  refine jc_condK (c:=true) (by kernel_rfl) ?_
  refine jS ⟨[V 2 (nilS)],[],0⟩ ?_
  refine jc_ret ?_
  refine jx_seqR ?_
  exact jx_retM (slices_Clone_int_int_T a0 []) (.inr rfl) (wkR [(0,none)] (fix_of hF (k:=0) rfl) (pc hZ allp_nil))
 refine jN ?_
 refine jc_condK (c:=false) (by kernel_rfl) ?_
 refine jc_skip ?_
 refine jx_seqN ?_
 refine jR ?_
 refine jG 0 2 ⟨[V 5 (.osl 0 0 (List.length ([]:List (List Int))) 1),V 6 (.fsl 1 (List.map c_L3 a0))],[(0,.rows 1 (List.map c_L3 ([]:List (List Int))))],1⟩ ?_
 refine jr_two (i:=2) (C:=a0=[]) (st1:=fun x3=>⟨[V 7 (.osl 1 0 (List.length x3) 1)],[(1,.rows 1 (List.map c_L3 x3))],2⟩) rfl rfl rfl rfl (fun q _ hc=>aop_app (u:=.osl 0 0 (List.length ([]:List (List Int))) 1) (w:=.fsl 1 (List.map c_L3 a0)) (e:=23) (td:=.slice 23) (by kernel_rfl) (by kernel_rfl) (by kernel_rfl) (by kernel_rfl) (.inl ⟨_,rfl⟩) (appendOf_own (c:=c_L3) (sz:=1) (b:=24) (id:=0) (by kernel_rfl) (by kernel_rfl) rows_fsl q hc)) (fun q _ hc=>aop_app (u:=.osl 0 0 (List.length ([]:List (List Int))) 1) (w:=.fsl 1 (List.map c_L3 a0)) (e:=23) (td:=.slice 23) (by kernel_rfl) (by kernel_rfl) (by kernel_rfl) (by kernel_rfl) (.inl ⟨_,rfl⟩) (appendOf_same (c:=c_L3) (sz:=1) (b:=24) (m:=a0) (by kernel_rfl) (.inr (.inr ⟨_,_,_,_,rfl⟩)) rows_fsl q)) (fun _=>rfl) (fun _=>rfl) (fun _=>wkR [(1,some 1)] (fix_of hF (k:=0) rfl) (pc (hL 1 (noid_map ni_L3 _)) allp_nil)) (fun q _ hc=>by cases app_same q hc; exact wkR [(1,some 0)] (fix_of hF (k:=0) rfl) (pc (hL 0 (noid_map ni_L3 _)) allp_nil)) ?_
 intro x3 h3
 refine jG 3 1 ⟨[V 2 (.osl 1 0 (List.length x3) 1)],[(1,.rows 1 (List.map c_L3 x3))],2⟩ ?_
 refine jN ?_
 refine jc_ret ?_
 exact jx_retM (slices_Clone_int_int_T a0 x3) (.inr rfl) (wkR [(0,some 1)] (fix_of hF (k:=0) rfl) (pc (hL 1 (noid_map ni_L3 _)) allp_nil)))
abbrev rup_Check_r1:List LO:=[lo 4 (.assign (.const (.int .i64 0))) 3]
abbrev rup_Check_r2:List LO:=[lm 8 0 22,lo 9 (.call ⟨.value (.func 24),#[.tmp 8],#[22]⟩) 22,lo 5 (.assign (.tmp 9)) 22]
abbrev rup_Check_r3:List LO:=[lm 10 1 22,lo 11 (.call ⟨.builtin .len,#[.tmp 10],#[22]⟩) 3,lo 12 (.move (.const (.int .i64 0))) 3]
abbrev rup_Check_r4:List LO:=[lo 13 (.binOp .lss 3 (.tmp 12) (.tmp 11) 3) 0]
abbrev rup_Check_r5:List LO:=[lm 14 12 3,lo 15 (.indexAddr 22 (.tmp 10) (.tmp 12)) 0,lo 16 (.load 23 (.tmp 15)) 23,lo 6 (.assign (.tmp 14)) 3,lo 7 (.assign (.tmp 16)) 23]
abbrev rup_Check_r6:List LO:=[lm 17 5 22,lm 18 7 23,lo 19 (.call ⟨.value (.func 9),#[.tmp 17,.tmp 18],#[22,23]⟩) 4,lo 20 (.unOp .not 4 (.tmp 19)) 4]
abbrev rup_Check_r7:List LO:=[lm 21 6 3,lo 4 (.assign (.tmp 21)) 3]
abbrev rup_Check_r8:List LO:=[lm 22 5 22,lm 23 7 23,lo 24 (.buildSlice 22 1 #[(0,.tmp 23)]) 22,lo 25 (.call ⟨.builtin .append,#[.tmp 22,.tmp 24],#[22,22]⟩) 22,lo 5 (.assign (.tmp 25)) 22]
abbrev rup_Check_r9:List LO:=[lo 26 (.binOp .add 3 (.tmp 12) (.const (.int .i64 1)) 3) 3,lm 12 26 3]
abbrev rup_Check_r10:List LO:=[lm 27 1 22,lo 28 (.call ⟨.builtin .len,#[.tmp 27],#[22]⟩) 3,lo 4 (.assign (.tmp 28)) 3]
abbrev rup_Check_c:LC:=.seq (.reg false rup_Check_r1) (.seq (.reg false rup_Check_r2) (.seq (.seq (.reg false rup_Check_r3) (.block 0 (.loop (.seq (.reg false rup_Check_r4) (.seq (.cond (.tmp 13) .skip (.exit 0)) (.seq (.block 1 (.seq (.reg false rup_Check_r5) (.seq (.seq (.reg false rup_Check_r6) (.cond (.tmp 20) (.seq (.reg false rup_Check_r7) .ret) .skip)) (.reg false rup_Check_r8)))) (.reg false rup_Check_r9))))))) (.seq (.reg false rup_Check_r10) .ret)))
theorem rup_Check_k:FnOk E 11 29 [.tmp 4] rup_Check_c:=⟨⟨Go.Proofs.Tryz.f11,by kernel_rfl,by kernel_rfl,by kernel_rfl,by kernel_rfl,by kernel_rfl⟩,rfl,rfl⟩
noncomputable def rup_Check_l1 (a1:(List (List Int))):(List (List Int) × Int)→Option (Step (List (List Int) × Int) ((Int) ⊕ (Unit))):=fun (x5,x6)=>(if (decide (x6 < (List.length a1:Int)))=true then Option.bind (ixl a1 x6) (fun x13=>Option.bind (rup_Step x5 x13) (fun x14=>(if (!x14)=true then some (Step.done (Sum.inl x6)) else Option.bind (app 24 x5 [x13]) (fun x15=>some (Step.next (x15,(w64 (x6 + 1)))))))) else some (Step.done (Sum.inr ())))
noncomputable def rup_Check (a0:(List (List Int))) (a1:(List (List Int))):Option (Int):=Option.bind (slices_Clone_int_int a0) (fun x1=>Option.bind (loopC (rup_Check_l1 a1) (x1,0)) (fun y=>match y with | Sum.inl x12=>some x12 | Sum.inr _=>some (List.length a1:Int)))
theorem rup_Check_ok (a0:(List (List Int))) (a1:(List (List Int))):Ct E 11 [.fsl 1 (List.map c_L3 a0),.fsl 1 (List.map c_L3 a1)] (rup_Check a0 a1) (fun r:Int=>iv r):=ct_intro (N:=29) (L:=rup_Check_c) rup_Check_k rfl (Nat.le_of_ble_eq_true rfl) (by kernel_rfl) (by
 unfold rup_Check
 refine jS ⟨[V 0 (.fsl 1 (List.map c_L3 a0)),V 1 (.fsl 1 (List.map c_L3 a1))],[],0⟩ ?_
 refine jR ?_
 refine jG 0 1 ⟨[V 1 (.fsl 1 (List.map c_L3 a1)),V 8 (.fsl 1 (List.map c_L3 a0))],[],0⟩ ?_
 refine jr_callM 1 [] [(0,some 0)] (fun r:List (List Int)=>[(0,.rows 1 (List.map c_L3 r))]) (fun r:List (List Int)=>.osl 0 0 (List.length r) 1) 1 (slices_Clone_int_int_ok a0) allp_nil (fun r=>(pc (.inr (hL 0 (noid_map ni_L3 _))) allp_nil)) ?_
 rintro x1 hm1
 refine jG 2 1 ⟨[V 1 (.fsl 1 (List.map c_L3 a1)),V 5 (.osl 0 0 (List.length x1) 1)],[(0,.rows 1 (List.map c_L3 x1))],1⟩ ?_
 refine jN ?_
 refine jc_seq ?_
 refine jR ?_
 refine jG 0 3 ⟨[V 1 (.fsl 1 (List.map c_L3 a1)),V 5 (.osl 0 0 (List.length x1) 1),V 10 (.fsl 1 (List.map c_L3 a1)),V 11 (iv (List.length (List.map c_L3 a1):Int)),V 12 (iv 0)],[(0,.rows 1 (List.map c_L3 x1))],1⟩ ?_
 simp only[List.length_map]
 refine jN ?_
 refine jc_block ?_
 refine jc_bind (fun y=>match y with | Sum.inl x12=>⟨[V 4 (iv x12)],[],0⟩ | Sum.inr _=>⟨[V 1 (.fsl 1 (List.map c_L3 a1))],[],0⟩) (fun y=>match y with | Sum.inl x12=>.ret | Sum.inr _=>(.exit 0)) (jc_loop (fun (x5,x6)=>⟨[V 1 (.fsl 1 (List.map c_L3 a1)),V 5 (.osl 0 0 (List.length x5) 1),V 10 (.fsl 1 (List.map c_L3 a1)),V 11 (iv (List.length a1:Int)),V 12 (iv x6)],[(0,.rows 1 (List.map c_L3 x5))],1⟩) (wkR [(0,some 0)] (fix_nil _) (pc (hL 0 (noid_map ni_L3 _)) allp_nil)) ?_) ?_
 ·rintro⟨x5,x6⟩
  unfold rup_Check_l1
  refine jS ⟨[V 1 (.fsl 1 (List.map c_L3 a1)),V 5 (.osl 0 0 (List.length x5) 1),V 10 (.fsl 1 (List.map c_L3 a1)),V 11 (iv (List.length a1:Int)),V 12 (iv x6),V 13 (bv (decide (x6 < (List.length a1:Int))))],[(0,.rows 1 (List.map c_L3 x5))],1⟩ ?_
  refine jc_seq ?_
  refine jIf ?_ ?_
  ·refine jc_skip ?_
   refine jx_seqN ?_
   refine jc_seq ?_
   refine jc_block ?_
   refine jR ?_
   refine jG 0 1 ⟨[V 1 (.fsl 1 (List.map c_L3 a1)),V 5 (.osl 0 0 (List.length x5) 1),V 10 (.fsl 1 (List.map c_L3 a1)),V 11 (iv (List.length a1:Int)),V 12 (iv x6),V 14 (iv x6)],[(0,.rows 1 (List.map c_L3 x5))],1⟩ ?_
   refine jr_part (i:=1) (mo:=ixl a1 x6) rfl rfl rfl rfl (fun _ hc=>aop_ixf (c:=c_L3) (sz:=1) (e:=23) (kk:=.i64) (by kernel_rfl) (by kernel_rfl) (by kernel_rfl) (by kernel_rfl) hc) (fun _=>rfl) ?_
   intro x13 h13
   refine jG 2 3 ⟨[V 1 (.fsl 1 (List.map c_L3 a1)),V 5 (.osl 0 0 (List.length x5) 1),V 6 (iv x6),V 7 (.fsl 1 (List.map cI x13)),V 10 (.fsl 1 (List.map c_L3 a1)),V 11 (iv (List.length a1:Int)),V 12 (iv x6)],[(0,.rows 1 (List.map c_L3 x5))],1⟩ ?_
   refine jN ?_
   refine jc_seq ?_
   refine jR ?_
   refine jG 0 2 ⟨[V 1 (.fsl 1 (List.map c_L3 a1)),V 5 (.osl 0 0 (List.length x5) 1),V 6 (iv x6),V 7 (.fsl 1 (List.map cI x13)),V 10 (.fsl 1 (List.map c_L3 a1)),V 11 (iv (List.length a1:Int)),V 12 (iv x6),V 17 (.osl 0 0 (List.length x5) 1),V 18 (.fsl 1 (List.map cI x13))],[(0,.rows 1 (List.map c_L3 x5))],1⟩ ?_
   refine jr_callF (i:=2) rfl rfl rfl rfl (vs:=[.osl 0 0 (List.length x5) 1,.fsl 1 (List.map cI x13)]) (by kernel_rfl) (snapL_cons (snapc_own fz_L3 (by kernel_rfl)) (snapL_cons rfl (snapL_nil _))) (all2_cons (fle_refl _) (all2_cons (fle_refl _) all2_nil)) (rup_Step_ok x5 x13) (fun _=>rfl) (fun _=>rfl) ?_
   intro x14 h14
   refine jG 3 1 ⟨[V 1 (.fsl 1 (List.map c_L3 a1)),V 5 (.osl 0 0 (List.length x5) 1),V 6 (iv x6),V 7 (.fsl 1 (List.map cI x13)),V 10 (.fsl 1 (List.map c_L3 a1)),V 11 (iv (List.length a1:Int)),V 12 (iv x6),V 20 (bv (!x14))],[(0,.rows 1 (List.map c_L3 x5))],1⟩ ?_
   refine jN ?_
   refine jIf ?_ ?_
   ·refine jS ⟨[V 4 (iv x6)],[],1⟩ ?_
    refine jc_ret ?_
    refine jx_seqR ?_
    refine jx_blkR ?_
    refine jx_seqR ?_
    exact jx_done rfl nofun (wkR [] (fix_nil _) allp_nil)
   refine jc_skip ?_
   refine jx_seqN ?_
   refine jc_reg ?_
   refine jG 0 3 ⟨[V 1 (.fsl 1 (List.map c_L3 a1)),V 10 (.fsl 1 (List.map c_L3 a1)),V 11 (iv (List.length a1:Int)),V 12 (iv x6),V 22 (.osl 0 0 (List.length x5) 1),V 24 (.osl 1 0 (List.length [x13]) 1)],[(0,.rows 1 (List.map c_L3 x5)),(1,.rows 1 (List.map c_L3 [x13]))],2⟩ ?_
   refine jr_part (i:=3) (mo:=app 24 x5 [x13]) rfl rfl rfl rfl (fun _ hc=>aop_app (u:=.osl 0 0 (List.length x5) 1) (w:=.osl 1 0 (List.length [x13]) 1) (e:=23) (td:=.slice 23) (by kernel_rfl) (by kernel_rfl) (by kernel_rfl) (by kernel_rfl) (.inl ⟨_,rfl⟩) (appendOf_own (c:=c_L3) (sz:=1) (b:=24) (id:=0) (by kernel_rfl) (by kernel_rfl) (rows_own (by kernel_rfl)) (List.cons_ne_nil _ _) hc)) (fun _=>rfl) ?_
   intro x15 h15
   refine jG 4 1 ⟨[V 1 (.fsl 1 (List.map c_L3 a1)),V 5 (.osl 2 0 (List.length x15) 1),V 10 (.fsl 1 (List.map c_L3 a1)),V 11 (iv (List.length a1:Int)),V 12 (iv x6)],[(2,.rows 1 (List.map c_L3 x15))],3⟩ ?_
   refine jr_nil rfl ?_
   refine jx_blkN ?_
   refine jx_seqN ?_
   refine jT ⟨[V 1 (.fsl 1 (List.map c_L3 a1)),V 5 (.osl 2 0 (List.length x15) 1),V 10 (.fsl 1 (List.map c_L3 a1)),V 11 (iv (List.length a1:Int)),V 12 (iv (w64 (x6 + 1)))],[(2,.rows 1 (List.map c_L3 x15))],3⟩ ?_
   exact jx_next (wkR [(0,some 2)] (fix_nil _) (pc (hL 2 (noid_map ni_L3 _)) allp_nil))
  refine jc_exit ?_
  refine jx_seqE ?_
  exact jx_done rfl nofun (wkR [] (fix_nil _) allp_nil)
 rintro (x12 | _)
 ·refine jx_blkR ?_
  refine jx_seqR ?_
  exact jx_retF (.inr rfl) (v:=iv x12) (by kernel_rfl) rfl (fle_refl _)
 refine jx_blkE ?_
 refine jx_seqN ?_
 refine jR ?_
 refine jG 0 3 ⟨[V 4 (iv (List.length (List.map c_L3 a1):Int))],[],0⟩ ?_
 simp only[List.length_map]
 refine jN ?_
 refine jc_ret ?_
 exact jx_retF (.inr rfl) (v:=iv (List.length a1:Int)) (by kernel_rfl) rfl (fle_refl _))
abbrev ref29_Check_r1:List LO:=[lo 4 (.assign (.const (.int .i64 0))) 3]
abbrev ref29_Check_r2:List LO:=[lo 5 (.assign (.const (.slice none 0 0))) 22]
abbrev ref29_Check_r3:List LO:=[lm 7 5 22,lm 8 0 22,lo 9 (.call ⟨.builtin .append,#[.tmp 7,.tmp 8],#[22,22]⟩) 22,lo 5 (.assign (.tmp 9)) 22]
abbrev ref29_Check_r4:List LO:=[lo 6 (.assign (.const (.int .i64 0))) 3]
abbrev ref29_Check_r5:List LO:=[lm 10 6 3,lm 11 1 22,lo 12 (.call ⟨.builtin .len,#[.tmp 11],#[22]⟩) 3,lo 13 (.binOp .lss 3 (.tmp 10) (.tmp 12) 3) 4]
abbrev ref29_Check_r6:List LO:=[lm 16 5 22,lm 17 1 22,lm 18 6 3,lo 19 (.indexAddr 22 (.tmp 17) (.tmp 18)) 0,lo 20 (.load 23 (.tmp 19)) 23,lo 21 (.call ⟨.value (.func 10),#[.tmp 16,.tmp 20],#[22,23]⟩) 4,lo 22 (.unOp .not 4 (.tmp 21)) 4]
abbrev ref29_Check_r7:List LO:=[lm 23 6 3,lo 4 (.assign (.tmp 23)) 3]
abbrev ref29_Check_r8:List LO:=[lm 24 5 22,lm 25 1 22,lm 26 6 3,lo 27 (.indexAddr 22 (.tmp 25) (.tmp 26)) 0,lo 28 (.load 23 (.tmp 27)) 23,lo 29 (.buildSlice 22 1 #[(0,.tmp 28)]) 22,lo 30 (.call ⟨.builtin .append,#[.tmp 24,.tmp 29],#[22,22]⟩) 22,lo 5 (.assign (.tmp 30)) 22]
abbrev ref29_Check_r9:List LO:=[lm 14 6 3,lo 15 (.binOp .add 3 (.tmp 14) (.const (.int .i64 1)) 3) 3,lo 6 (.assign (.tmp 15)) 3]
abbrev ref29_Check_r10:List LO:=[lm 31 1 22,lo 32 (.call ⟨.builtin .len,#[.tmp 31],#[22]⟩) 3,lo 4 (.assign (.tmp 32)) 3]
abbrev ref29_Check_c:LC:=.seq (.reg false ref29_Check_r1) (.seq (.reg false ref29_Check_r2) (.seq (.reg false ref29_Check_r3) (.seq (.seq (.reg false ref29_Check_r4) (.block 0 (.loop (.seq (.seq (.reg false ref29_Check_r5) (.cond (.tmp 13) .skip (.exit 0))) (.seq (.block 1 (.seq (.seq (.reg false ref29_Check_r6) (.cond (.tmp 22) (.seq (.reg false ref29_Check_r7) .ret) .skip)) (.reg false ref29_Check_r8))) (.reg false ref29_Check_r9)))))) (.seq (.reg false ref29_Check_r10) .ret))))
theorem ref29_Check_k:FnOk E 12 33 [.tmp 4] ref29_Check_c:=⟨⟨Go.Proofs.Tryz.f12,by kernel_rfl,by kernel_rfl,by kernel_rfl,by kernel_rfl,by kernel_rfl⟩,rfl,rfl⟩
noncomputable def ref29_Check_l1 (a1:(List (List Int))):(List (List Int) × Int)→Option (Step (List (List Int) × Int) ((Int) ⊕ (Unit))):=fun (x6,x7)=>(if (decide (x7 < (List.length a1:Int)))=true then Option.bind (ixl a1 x7) (fun x15=>Option.bind (ref29_Step x6 x15) (fun x16=>(if (!x16)=true then some (Step.done (Sum.inl x7)) else Option.bind (ixl a1 x7) (fun x17=>Option.bind (app 24 x6 [x17]) (fun x18=>some (Step.next (x18,(w64 (x7 + 1))))))))) else some (Step.done (Sum.inr ())))
noncomputable def ref29_Check (a0:(List (List Int))) (a1:(List (List Int))):Option (Int):=Option.bind (app 24 ([]:List (List Int)) a0) (fun x1=>Option.bind (loopC (ref29_Check_l1 a1) (x1,0)) (fun y=>match y with | Sum.inl x14=>some x14 | Sum.inr _=>some (List.length a1:Int)))
theorem ref29_Check_ok (a0:(List (List Int))) (a1:(List (List Int))):Ct E 12 [.fsl 1 (List.map c_L3 a0),.fsl 1 (List.map c_L3 a1)] (ref29_Check a0 a1) (fun r:Int=>iv r):=ct_intro (N:=33) (L:=ref29_Check_c) ref29_Check_k rfl (Nat.le_of_ble_eq_true rfl) (by kernel_rfl) (by
 unfold ref29_Check
 refine jS ⟨[V 0 (.fsl 1 (List.map c_L3 a0)),V 1 (.fsl 1 (List.map c_L3 a1))],[],0⟩ ?_
 refine jS ⟨[V 0 (.fsl 1 (List.map c_L3 a0)),V 1 (.fsl 1 (List.map c_L3 a1)),V 5 (nilS)],[],0⟩ ?_
 refine jR ?_
 refine jG 0 2 ⟨[V 1 (.fsl 1 (List.map c_L3 a1)),V 7 (nilS),V 8 (.fsl 1 (List.map c_L3 a0))],[],0⟩ ?_
 refine jr_two (i:=2) (C:=a0=[]) (st1:=fun x1=>⟨[V 1 (.fsl 1 (List.map c_L3 a1)),V 9 (.osl 0 0 (List.length x1) 1)],[(0,.rows 1 (List.map c_L3 x1))],1⟩) rfl rfl rfl rfl (fun q _ hc=>aop_app (u:=nilS) (w:=.fsl 1 (List.map c_L3 a0)) (e:=23) (td:=.slice 23) (by kernel_rfl) (by kernel_rfl) (by kernel_rfl) (by kernel_rfl) (.inl ⟨_,rfl⟩) (appendOf_nil (c:=c_L3) (sz:=1) (b:=24) (by kernel_rfl) (.inl rfl) rows_fsl q hc)) (fun q _ hc=>aop_app (u:=nilS) (w:=.fsl 1 (List.map c_L3 a0)) (e:=23) (td:=.slice 23) (by kernel_rfl) (by kernel_rfl) (by kernel_rfl) (by kernel_rfl) (.inl ⟨_,rfl⟩) (appendOf_same (c:=c_L3) (sz:=1) (b:=24) (m:=a0) (by kernel_rfl) (.inl rfl) rows_fsl q)) (fun _=>rfl) (fun _=>rfl) (fun _=>wkR [(0,some 0)] (fix_nil _) (pc (hL 0 (noid_map ni_L3 _)) allp_nil)) (fun q _ hc=>by cases app_same q hc; exact wkR [(0,none)] (fix_nil _) (pc hZ allp_nil)) ?_
 intro x1 h1
 refine jG 3 1 ⟨[V 1 (.fsl 1 (List.map c_L3 a1)),V 5 (.osl 0 0 (List.length x1) 1)],[(0,.rows 1 (List.map c_L3 x1))],1⟩ ?_
 refine jN ?_
 refine jc_seq ?_
 refine jS ⟨[V 1 (.fsl 1 (List.map c_L3 a1)),V 5 (.osl 0 0 (List.length x1) 1),V 6 (iv 0)],[(0,.rows 1 (List.map c_L3 x1))],1⟩ ?_
 refine jc_block ?_
 refine jc_bind (fun y=>match y with | Sum.inl x14=>⟨[V 4 (iv x14)],[],0⟩ | Sum.inr _=>⟨[V 1 (.fsl 1 (List.map c_L3 a1))],[],0⟩) (fun y=>match y with | Sum.inl x14=>.ret | Sum.inr _=>(.exit 0)) (jc_loop (fun (x6,x7)=>⟨[V 1 (.fsl 1 (List.map c_L3 a1)),V 5 (.osl 0 0 (List.length x6) 1),V 6 (iv x7)],[(0,.rows 1 (List.map c_L3 x6))],1⟩) (wkR [(0,some 0)] (fix_nil _) (pc (hL 0 (noid_map ni_L3 _)) allp_nil)) ?_) ?_
 ·rintro⟨x6,x7⟩
  unfold ref29_Check_l1
  refine jc_seq ?_
  refine jR ?_
  refine jG 0 4 ⟨[V 1 (.fsl 1 (List.map c_L3 a1)),V 5 (.osl 0 0 (List.length x6) 1),V 6 (iv x7),V 13 (bv (decide (x7 < (List.length (List.map c_L3 a1):Int))))],[(0,.rows 1 (List.map c_L3 x6))],1⟩ ?_
  simp only[List.length_map]
  refine jN ?_
  refine jIf ?_ ?_
  ·refine jc_skip ?_
   refine jx_seqN ?_
   refine jc_seq ?_
   refine jc_block ?_
   refine jc_seq ?_
   refine jR ?_
   refine jG 0 3 ⟨[V 1 (.fsl 1 (List.map c_L3 a1)),V 5 (.osl 0 0 (List.length x6) 1),V 6 (iv x7),V 16 (.osl 0 0 (List.length x6) 1),V 17 (.fsl 1 (List.map c_L3 a1)),V 18 (iv x7)],[(0,.rows 1 (List.map c_L3 x6))],1⟩ ?_
   refine jr_part (i:=3) (mo:=ixl a1 x7) rfl rfl rfl rfl (fun _ hc=>aop_ixf (c:=c_L3) (sz:=1) (e:=23) (kk:=.i64) (by kernel_rfl) (by kernel_rfl) (by kernel_rfl) (by kernel_rfl) hc) (fun _=>rfl) ?_
   intro x15 h15
   refine jG 4 1 ⟨[V 1 (.fsl 1 (List.map c_L3 a1)),V 5 (.osl 0 0 (List.length x6) 1),V 6 (iv x7),V 16 (.osl 0 0 (List.length x6) 1),V 20 (.fsl 1 (List.map cI x15))],[(0,.rows 1 (List.map c_L3 x6))],1⟩ ?_
   refine jr_callF (i:=5) rfl rfl rfl rfl (vs:=[.osl 0 0 (List.length x6) 1,.fsl 1 (List.map cI x15)]) (by kernel_rfl) (snapL_cons (snapc_own fz_L3 (by kernel_rfl)) (snapL_cons rfl (snapL_nil _))) (all2_cons (fle_refl _) (all2_cons (fle_refl _) all2_nil)) (ref29_Step_ok x6 x15) (fun _=>rfl) (fun _=>rfl) ?_
   intro x16 h16
   refine jG 6 1 ⟨[V 1 (.fsl 1 (List.map c_L3 a1)),V 5 (.osl 0 0 (List.length x6) 1),V 6 (iv x7),V 22 (bv (!x16))],[(0,.rows 1 (List.map c_L3 x6))],1⟩ ?_
   refine jN ?_
   refine jIf ?_ ?_
   ·refine jS ⟨[V 4 (iv x7)],[],1⟩ ?_
    refine jc_ret ?_
    refine jx_seqR ?_
    refine jx_blkR ?_
    refine jx_seqR ?_
    exact jx_done rfl nofun (wkR [] (fix_nil _) allp_nil)
   refine jc_skip ?_
   refine jx_seqN ?_
   refine jc_reg ?_
   refine jG 0 3 ⟨[V 1 (.fsl 1 (List.map c_L3 a1)),V 6 (iv x7),V 24 (.osl 0 0 (List.length x6) 1),V 25 (.fsl 1 (List.map c_L3 a1)),V 26 (iv x7)],[(0,.rows 1 (List.map c_L3 x6))],1⟩ ?_
   refine jr_part (i:=3) (mo:=ixl a1 x7) rfl rfl rfl rfl (fun _ hc=>aop_ixf (c:=c_L3) (sz:=1) (e:=23) (kk:=.i64) (by kernel_rfl) (by kernel_rfl) (by kernel_rfl) (by kernel_rfl) hc) (fun _=>rfl) ?_
   intro x17 h17
   refine jG 4 2 ⟨[V 1 (.fsl 1 (List.map c_L3 a1)),V 6 (iv x7),V 24 (.osl 0 0 (List.length x6) 1),V 29 (.osl 1 0 (List.length [x17]) 1)],[(0,.rows 1 (List.map c_L3 x6)),(1,.rows 1 (List.map c_L3 [x17]))],2⟩ ?_
   refine jr_part (i:=6) (mo:=app 24 x6 [x17]) rfl rfl rfl rfl (fun _ hc=>aop_app (u:=.osl 0 0 (List.length x6) 1) (w:=.osl 1 0 (List.length [x17]) 1) (e:=23) (td:=.slice 23) (by kernel_rfl) (by kernel_rfl) (by kernel_rfl) (by kernel_rfl) (.inl ⟨_,rfl⟩) (appendOf_own (c:=c_L3) (sz:=1) (b:=24) (id:=0) (by kernel_rfl) (by kernel_rfl) (rows_own (by kernel_rfl)) (List.cons_ne_nil _ _) hc)) (fun _=>rfl) ?_
   intro x18 h18
   refine jG 7 1 ⟨[V 1 (.fsl 1 (List.map c_L3 a1)),V 5 (.osl 2 0 (List.length x18) 1),V 6 (iv x7)],[(2,.rows 1 (List.map c_L3 x18))],3⟩ ?_
   refine jr_nil rfl ?_
   refine jx_blkN ?_
   refine jx_seqN ?_
   refine jT ⟨[V 1 (.fsl 1 (List.map c_L3 a1)),V 5 (.osl 2 0 (List.length x18) 1),V 6 (iv (w64 (x7 + 1)))],[(2,.rows 1 (List.map c_L3 x18))],3⟩ ?_
   exact jx_next (wkR [(0,some 2)] (fix_nil _) (pc (hL 2 (noid_map ni_L3 _)) allp_nil))
  refine jc_exit ?_
  refine jx_seqE ?_
  exact jx_done rfl nofun (wkR [] (fix_nil _) allp_nil)
 rintro (x14 | _)
 ·refine jx_blkR ?_
  refine jx_seqR ?_
  exact jx_retF (.inr rfl) (v:=iv x14) (by kernel_rfl) rfl (fle_refl _)
 refine jx_blkE ?_
 refine jx_seqN ?_
 refine jR ?_
 refine jG 0 3 ⟨[V 4 (iv (List.length (List.map c_L3 a1):Int))],[],0⟩ ?_
 simp only[List.length_map]
 refine jN ?_
 refine jc_ret ?_
 exact jx_retF (.inr rfl) (v:=iv (List.length a1:Int)) (by kernel_rfl) rfl (fle_refl _))
abbrev rup_Refutes_r1:List LO:=[lo 4 (.assign (.const (.bool false))) 4]
abbrev rup_Refutes_r2:List LO:=[lm 5 1 22,lo 6 (.call ⟨.builtin .len,#[.tmp 5],#[22]⟩) 3,lo 7 (.binOp .gtr 3 (.tmp 6) (.const (.int .i64 0)) 3) 4,lm 8 7 4,lmg 9 1 22 8 true,lmg 10 1 22 8 true,lg 11 (.call ⟨.builtin .len,#[.tmp 10],#[22]⟩) 3 8 true,lg 12 (.binOp .sub 3 (.tmp 11) (.const (.int .i64 1)) 3) 3 8 true,lg 13 (.indexAddr 22 (.tmp 9) (.tmp 12)) 0 8 true,lg 14 (.load 23 (.tmp 13)) 23 8 true,lg 15 (.call ⟨.builtin .len,#[.tmp 14],#[23]⟩) 3 8 true,lg 16 (.binOp .eql 3 (.tmp 15) (.const (.int .i64 0)) 3) 4 8 true,lo 17 (.pick (.tmp 8) (.tmp 16) (.const (.bool false))) 4,lm 18 17 4,lmg 19 0 22 18 true,lmg 20 1 22 18 true,lg 21 (.call ⟨.value (.func 11),#[.tmp 19,.tmp 20],#[22,22]⟩) 3 18 true,lmg 22 1 22 18 true,lg 23 (.call ⟨.builtin .len,#[.tmp 22],#[22]⟩) 3 18 true,lg 24 (.binOp .eql 3 (.tmp 21) (.tmp 23) 3) 4 18 true,lo 25 (.pick (.tmp 18) (.tmp 24) (.const (.bool false))) 4,lo 4 (.assign (.tmp 25)) 4]
abbrev rup_Refutes_c:LC:=.seq (.reg false rup_Refutes_r1) (.seq (.reg false rup_Refutes_r2) .ret)
theorem rup_Refutes_k:FnOk E 13 26 [.tmp 4] rup_Refutes_c:=⟨⟨Go.Proofs.Tryz.f13,by kernel_rfl,by kernel_rfl,by kernel_rfl,by kernel_rfl,by kernel_rfl⟩,rfl,rfl⟩
noncomputable def rup_Refutes (a0:(List (List Int))) (a1:(List (List Int))):Option (Bool):=Option.bind (if (decide ((List.length a1:Int) > 0))=true then Option.bind (ixl a1 (w64 ((List.length a1:Int) - 1))) (fun x3=>some ((List.length x3:Int) == 0)) else some false:Option (Bool)) (fun x2=>Option.bind (if x2=true then Option.bind (rup_Check a0 a1) (fun x6=>some (x6 == (List.length a1:Int))) else some false:Option (Bool)) (fun x5=>some x5))
theorem rup_Refutes_ok (a0:(List (List Int))) (a1:(List (List Int))):Ct E 13 [.fsl 1 (List.map c_L3 a0),.fsl 1 (List.map c_L3 a1)] (rup_Refutes a0 a1) (fun r:Bool=>bv r):=ct_intro (N:=26) (L:=rup_Refutes_c) rup_Refutes_k rfl (Nat.le_of_ble_eq_true rfl) (by kernel_rfl) (by
 unfold rup_Refutes
 refine jS ⟨[V 0 (.fsl 1 (List.map c_L3 a0)),V 1 (.fsl 1 (List.map c_L3 a1))],[],0⟩ ?_
 refine jR ?_
 refine jG 0 4 ⟨[V 0 (.fsl 1 (List.map c_L3 a0)),V 1 (.fsl 1 (List.map c_L3 a1)),V 8 (bv (decide ((List.length (List.map c_L3 a1):Int) > 0)))],[],0⟩ ?_
 simp only[List.length_map]
 refine jr_bind 4 9 (fun x2=>⟨[V 0 (.fsl 1 (List.map c_L3 a0)),V 1 (.fsl 1 (List.map c_L3 a1)),V 17 (bv x2)],[],0⟩) ?_ ?_
 ·refine jSp 8 ?_ ?_
  ·refine jG 0 4 ⟨[V 0 (.fsl 1 (List.map c_L3 a0)),V 1 (.fsl 1 (List.map c_L3 a1)),(8,.lit true),V 9 (.fsl 1 (List.map c_L3 a1)),V 12 (iv (w64 ((List.length (List.map c_L3 a1):Int) - 1)))],[],0⟩ ?_
   simp only[List.length_map]
   refine jr_part (i:=4) (mo:=ixl a1 (w64 ((List.length a1:Int) - 1))) rfl rfl rfl rfl (fun _ hc=>aop_ixf (c:=c_L3) (sz:=1) (e:=23) (kk:=.i64) (by kernel_rfl) (by kernel_rfl) (by kernel_rfl) (by kernel_rfl) hc) (fun _=>rfl) ?_
   intro x3 h3
   refine jG 5 4 ⟨[V 0 (.fsl 1 (List.map c_L3 a0)),V 1 (.fsl 1 (List.map c_L3 a1)),V 17 (bv ((List.length (List.map cI x3):Int) == 0))],[],0⟩ ?_
   simp only[List.length_map]
   refine jr_nil rfl ?_
   exact jx_mid rfl (wkR [] (fix_nil _) allp_nil)
  refine jG 0 9 ⟨[V 0 (.fsl 1 (List.map c_L3 a0)),V 1 (.fsl 1 (List.map c_L3 a1)),V 17 (bv false)],[],0⟩ ?_
  refine jr_nil rfl ?_
  exact jx_mid rfl (wkR [] (fix_nil _) allp_nil)
 intro x2
 refine jG 13 1 ⟨[V 0 (.fsl 1 (List.map c_L3 a0)),V 1 (.fsl 1 (List.map c_L3 a1)),V 18 (bv x2)],[],0⟩ ?_
 refine jr_bind 14 7 (fun x5=>⟨[V 25 (bv x5)],[],0⟩) ?_ ?_
 ·refine jSp 18 ?_ ?_
  ·refine jG 0 2 ⟨[V 1 (.fsl 1 (List.map c_L3 a1)),(18,.lit true),V 19 (.fsl 1 (List.map c_L3 a0)),V 20 (.fsl 1 (List.map c_L3 a1))],[],0⟩ ?_
   refine jK 2 (rup_Check_ok a0 a1) ?_
   intro x6 h6
   refine jG 3 4 ⟨[V 25 (bv (x6 == (List.length (List.map c_L3 a1):Int)))],[],0⟩ ?_
   simp only[List.length_map]
   refine jr_nil rfl ?_
   exact jx_mid rfl (wkR [] (fix_nil _) allp_nil)
  refine jG 0 7 ⟨[V 25 (bv false)],[],0⟩ ?_
  refine jr_nil rfl ?_
  exact jx_mid rfl (wkR [] (fix_nil _) allp_nil)
 intro x5
 refine jG 21 1 ⟨[V 4 (bv x5)],[],0⟩ ?_
 refine jN ?_
 refine jc_ret ?_
 exact jx_retF (.inr rfl) (v:=bv x5) (by kernel_rfl) rfl (fle_refl _))
abbrev ref29_Refutes_r1:List LO:=[lo 4 (.assign (.const (.bool false))) 4]
abbrev ref29_Refutes_r2:List LO:=[lm 5 1 22,lo 6 (.call ⟨.builtin .len,#[.tmp 5],#[22]⟩) 3,lo 7 (.binOp .gtr 3 (.tmp 6) (.const (.int .i64 0)) 3) 4,lm 8 7 4,lmg 9 1 22 8 true,lmg 10 1 22 8 true,lg 11 (.call ⟨.builtin .len,#[.tmp 10],#[22]⟩) 3 8 true,lg 12 (.binOp .sub 3 (.tmp 11) (.const (.int .i64 1)) 3) 3 8 true,lg 13 (.indexAddr 22 (.tmp 9) (.tmp 12)) 0 8 true,lg 14 (.load 23 (.tmp 13)) 23 8 true,lg 15 (.call ⟨.builtin .len,#[.tmp 14],#[23]⟩) 3 8 true,lg 16 (.binOp .eql 3 (.tmp 15) (.const (.int .i64 0)) 3) 4 8 true,lo 17 (.pick (.tmp 8) (.tmp 16) (.const (.bool false))) 4,lm 18 17 4,lmg 19 0 22 18 true,lmg 20 1 22 18 true,lg 21 (.call ⟨.value (.func 12),#[.tmp 19,.tmp 20],#[22,22]⟩) 3 18 true,lmg 22 1 22 18 true,lg 23 (.call ⟨.builtin .len,#[.tmp 22],#[22]⟩) 3 18 true,lg 24 (.binOp .eql 3 (.tmp 21) (.tmp 23) 3) 4 18 true,lo 25 (.pick (.tmp 18) (.tmp 24) (.const (.bool false))) 4,lo 4 (.assign (.tmp 25)) 4]
abbrev ref29_Refutes_c:LC:=.seq (.reg false ref29_Refutes_r1) (.seq (.reg false ref29_Refutes_r2) .ret)
theorem ref29_Refutes_k:FnOk E 14 26 [.tmp 4] ref29_Refutes_c:=⟨⟨Go.Proofs.Tryz.f14,by kernel_rfl,by kernel_rfl,by kernel_rfl,by kernel_rfl,by kernel_rfl⟩,rfl,rfl⟩
noncomputable def ref29_Refutes (a0:(List (List Int))) (a1:(List (List Int))):Option (Bool):=Option.bind (if (decide ((List.length a1:Int) > 0))=true then Option.bind (ixl a1 (w64 ((List.length a1:Int) - 1))) (fun x3=>some ((List.length x3:Int) == 0)) else some false:Option (Bool)) (fun x2=>Option.bind (if x2=true then Option.bind (ref29_Check a0 a1) (fun x6=>some (x6 == (List.length a1:Int))) else some false:Option (Bool)) (fun x5=>some x5))
theorem ref29_Refutes_ok (a0:(List (List Int))) (a1:(List (List Int))):Ct E 14 [.fsl 1 (List.map c_L3 a0),.fsl 1 (List.map c_L3 a1)] (ref29_Refutes a0 a1) (fun r:Bool=>bv r):=ct_intro (N:=26) (L:=ref29_Refutes_c) ref29_Refutes_k rfl (Nat.le_of_ble_eq_true rfl) (by kernel_rfl) (by
 unfold ref29_Refutes
 refine jS ⟨[V 0 (.fsl 1 (List.map c_L3 a0)),V 1 (.fsl 1 (List.map c_L3 a1))],[],0⟩ ?_
 refine jR ?_
 refine jG 0 4 ⟨[V 0 (.fsl 1 (List.map c_L3 a0)),V 1 (.fsl 1 (List.map c_L3 a1)),V 8 (bv (decide ((List.length (List.map c_L3 a1):Int) > 0)))],[],0⟩ ?_
 simp only[List.length_map]
 refine jr_bind 4 9 (fun x2=>⟨[V 0 (.fsl 1 (List.map c_L3 a0)),V 1 (.fsl 1 (List.map c_L3 a1)),V 17 (bv x2)],[],0⟩) ?_ ?_
 ·refine jSp 8 ?_ ?_
  ·refine jG 0 4 ⟨[V 0 (.fsl 1 (List.map c_L3 a0)),V 1 (.fsl 1 (List.map c_L3 a1)),(8,.lit true),V 9 (.fsl 1 (List.map c_L3 a1)),V 12 (iv (w64 ((List.length (List.map c_L3 a1):Int) - 1)))],[],0⟩ ?_
   simp only[List.length_map]
   refine jr_part (i:=4) (mo:=ixl a1 (w64 ((List.length a1:Int) - 1))) rfl rfl rfl rfl (fun _ hc=>aop_ixf (c:=c_L3) (sz:=1) (e:=23) (kk:=.i64) (by kernel_rfl) (by kernel_rfl) (by kernel_rfl) (by kernel_rfl) hc) (fun _=>rfl) ?_
   intro x3 h3
   refine jG 5 4 ⟨[V 0 (.fsl 1 (List.map c_L3 a0)),V 1 (.fsl 1 (List.map c_L3 a1)),V 17 (bv ((List.length (List.map cI x3):Int) == 0))],[],0⟩ ?_
   simp only[List.length_map]
   refine jr_nil rfl ?_
   exact jx_mid rfl (wkR [] (fix_nil _) allp_nil)
  refine jG 0 9 ⟨[V 0 (.fsl 1 (List.map c_L3 a0)),V 1 (.fsl 1 (List.map c_L3 a1)),V 17 (bv false)],[],0⟩ ?_
  refine jr_nil rfl ?_
  exact jx_mid rfl (wkR [] (fix_nil _) allp_nil)
 intro x2
 refine jG 13 1 ⟨[V 0 (.fsl 1 (List.map c_L3 a0)),V 1 (.fsl 1 (List.map c_L3 a1)),V 18 (bv x2)],[],0⟩ ?_
 refine jr_bind 14 7 (fun x5=>⟨[V 25 (bv x5)],[],0⟩) ?_ ?_
 ·refine jSp 18 ?_ ?_
  ·refine jG 0 2 ⟨[V 1 (.fsl 1 (List.map c_L3 a1)),(18,.lit true),V 19 (.fsl 1 (List.map c_L3 a0)),V 20 (.fsl 1 (List.map c_L3 a1))],[],0⟩ ?_
   refine jK 2 (ref29_Check_ok a0 a1) ?_
   intro x6 h6
   refine jG 3 4 ⟨[V 25 (bv (x6 == (List.length (List.map c_L3 a1):Int)))],[],0⟩ ?_
   simp only[List.length_map]
   refine jr_nil rfl ?_
   exact jx_mid rfl (wkR [] (fix_nil _) allp_nil)
  refine jG 0 7 ⟨[V 25 (bv false)],[],0⟩ ?_
  refine jr_nil rfl ?_
  exact jx_mid rfl (wkR [] (fix_nil _) allp_nil)
 intro x5
 refine jG 21 1 ⟨[V 4 (bv x5)],[],0⟩ ?_
 refine jN ?_
 refine jc_ret ?_
 exact jx_retF (.inr rfl) (v:=bv x5) (by kernel_rfl) rfl (fle_refl _))
abbrev ref29_Units_r1:List LO:=[lo 4 (.assign (.const (.slice none 0 0))) 23,lo 5 (.assign (.const (.bool false))) 4]
abbrev ref29_Units_r2:List LO:=[lm 11 0 22,lm 12 1 23,lo 13 (.call ⟨.value (.func 20),#[.tmp 11,.tmp 12],#[22,23]⟩) 42,lm 10 13 42,lo 14 (.extract (.tmp 10) 0) 41,lo 15 (.extract (.tmp 10) 1) 4,lo 6 (.assign (.tmp 14)) 41,lo 7 (.assign (.tmp 15)) 4]
abbrev ref29_Units_r3:List LO:=[lm 16 7 4]
abbrev ref29_Units_r4:List LO:=[lo 4 (.assign (.const (.slice none 0 0))) 23,lo 5 (.assign (.const (.bool true))) 4]
abbrev ref29_Units_r5:List LO:=[lo 8 (.assign (.const (.slice none 0 0))) 23]
abbrev ref29_Units_r6:List LO:=[lo 9 (.assign (.const (.int .i64 1))) 3]
abbrev ref29_Units_r7:List LO:=[lm 17 9 3,lo 18 (.binOp .leq 3 (.tmp 17) (.const (.int .i64 4096)) 3) 4]
abbrev ref29_Units_r8:List LO:=[lm 21 6 41,lm 22 9 3,lo 23 (.call ⟨.value (.func 21),#[.tmp 21,.tmp 22],#[41,3]⟩) 4]
abbrev ref29_Units_r9:List LO:=[lm 24 8 23,lm 25 9 3,lo 26 (.buildSlice 23 1 #[(0,.tmp 25)]) 23,lo 27 (.call ⟨.builtin .append,#[.tmp 24,.tmp 26],#[23,23]⟩) 23,lo 8 (.assign (.tmp 27)) 23]
abbrev ref29_Units_r10:List LO:=[lm 28 6 41,lm 29 9 3,lo 30 (.unOp .neg 3 (.tmp 29)) 3,lo 31 (.call ⟨.value (.func 21),#[.tmp 28,.tmp 30],#[41,3]⟩) 4]
abbrev ref29_Units_r11:List LO:=[lm 32 8 23,lm 33 9 3,lo 34 (.unOp .neg 3 (.tmp 33)) 3,lo 35 (.buildSlice 23 1 #[(0,.tmp 34)]) 23,lo 36 (.call ⟨.builtin .append,#[.tmp 32,.tmp 35],#[23,23]⟩) 23,lo 8 (.assign (.tmp 36)) 23]
abbrev ref29_Units_r12:List LO:=[lm 19 9 3,lo 20 (.binOp .add 3 (.tmp 19) (.const (.int .i64 1)) 3) 3,lo 9 (.assign (.tmp 20)) 3]
abbrev ref29_Units_r13:List LO:=[lm 37 8 23,lo 4 (.assign (.tmp 37)) 23,lo 5 (.assign (.const (.bool false))) 4]
abbrev ref29_Units_c:LC:=.seq (.reg false ref29_Units_r1) (.seq (.reg false ref29_Units_r2) (.seq (.seq (.reg false ref29_Units_r3) (.cond (.tmp 16) (.seq (.reg false ref29_Units_r4) .ret) .skip)) (.seq (.reg false ref29_Units_r5) (.seq (.seq (.reg false ref29_Units_r6) (.block 0 (.loop (.seq (.seq (.reg false ref29_Units_r7) (.cond (.tmp 18) .skip (.exit 0))) (.seq (.block 1 (.seq (.seq (.reg false ref29_Units_r8) (.cond (.tmp 23) (.reg false ref29_Units_r9) .skip)) (.seq (.reg false ref29_Units_r10) (.cond (.tmp 31) (.reg false ref29_Units_r11) .skip)))) (.reg false ref29_Units_r12)))))) (.seq (.reg false ref29_Units_r13) .ret)))))
theorem ref29_Units_k:FnOk E 7 38 [.tmp 4,.tmp 5] ref29_Units_c:=⟨⟨Go.Proofs.Tryz.f7,by kernel_rfl,by kernel_rfl,by kernel_rfl,by kernel_rfl,by kernel_rfl⟩,rfl,rfl⟩
noncomputable def ref29_Units_l1 (x1:List Bool):(List Int × Int)→Option (Step (List Int × Int) (List Int)):=fun (x9,x10)=>(if (decide (x10≤4096))=true then Option.bind (Option.bind (Option.bind (ref29_marks_is x1 x10) (fun x29=>(if x29=true then Option.bind (app 8 x9 [x10]) (fun x30=>some x30) else some x9)):Option (List Int)) (fun x28=>Option.bind (ref29_marks_is x1 (w64 (0 - x10))) (fun x31=>(if x31=true then Option.bind (app 8 x28 [(w64 (0 - x10))]) (fun x32=>some x32) else some x28))):Option (List Int)) (fun x25=>some (Step.next (x25,(w64 (x10 + 1))))) else some (Step.done x9))
noncomputable def ref29_Units (a0:(List (List Int))) (a1:(List Int)):Option ((List Int) × Bool):=Option.bind (ref29_units a0 a1) (fun (x1,x2)=>(if x2=true then some ([],true) else Option.bind (loopC (ref29_Units_l1 x1) ([],1)) (fun x19=>some (x19,false))))
theorem ref29_Units_ok (a0:(List (List Int))) (a1:(List Int)):Ct E 7 [.fsl 1 (List.map c_L3 a0),.fsl 1 (List.map cI a1)] (ref29_Units a0 a1) (fun r:(List Int) × Bool=>.tup [.fsl 1 (List.map cI r.1),bv r.2]):=ct_intro (N:=38) (L:=ref29_Units_c) ref29_Units_k rfl (Nat.le_of_ble_eq_true rfl) (by kernel_rfl) (by
 unfold ref29_Units
 refine jS ⟨[V 0 (.fsl 1 (List.map c_L3 a0)),V 1 (.fsl 1 (List.map cI a1))],[],0⟩ ?_
 refine jR ?_
 refine jG 0 2 ⟨[V 11 (.fsl 1 (List.map c_L3 a0)),V 12 (.fsl 1 (List.map cI a1))],[],0⟩ ?_
 refine jr_callM 2 [] [(0,some 0)] (fun r:List Bool × Bool=>[(0,.rows 1 (List.map cT r.1))]) (fun r:List Bool × Bool=>.tup [.osl 0 0 (List.length r.1) 1,bv r.2]) 1 (ref29_units_ok a0 a1) allp_nil (fun r=>(pc (.inr (hL 0 (noid_map ni_T _))) allp_nil)) ?_
 rintro⟨x1,x2⟩ hm1
 refine jG 3 5 ⟨[V 6 (.osl 0 0 (List.length x1) 1),V 7 (bv x2)],[(0,.rows 1 (List.map cT x1))],1⟩ ?_
 refine jN ?_
 refine jc_seq ?_
 refine jS ⟨[V 6 (.osl 0 0 (List.length x1) 1),V 16 (bv x2)],[(0,.rows 1 (List.map cT x1))],1⟩ ?_
 refine jIf ?_ ?_
 ·refine jS ⟨[V 4 (nilS),V 5 (bv true)],[],1⟩ ?_
  refine jc_ret ?_
  refine jx_seqR ?_
  exact jx_retF (.inr rfl) (v:=.tup [nilS,bv true]) (by kernel_rfl) (snapc_tup (snapL_cons rfl (snapL_cons rfl (snapL_nil _)))) (fle_tup (all2_cons (fle_nil _) (all2_cons (fle_refl _) all2_nil)))
 refine jc_skip ?_
 refine jx_seqN ?_
 refine jS ⟨[V 6 (.osl 0 0 (List.length x1) 1),V 8 (nilS)],[(0,.rows 1 (List.map cT x1))],1⟩ ?_
 refine jc_seq ?_
 refine jS ⟨[V 6 (.osl 0 0 (List.length x1) 1),V 8 (nilS),V 9 (iv 1)],[(0,.rows 1 (List.map cT x1))],1⟩ ?_
 refine jc_block ?_
 refine jc_bind (fun x19=>⟨[V 8 (.osl 0 0 (List.length x19) 1)],[(0,.rows 1 (List.map cI x19))],1⟩) (fun x19=>(.exit 0)) (jc_loop (fun (x9,x10)=>⟨[V 6 (.osl 0 0 (List.length x1) 1),V 8 (.osl 1 0 (List.length x9) 1),V 9 (iv x10)],[(0,.rows 1 (List.map cT x1)),(1,.rows 1 (List.map cI x9))],2⟩) (wkR [(0,some 0),(1,none)] (fix_nil _) (pc (hL 0 (noid_map ni_T _)) (pc hZ allp_nil))) ?_) ?_
 ·rintro⟨x9,x10⟩
  unfold ref29_Units_l1
  refine jc_seq ?_
  refine jS ⟨[V 6 (.osl 0 0 (List.length x1) 1),V 8 (.osl 1 0 (List.length x9) 1),V 9 (iv x10),V 18 (bv (decide (x10≤4096)))],[(0,.rows 1 (List.map cT x1)),(1,.rows 1 (List.map cI x9))],2⟩ ?_
  refine jIf ?_ ?_
  ·refine jc_skip ?_
   refine jx_seqN ?_
   refine jc_seq ?_
   refine jc_bind (fun x25=>⟨[V 6 (.osl 0 0 (List.length x1) 1),V 8 (.osl 1 0 (List.length x25) 1),V 9 (iv x10)],[(0,.rows 1 (List.map cT x1)),(1,.rows 1 (List.map cI x25))],2⟩) (fun x25=>.normal) ?_ ?_
   ·refine jc_block ?_
    refine jc_seq ?_
    refine jc_bind (fun x28=>⟨[V 6 (.osl 0 0 (List.length x1) 1),V 8 (.osl 1 0 (List.length x28) 1),V 9 (iv x10)],[(0,.rows 1 (List.map cT x1)),(1,.rows 1 (List.map cI x28))],2⟩) (fun x28=>.normal) ?_ ?_
    ·refine jR ?_
     refine jG 0 2 ⟨[V 6 (.osl 0 0 (List.length x1) 1),V 8 (.osl 1 0 (List.length x9) 1),V 9 (iv x10),V 21 (.osl 0 0 (List.length x1) 1),V 22 (iv x10)],[(0,.rows 1 (List.map cT x1)),(1,.rows 1 (List.map cI x9))],2⟩ ?_
     refine jr_callF (i:=2) rfl rfl rfl rfl (vs:=[.osl 0 0 (List.length x1) 1,iv x10]) (by kernel_rfl) (snapL_cons (snapc_own fz_T (by kernel_rfl)) (snapL_cons rfl (snapL_nil _))) (all2_cons (fle_refl _) (all2_cons (fle_refl _) all2_nil)) (ref29_marks_is_ok x1 x10) (fun _=>rfl) (fun _=>rfl) ?_
     intro x29 h29
     refine jN ?_
     refine jIf ?_ ?_
     ·refine jc_reg ?_
      refine jG 0 3 ⟨[V 6 (.osl 0 0 (List.length x1) 1),V 9 (iv x10),V 24 (.osl 1 0 (List.length x9) 1),V 26 (.osl 2 0 (List.length [x10]) 1)],[(0,.rows 1 (List.map cT x1)),(1,.rows 1 (List.map cI x9)),(2,.rows 1 (List.map cI [x10]))],3⟩ ?_
      refine jr_part (i:=3) (mo:=app 8 x9 [x10]) rfl rfl rfl rfl (fun _ hc=>aop_app (u:=.osl 1 0 (List.length x9) 1) (w:=.osl 2 0 (List.length [x10]) 1) (e:=3) (td:=.slice 3) (by kernel_rfl) (by kernel_rfl) (by kernel_rfl) (by kernel_rfl) (.inl ⟨_,rfl⟩) (appendOf_own (c:=cI) (sz:=1) (b:=8) (id:=1) (by kernel_rfl) (by kernel_rfl) (rows_own (by kernel_rfl)) (List.cons_ne_nil _ _) hc)) (fun _=>rfl) ?_
      intro x30 h30
      refine jG 4 1 ⟨[V 6 (.osl 0 0 (List.length x1) 1),V 8 (.osl 3 0 (List.length x30) 1),V 9 (iv x10)],[(0,.rows 1 (List.map cT x1)),(3,.rows 1 (List.map cI x30))],4⟩ ?_
      refine jr_nil rfl ?_
      exact jx_mid rfl (wkR [(0,some 0),(1,some 3)] (fix_nil _) (pc (hL 0 (noid_map ni_T _)) (pc (hL 3 (noid_map ni_I _)) allp_nil)))
     refine jc_skip ?_
     exact jx_mid rfl (wkR [(0,some 0),(1,some 1)] (fix_nil _) (pc (hL 0 (noid_map ni_T _)) (pc (hL 1 (noid_map ni_I _)) allp_nil)))
    intro x28
    refine jx_seqN ?_
    refine jR ?_
    refine jG 0 3 ⟨[V 6 (.osl 0 0 (List.length x1) 1),V 8 (.osl 1 0 (List.length x28) 1),V 9 (iv x10),V 28 (.osl 0 0 (List.length x1) 1),V 30 (iv (w64 (0 - x10)))],[(0,.rows 1 (List.map cT x1)),(1,.rows 1 (List.map cI x28))],2⟩ ?_
    refine jr_callF (i:=3) rfl rfl rfl rfl (vs:=[.osl 0 0 (List.length x1) 1,iv (w64 (0 - x10))]) (by kernel_rfl) (snapL_cons (snapc_own fz_T (by kernel_rfl)) (snapL_cons rfl (snapL_nil _))) (all2_cons (fle_refl _) (all2_cons (fle_refl _) all2_nil)) (ref29_marks_is_ok x1 (w64 (0 - x10))) (fun _=>rfl) (fun _=>rfl) ?_
    intro x31 h31
    refine jN ?_
    refine jIf ?_ ?_
    ·refine jc_reg ?_
     refine jG 0 4 ⟨[V 6 (.osl 0 0 (List.length x1) 1),V 9 (iv x10),V 32 (.osl 1 0 (List.length x28) 1),V 35 (.osl 2 0 (List.length [(w64 (0 - x10))]) 1)],[(0,.rows 1 (List.map cT x1)),(1,.rows 1 (List.map cI x28)),(2,.rows 1 (List.map cI [(w64 (0 - x10))]))],3⟩ ?_
     refine jr_part (i:=4) (mo:=app 8 x28 [(w64 (0 - x10))]) rfl rfl rfl rfl (fun _ hc=>aop_app (u:=.osl 1 0 (List.length x28) 1) (w:=.osl 2 0 (List.length [(w64 (0 - x10))]) 1) (e:=3) (td:=.slice 3) (by kernel_rfl) (by kernel_rfl) (by kernel_rfl) (by kernel_rfl) (.inl ⟨_,rfl⟩) (appendOf_own (c:=cI) (sz:=1) (b:=8) (id:=1) (by kernel_rfl) (by kernel_rfl) (rows_own (by kernel_rfl)) (List.cons_ne_nil _ _) hc)) (fun _=>rfl) ?_
     intro x32 h32
     refine jG 5 1 ⟨[V 6 (.osl 0 0 (List.length x1) 1),V 8 (.osl 3 0 (List.length x32) 1),V 9 (iv x10)],[(0,.rows 1 (List.map cT x1)),(3,.rows 1 (List.map cI x32))],4⟩ ?_
     refine jr_nil rfl ?_
     refine jx_blkN ?_
     exact jx_mid rfl (wkR [(0,some 0),(1,some 3)] (fix_nil _) (pc (hL 0 (noid_map ni_T _)) (pc (hL 3 (noid_map ni_I _)) allp_nil)))
    refine jc_skip ?_
    refine jx_blkN ?_
    exact jx_mid rfl (wkR [(0,some 0),(1,some 1)] (fix_nil _) (pc (hL 0 (noid_map ni_T _)) (pc (hL 1 (noid_map ni_I _)) allp_nil)))
   intro x25
   refine jx_seqN ?_
   refine jT ⟨[V 6 (.osl 0 0 (List.length x1) 1),V 8 (.osl 1 0 (List.length x25) 1),V 9 (iv (w64 (x10 + 1)))],[(0,.rows 1 (List.map cT x1)),(1,.rows 1 (List.map cI x25))],2⟩ ?_
   exact jx_next (wkR [(0,some 0),(1,some 1)] (fix_nil _) (pc (hL 0 (noid_map ni_T _)) (pc (hL 1 (noid_map ni_I _)) allp_nil)))
  refine jc_exit ?_
  refine jx_seqE ?_
  exact jx_done rfl nofun (wkR [(0,some 1)] (fix_nil _) (pc (hL 1 (noid_map ni_I _)) allp_nil))
 intro x19
 refine jx_blkE ?_
 refine jx_seqN ?_
 refine jS ⟨[V 4 (.osl 0 0 (List.length x19) 1),V 5 (bv false)],[(0,.rows 1 (List.map cI x19))],1⟩ ?_
 refine jc_ret ?_
 exact jx_retF (.inr rfl) (v:=.tup [.osl 0 0 (List.length x19) 1,bv false]) (by kernel_rfl) (snapc_tup (snapL_cons (snapc_own fz_I (by kernel_rfl)) (snapL_cons rfl (snapL_nil _)))) (fle_tup (all2_cons (fle_refl _) (all2_cons (fle_refl _) all2_nil))))
abbrev law29_ints_r1:List LO:=[lo 4 (.assign (.const (.bool false))) 4]
abbrev law29_ints_r2:List LO:=[lm 6 0 23,lo 7 (.call ⟨.builtin .len,#[.tmp 6],#[23]⟩) 3,lm 8 1 23,lo 9 (.call ⟨.builtin .len,#[.tmp 8],#[23]⟩) 3,lo 10 (.binOp .neq 3 (.tmp 7) (.tmp 9) 3) 4]
abbrev law29_ints_r3:List LO:=[lo 4 (.assign (.const (.bool false))) 4]
abbrev law29_ints_r4:List LO:=[lm 11 0 23,lo 12 (.call ⟨.builtin .len,#[.tmp 11],#[23]⟩) 3,lo 13 (.move (.const (.int .i64 0))) 3]
abbrev law29_ints_r5:List LO:=[lo 14 (.binOp .lss 3 (.tmp 13) (.tmp 12) 3) 0]
abbrev law29_ints_r6:List LO:=[lm 15 13 3,lo 5 (.assign (.tmp 15)) 3]
abbrev law29_ints_r7:List LO:=[lm 16 0 23,lm 17 5 3,lo 18 (.indexAddr 23 (.tmp 16) (.tmp 17)) 0,lo 19 (.load 3 (.tmp 18)) 3,lm 20 1 23,lm 21 5 3,lo 22 (.indexAddr 23 (.tmp 20) (.tmp 21)) 0,lo 23 (.load 3 (.tmp 22)) 3,lo 24 (.binOp .neq 3 (.tmp 19) (.tmp 23) 3) 4]
abbrev law29_ints_r8:List LO:=[lo 4 (.assign (.const (.bool false))) 4]
abbrev law29_ints_r9:List LO:=[lo 25 (.binOp .add 3 (.tmp 13) (.const (.int .i64 1)) 3) 3,lm 13 25 3]
abbrev law29_ints_r10:List LO:=[lo 4 (.assign (.const (.bool true))) 4]
abbrev law29_ints_c:LC:=.seq (.reg false law29_ints_r1) (.seq (.seq (.reg false law29_ints_r2) (.cond (.tmp 10) (.seq (.reg false law29_ints_r3) .ret) .skip)) (.seq (.seq (.reg false law29_ints_r4) (.block 0 (.loop (.seq (.reg false law29_ints_r5) (.seq (.cond (.tmp 14) .skip (.exit 0)) (.seq (.block 1 (.seq (.reg false law29_ints_r6) (.seq (.reg true law29_ints_r7) (.cond (.tmp 24) (.seq (.reg false law29_ints_r8) .ret) .skip)))) (.reg false law29_ints_r9))))))) (.seq (.reg false law29_ints_r10) .ret)))
theorem law29_ints_k:FnOk E 8 26 [.tmp 4] law29_ints_c:=⟨⟨Go.Proofs.Tryz.f8,by kernel_rfl,by kernel_rfl,by kernel_rfl,by kernel_rfl,by kernel_rfl⟩,rfl,rfl⟩
noncomputable def law29_ints_l1 (a0:(List Int)) (a1:(List Int)):Int→Option (Step (Int) ((Unit) ⊕ (Unit))):=fun x3=>(if (decide (x3 < (List.length a0:Int)))=true then Option.bind (ixl a0 x3) (fun x7=>Option.bind (ixl a1 x3) (fun x8=>(if (x7 != x8)=true then some (Step.done (Sum.inl ())) else some (Step.next (w64 (x3 + 1)))))) else some (Step.done (Sum.inr ())))
noncomputable def law29_ints (a0:(List Int)) (a1:(List Int)):Option (Bool):=(if ((List.length a0:Int) != (List.length a1:Int))=true then some false else Option.bind (loopC (law29_ints_l1 a0 a1) 0) (fun y=>match y with | Sum.inl _=>some false | Sum.inr _=>some true))
theorem law29_ints_ok (a0:(List Int)) (a1:(List Int)):Ct E 8 [.fsl 1 (List.map cI a0),.fsl 1 (List.map cI a1)] (law29_ints a0 a1) (fun r:Bool=>bv r):=ct_intro (N:=26) (L:=law29_ints_c) law29_ints_k rfl (Nat.le_of_ble_eq_true rfl) (by kernel_rfl) (by
 unfold law29_ints
 refine jS ⟨[V 0 (.fsl 1 (List.map cI a0)),V 1 (.fsl 1 (List.map cI a1))],[],0⟩ ?_
 refine jc_seq ?_
 refine jR ?_
 refine jG 0 5 ⟨[V 0 (.fsl 1 (List.map cI a0)),V 1 (.fsl 1 (List.map cI a1)),V 10 (bv ((List.length (List.map cI a0):Int) != (List.length (List.map cI a1):Int)))],[],0⟩ ?_
 simp only[List.length_map]
 refine jN ?_
 refine jIf ?_ ?_
 ·refine jS ⟨[V 4 (bv false)],[],0⟩ ?_
  refine jc_ret ?_
  refine jx_seqR ?_
  exact jx_retF (.inr rfl) (v:=bv false) (by kernel_rfl) rfl (fle_refl _)
 refine jc_skip ?_
 refine jx_seqN ?_
 refine jc_seq ?_
 refine jR ?_
 refine jG 0 3 ⟨[V 0 (.fsl 1 (List.map cI a0)),V 1 (.fsl 1 (List.map cI a1)),V 12 (iv (List.length (List.map cI a0):Int)),V 13 (iv 0)],[],0⟩ ?_
 simp only[List.length_map]
 refine jN ?_
 refine jc_block ?_
 refine jc_bind (fun y=>match y with | Sum.inl _=>⟨[V 4 (bv false)],[],0⟩ | Sum.inr _=>⟨[],[],0⟩) (fun y=>match y with | Sum.inl _=>.ret | Sum.inr _=>(.exit 0)) (jc_loop (fun x3=>⟨[V 0 (.fsl 1 (List.map cI a0)),V 1 (.fsl 1 (List.map cI a1)),V 12 (iv (List.length a0:Int)),V 13 (iv x3)],[],0⟩) (wkR [] (fix_nil _) allp_nil) ?_) ?_
 ·intro x3
  unfold law29_ints_l1
  refine jS ⟨[V 0 (.fsl 1 (List.map cI a0)),V 1 (.fsl 1 (List.map cI a1)),V 12 (iv (List.length a0:Int)),V 13 (iv x3),V 14 (bv (decide (x3 < (List.length a0:Int))))],[],0⟩ ?_
  refine jc_seq ?_
  refine jIf ?_ ?_
  ·refine jc_skip ?_
   refine jx_seqN ?_
   refine jc_seq ?_
   refine jc_block ?_
   refine jS ⟨[V 0 (.fsl 1 (List.map cI a0)),V 1 (.fsl 1 (List.map cI a1)),V 5 (iv x3),V 12 (iv (List.length a0:Int)),V 13 (iv x3)],[],0⟩ ?_
   refine jR ?_
   refine jG 0 2 ⟨[V 0 (.fsl 1 (List.map cI a0)),V 1 (.fsl 1 (List.map cI a1)),V 5 (iv x3),V 12 (iv (List.length a0:Int)),V 13 (iv x3),V 16 (.fsl 1 (List.map cI a0)),V 17 (iv x3)],[],0⟩ ?_
   refine jr_part (i:=2) (mo:=ixl a0 x3) rfl rfl rfl rfl (fun _ hc=>aop_ixf (c:=cI) (sz:=1) (e:=3) (kk:=.i64) (by kernel_rfl) (by kernel_rfl) (by kernel_rfl) (by kernel_rfl) hc) (fun _=>rfl) ?_
   intro x7 h7
   refine jG 3 3 ⟨[V 0 (.fsl 1 (List.map cI a0)),V 1 (.fsl 1 (List.map cI a1)),V 12 (iv (List.length a0:Int)),V 13 (iv x3),V 19 (iv x7),V 20 (.fsl 1 (List.map cI a1)),V 21 (iv x3)],[],0⟩ ?_
   refine jr_part (i:=6) (mo:=ixl a1 x3) rfl rfl rfl rfl (fun _ hc=>aop_ixf (c:=cI) (sz:=1) (e:=3) (kk:=.i64) (by kernel_rfl) (by kernel_rfl) (by kernel_rfl) (by kernel_rfl) hc) (fun _=>rfl) ?_
   intro x8 h8
   refine jG 7 2 ⟨[V 0 (.fsl 1 (List.map cI a0)),V 1 (.fsl 1 (List.map cI a1)),V 12 (iv (List.length a0:Int)),V 13 (iv x3),V 24 (bv (x7 != x8))],[],0⟩ ?_
   refine jN ?_
   refine jIf ?_ ?_
   ·refine jS ⟨[V 4 (bv false)],[],0⟩ ?_
    refine jc_ret ?_
    refine jx_blkR ?_
    refine jx_seqR ?_
    exact jx_done rfl nofun (wkR [] (fix_nil _) allp_nil)
   refine jc_skip ?_
   refine jx_blkN ?_
   refine jx_seqN ?_
   refine jT ⟨[V 0 (.fsl 1 (List.map cI a0)),V 1 (.fsl 1 (List.map cI a1)),V 12 (iv (List.length a0:Int)),V 13 (iv (w64 (x3 + 1)))],[],0⟩ ?_
   exact jx_next (wkR [] (fix_nil _) allp_nil)
  refine jc_exit ?_
  refine jx_seqE ?_
  exact jx_done rfl nofun (wkR [] (fix_nil _) allp_nil)
 rintro (_ | _)
 ·refine jx_blkR ?_
  refine jx_seqR ?_
  exact jx_retF (.inr rfl) (v:=bv false) (by kernel_rfl) rfl (fle_refl _)
 refine jx_blkE ?_
 refine jx_seqN ?_
 refine jS ⟨[V 4 (bv true)],[],0⟩ ?_
 refine jc_ret ?_
 exact jx_retF (.inr rfl) (v:=bv true) (by kernel_rfl) rfl (fle_refl _))
end Go.Vm

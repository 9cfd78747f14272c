/- The law RupMore, a part of its proof: what the functions that it reaches compute. -/
import Derived.Test.YteaakndjbedilaaGreatDoorDxe5f82ab7
import Derived.Test.YteaakndjbedilaaGreatDoorW29RupMore
set_option linter.unusedVariables false
set_option linter.unusedSimpArgs false
set_option linter.unusedVariables false
namespace Go.Vm
open Go
abbrev c_L3 (x:List Int):List AV:=[.fsl 1 (List.map cI x)]
theorem ni_L3 (x:List Int):NoIds (c_L3 x):=noids_cons (noid_fsl _ _) noids_nil
theorem fz_L3 (x:List Int):Frz (c_L3 x):=frz_fsl frz_nil
set_option maxRecDepth 100000
set_option maxHeartbeats 0
set_option linter.unusedSimpArgs false
abbrev slices_Index_int_int_r1:List LO:=[lo 4 (.assign (.const (.int .i64 0))) 3]
abbrev slices_Index_int_int_r2:List LO:=[lm 6 0 23,lo 7 (.call ⟨.builtin .len,#[.tmp 6],#[23]⟩) 3,lo 8 (.move (.const (.int .i64 0))) 3]
abbrev slices_Index_int_int_r3:List LO:=[lo 9 (.binOp .lss 3 (.tmp 8) (.tmp 7) 3) 0]
abbrev slices_Index_int_int_r4:List LO:=[lm 10 8 3,lo 5 (.assign (.tmp 10)) 3]
abbrev slices_Index_int_int_r5:List LO:=[lm 11 1 3,lm 12 0 23,lm 13 5 3,lo 14 (.indexAddr 23 (.tmp 12) (.tmp 13)) 0,lo 15 (.load 3 (.tmp 14)) 3,lo 16 (.binOp .eql 3 (.tmp 11) (.tmp 15) 3) 4]
abbrev slices_Index_int_int_r6:List LO:=[lm 17 5 3,lo 4 (.assign (.tmp 17)) 3]
abbrev slices_Index_int_int_r7:List LO:=[lo 18 (.binOp .add 3 (.tmp 8) (.const (.int .i64 1)) 3) 3,lm 8 18 3]
abbrev slices_Index_int_int_r8:List LO:=[lo 4 (.assign (.const (.int .i64 (-1)))) 3]
abbrev slices_Index_int_int_c:LC:=.seq (.reg false slices_Index_int_int_r1) (.seq (.seq (.reg false slices_Index_int_int_r2) (.block 0 (.loop (.seq (.reg false slices_Index_int_int_r3) (.seq (.cond (.tmp 9) .skip (.exit 0)) (.seq (.block 1 (.seq (.reg false slices_Index_int_int_r4) (.seq (.reg false slices_Index_int_int_r5) (.cond (.tmp 16) (.seq (.reg false slices_Index_int_int_r6) .ret) .skip)))) (.reg false slices_Index_int_int_r7))))))) (.seq (.reg false slices_Index_int_int_r8) .ret))
theorem slices_Index_int_int_k:FnOk E0 59 19 [.tmp 4] slices_Index_int_int_c:=⟨⟨Go.Proofs.Tryz.f59,by kernel_rfl,by kernel_rfl,by kernel_rfl,by kernel_rfl,by kernel_rfl⟩,rfl,rfl⟩
noncomputable def slices_Index_int_int_l1 (a0:(List Int)) (a1:Int):Int→Option (Step (Int) ((Int) ⊕ (Unit))):=fun x2=>(if (decide (x2 < (List.length a0:Int)))=true then Option.bind (ixl a0 x2) (fun x6=>(if (a1 == x6)=true then some (Step.done (Sum.inl x2)) else some (Step.next (w64 (x2 + 1))))) else some (Step.done (Sum.inr ())))
noncomputable def slices_Index_int_int (a0:(List Int)) (a1:Int):Option (Int):=Option.bind (loopC (slices_Index_int_int_l1 a0 a1) 0) (fun y=>match y with | Sum.inl x5=>some x5 | Sum.inr _=>some (-1))
theorem slices_Index_int_int_ok (a0:(List Int)) (a1:Int):Ct E0 59 [.fsl 1 (List.map cI a0),iv a1] (slices_Index_int_int a0 a1) (fun r:Int=>iv r):=ct_intro (N:=19) (L:=slices_Index_int_int_c) slices_Index_int_int_k rfl (Nat.le_of_ble_eq_true rfl) (by kernel_rfl) (by
 unfold slices_Index_int_int
 refine jS ⟨[V 0 (.fsl 1 (List.map cI a0)),V 1 (iv a1)],[],0⟩ ?_
 refine jc_seq ?_
 refine jR ?_
 refine jG 0 3 ⟨[V 0 (.fsl 1 (List.map cI a0)),V 1 (iv a1),V 7 (iv (List.length (List.map cI a0):Int)),V 8 (iv 0)],[],0⟩ ?_
 simp only[List.length_map]
 refine jN ?_
 refine jc_block ?_
 refine jc_bind (fun y=>match y with | Sum.inl x5=>⟨[V 4 (iv x5)],[],0⟩ | Sum.inr _=>⟨[],[],0⟩) (fun y=>match y with | Sum.inl x5=>.ret | Sum.inr _=>(.exit 0)) (jc_loop (fun x2=>⟨[V 0 (.fsl 1 (List.map cI a0)),V 1 (iv a1),V 7 (iv (List.length a0:Int)),V 8 (iv x2)],[],0⟩) (wkR [] (fix_nil _) allp_nil) ?_) ?_
 ·intro x2
  unfold slices_Index_int_int_l1
  refine jS ⟨[V 0 (.fsl 1 (List.map cI a0)),V 1 (iv a1),V 7 (iv (List.length a0:Int)),V 8 (iv x2),V 9 (bv (decide (x2 < (List.length a0:Int))))],[],0⟩ ?_
  refine jc_seq ?_
  refine jIf ?_ ?_
  ·refine jc_skip ?_
   refine jx_seqN ?_
   refine jc_seq ?_
   refine jc_block ?_
   refine jS ⟨[V 0 (.fsl 1 (List.map cI a0)),V 1 (iv a1),V 5 (iv x2),V 7 (iv (List.length a0:Int)),V 8 (iv x2)],[],0⟩ ?_
   refine jR ?_
   refine jG 0 3 ⟨[V 0 (.fsl 1 (List.map cI a0)),V 1 (iv a1),V 5 (iv x2),V 7 (iv (List.length a0:Int)),V 8 (iv x2),V 11 (iv a1),V 12 (.fsl 1 (List.map cI a0)),V 13 (iv x2)],[],0⟩ ?_
   refine jr_part (i:=3) (mo:=ixl a0 x2) rfl rfl rfl rfl (fun _ hc=>aop_ixf (c:=cI) (sz:=1) (e:=3) (kk:=.i64) (by kernel_rfl) (by kernel_rfl) (by kernel_rfl) (by kernel_rfl) hc) (fun _=>rfl) ?_
   intro x6 h6
   refine jG 4 2 ⟨[V 0 (.fsl 1 (List.map cI a0)),V 1 (iv a1),V 5 (iv x2),V 7 (iv (List.length a0:Int)),V 8 (iv x2),V 16 (bv (a1 == x6))],[],0⟩ ?_
   refine jN ?_
   refine jIf ?_ ?_
   ·refine jS ⟨[V 4 (iv x2)],[],0⟩ ?_
    refine jc_ret ?_
    refine jx_blkR ?_
    refine jx_seqR ?_
    exact jx_done rfl nofun (wkR [] (fix_nil _) allp_nil)
   refine jc_skip ?_
   refine jx_blkN ?_
   refine jx_seqN ?_
   refine jT ⟨[V 0 (.fsl 1 (List.map cI a0)),V 1 (iv a1),V 7 (iv (List.length a0:Int)),V 8 (iv (w64 (x2 + 1)))],[],0⟩ ?_
   exact jx_next (wkR [] (fix_nil _) allp_nil)
  refine jc_exit ?_
  refine jx_seqE ?_
  exact jx_done rfl nofun (wkR [] (fix_nil _) allp_nil)
 rintro (x5 | _)
 ·refine jx_blkR ?_
  refine jx_seqR ?_
  exact jx_retF (.inr rfl) (v:=iv x5) (by kernel_rfl) rfl (fle_refl _)
 refine jx_blkE ?_
 refine jx_seqN ?_
 refine jS ⟨[V 4 (iv (-1))],[],0⟩ ?_
 refine jc_ret ?_
 exact jx_retF (.inr rfl) (v:=iv (-1)) (by kernel_rfl) rfl (fle_refl _))
abbrev slices_Contains_int_int_r1:List LO:=[lo 4 (.assign (.const (.bool false))) 4]
abbrev slices_Contains_int_int_r2:List LO:=[lm 5 0 23,lm 6 1 3,lo 7 (.call ⟨.value (.func 59),#[.tmp 5,.tmp 6],#[23,3]⟩) 3,lo 8 (.binOp .geq 3 (.tmp 7) (.const (.int .i64 0)) 3) 4,lo 4 (.assign (.tmp 8)) 4]
abbrev slices_Contains_int_int_c:LC:=.seq (.reg false slices_Contains_int_int_r1) (.seq (.reg false slices_Contains_int_int_r2) .ret)
theorem slices_Contains_int_int_k:FnOk E0 40 9 [.tmp 4] slices_Contains_int_int_c:=⟨⟨Go.Proofs.Tryz.f40,by kernel_rfl,by kernel_rfl,by kernel_rfl,by kernel_rfl,by kernel_rfl⟩,rfl,rfl⟩
noncomputable def slices_Contains_int_int (a0:(List Int)) (a1:Int):Option (Bool):=Option.bind (slices_Index_int_int a0 a1) (fun x1=>some (decide (x1≥0)))
theorem slices_Contains_int_int_ok (a0:(List Int)) (a1:Int):Ct E0 40 [.fsl 1 (List.map cI a0),iv a1] (slices_Contains_int_int a0 a1) (fun r:Bool=>bv r):=ct_intro (N:=9) (L:=slices_Contains_int_int_c) slices_Contains_int_int_k rfl (Nat.le_of_ble_eq_true rfl) (by kernel_rfl) (by
 unfold slices_Contains_int_int
 refine jS ⟨[V 0 (.fsl 1 (List.map cI a0)),V 1 (iv a1)],[],0⟩ ?_
 refine jR ?_
 refine jG 0 2 ⟨[V 5 (.fsl 1 (List.map cI a0)),V 6 (iv a1)],[],0⟩ ?_
 refine jK 2 (slices_Index_int_int_ok a0 a1) ?_
 intro x1 h1
 refine jG 3 2 ⟨[V 4 (bv (decide (x1≥0)))],[],0⟩ ?_
 refine jN ?_
 refine jc_ret ?_
 exact jx_retF (.inr rfl) (v:=bv (decide (x1≥0))) (by kernel_rfl) rfl (fle_refl _))
abbrev rup_literal_r1:List LO:=[lo 2 (.assign (.const (.bool false))) 4]
abbrev rup_literal_r2:List LO:=[lm 3 0 3,lo 4 (.binOp .neq 3 (.tmp 3) (.const (.int .i64 0)) 3) 4,lm 5 4 4,lmg 6 0 3 5 true,lg 7 (.binOp .leq 3 (.tmp 6) (.const (.int .i64 4096)) 3) 4 5 true,lo 8 (.pick (.tmp 5) (.tmp 7) (.const (.bool false))) 4,lm 9 8 4,lmg 10 0 3 9 true,lg 11 (.binOp .geq 3 (.tmp 10) (.const (.int .i64 (-4096))) 3) 4 9 true,lo 12 (.pick (.tmp 9) (.tmp 11) (.const (.bool false))) 4,lo 2 (.assign (.tmp 12)) 4]
abbrev rup_literal_c:LC:=.seq (.reg false rup_literal_r1) (.seq (.reg false rup_literal_r2) .ret)
theorem rup_literal_k:FnOk E0 22 13 [.tmp 2] rup_literal_c:=⟨⟨Go.Proofs.Tryz.f22,by kernel_rfl,by kernel_rfl,by kernel_rfl,by kernel_rfl,by kernel_rfl⟩,rfl,rfl⟩
noncomputable def rup_literal (a0:Int):Option (Bool):=some (((a0 != 0) && (decide (a0≤4096))) && (decide (a0≥(-4096))))
theorem rup_literal_ok (a0:Int):Ct E0 22 [iv a0] (rup_literal a0) (fun r:Bool=>bv r):=ct_intro (N:=13) (L:=rup_literal_c) rup_literal_k rfl (Nat.le_of_ble_eq_true rfl) (by kernel_rfl) (by
 unfold rup_literal
 refine jS ⟨[V 0 (iv a0)],[],0⟩ ?_
 refine jS ⟨[V 2 (bv (((a0 != 0) && (decide (a0≤4096))) && (decide (a0≥(-4096)))))],[],0⟩ ?_
 refine jc_ret ?_
 exact jx_retF (.inr rfl) (v:=bv (((a0 != 0) && (decide (a0≤4096))) && (decide (a0≥(-4096))))) (by kernel_rfl) rfl (fle_refl _))
theorem rup_literal_okE (a0:Int):Ct E 22 [iv a0] (rup_literal a0) (fun r:Bool=>bv r):=Ct.lift (E:=E) (E0:=E0) rfl rfl rfl rfl (rup_literal_ok a0)
abbrev rup_sheet_isTrue_r1:List LO:=[lo 4 (.assign (.const (.bool false))) 4]
abbrev rup_sheet_isTrue_r2:List LO:=[lm 5 0 34,lm 6 1 3,lo 7 (.lookup 34 (.tmp 5) (.tmp 6) false) 3,lo 8 (.binOp .gtr 3 (.tmp 7) (.const (.int .i64 0)) 3) 4,lo 4 (.assign (.tmp 8)) 4]
abbrev rup_sheet_isTrue_c:LC:=.seq (.reg false rup_sheet_isTrue_r1) (.seq (.reg false rup_sheet_isTrue_r2) .ret)
theorem rup_sheet_isTrue_k:FnOk E0 27 9 [.tmp 4] rup_sheet_isTrue_c:=⟨⟨Go.Proofs.Tryz.f27,by kernel_rfl,by kernel_rfl,by kernel_rfl,by kernel_rfl,by kernel_rfl⟩,rfl,rfl⟩
noncomputable def rup_sheet_isTrue (a0:(List (Int × Int))) (a1:Int):Option (Bool):=some (decide ((mget a0 a1) > 0))
theorem rup_sheet_isTrue_ok (a0:(List (Int × Int))) (a1:Int):Ct E0 27 [.fmp (fM a0),iv a1] (rup_sheet_isTrue a0 a1) (fun r:Bool=>bv r):=ct_intro (N:=9) (L:=rup_sheet_isTrue_c) rup_sheet_isTrue_k rfl (Nat.le_of_ble_eq_true rfl) (by kernel_rfl) (by
 unfold rup_sheet_isTrue
 refine jS ⟨[V 0 (.fmp (fM a0)),V 1 (iv a1)],[],0⟩ ?_
 refine jR ?_
 refine jG 0 2 ⟨[V 5 (.fmp (fM a0)),V 6 (iv a1)],[],0⟩ ?_
 refine jr_one (i:=2) (v:=iv (mget a0 a1)) (us:=[]) rfl rfl rfl rfl (aop_lookF (l:=a0) (kk:=a1) (kt:=3) (et:=3) (by kernel_rfl) (by kernel_rfl) (by kernel_rfl) (by kernel_rfl) (by kernel_rfl)) rfl ?_
 refine jG 3 2 ⟨[V 4 (bv (decide ((mget a0 a1) > 0)))],[],0⟩ ?_
 refine jN ?_
 refine jc_ret ?_
 exact jx_retF (.inr rfl) (v:=bv (decide ((mget a0 a1) > 0))) (by kernel_rfl) rfl (fle_refl _))
abbrev rup_sheet_open_r1:List LO:=[lo 2 (.box 34 (.tmp 0)) 0,lo 3 (.box 22 (.tmp 1)) 0,lo 4 (.assign (.const .nilFunc)) 53]
abbrev rup_sheet_open_r2:List LO:=[lo 5 (.makeFunc (Fn.func 37) #[] #[.tmp 3,.tmp 2]) 52,lo 4 (.assign (.tmp 5)) 53]
abbrev rup_sheet_open_c:LC:=.seq (.reg false rup_sheet_open_r1) (.seq (.reg false rup_sheet_open_r2) .ret)
theorem rup_sheet_open_k:FnOk E0 28 6 [.tmp 4] rup_sheet_open_c:=⟨⟨Go.Proofs.Tryz.f28,by kernel_rfl,by kernel_rfl,by kernel_rfl,by kernel_rfl,by kernel_rfl⟩,rfl,rfl⟩
abbrev rup_sheet_open_T (a0:List (Int × Int)) (a1:List (List Int)) (r:Unit):CS:=⟨[V 4 (.fn 37 [pt 1 1,pt 2 1])],[(0,.map (oM a0)),W 1 1 [.fsl 1 (List.map c_L3 a1)],W 2 1 [.mp 0]],3⟩
noncomputable def rup_sheet_open (a0:List (Int × Int)) (a1:List (List Int)):Option (Unit):=some ()
theorem rup_sheet_open_ok (a0:List (Int × Int)) (a1:List (List Int)):CtM E0 28 [.mp 0,.fsl 1 (List.map c_L3 a1)] [(0,.map (oM a0))] 1 (rup_sheet_open a0 a1) (fun r:Unit=>.fn 37 [pt 1 1,pt 2 1]) (fun r:Unit=>[(0,.map (oM a0)),W 1 1 [.fsl 1 (List.map c_L3 a1)],W 2 1 [.mp 0]]) 3:=ctm_intro (N:=6) (L:=rup_sheet_open_c) rup_sheet_open_k rfl (Nat.le_of_ble_eq_true rfl) (fun F hF=>by
 unfold rup_sheet_open
 refine jS ⟨[V 2 (pt 1 1),V 3 (pt 2 1)],[(0,.map (oM a0)),W 1 1 [.mp 0],W 2 1 [.fsl 1 (List.map c_L3 a1)]],3⟩ ?_
 refine jS ⟨[V 4 (.fn 37 [pt 2 1,pt 1 1])],[(0,.map (oM a0)),W 1 1 [.mp 0],W 2 1 [.fsl 1 (List.map c_L3 a1)]],3⟩ ?_
 refine jc_ret ?_
 exact jx_retM (rup_sheet_open_T a0 a1 ()) (.inr rfl) (wkR [(0,some 0),(1,some 2),(2,some 1)] (fix_of hF (k:=1) rfl) (pc (hM 0) (pc (hC 2) (pc (hC 1) allp_nil)))))
abbrev rup_sheet_open_1_1_s467c_r1:List LO:=[lo 3 (.assign (.const (.bool false))) 4]
abbrev rup_sheet_open_1_1_s467c_r2:List LO:=[lm 4 0 3,lo 5 (.call ⟨.value (.func 22),#[.tmp 4],#[3]⟩) 4,lo 6 (.unOp .not 4 (.tmp 5)) 4,lm 7 6 4,lg 8 (.load 34 (.tmp 1)) 34 7 false,lmg 9 0 3 7 false,lg 10 (.call ⟨.value (.func 27),#[.tmp 8,.tmp 9],#[34,3]⟩) 4 7 false,lo 11 (.pick (.tmp 7) (.const (.bool true)) (.tmp 10)) 4,lo 3 (.assign (.tmp 11)) 4]
abbrev rup_sheet_open_1_1_s467c_c:LC:=.seq (.reg false rup_sheet_open_1_1_s467c_r1) (.seq (.reg false rup_sheet_open_1_1_s467c_r2) .ret)
theorem rup_sheet_open_1_1_s467c_k:FnOk E0 39 12 [.tmp 3] rup_sheet_open_1_1_s467c_c:=⟨⟨Go.Proofs.Tryz.f39,by kernel_rfl,by kernel_rfl,by kernel_rfl,by kernel_rfl,by kernel_rfl⟩,rfl,rfl⟩
noncomputable def rup_sheet_open_1_1_s467c (a0:Int) (a1:List (Int × Int)):Option (Bool):=Option.bind (rup_literal a0) (fun x1=>Option.bind (if (!x1)=true then some true else Option.bind (rup_sheet_isTrue a1 a0) (fun x4=>some x4):Option (Bool)) (fun x3=>some x3))
theorem rup_sheet_open_1_1_s467c_ok (a0:Int) (a1:List (Int × Int)):Ct E0 39 [iv a0,.fptr [.fmp (fM a1)] 0] (rup_sheet_open_1_1_s467c a0 a1) (fun r:Bool=>bv r):=ct_intro (N:=12) (L:=rup_sheet_open_1_1_s467c_c) rup_sheet_open_1_1_s467c_k rfl (Nat.le_of_ble_eq_true rfl) (by kernel_rfl) (by
 unfold rup_sheet_open_1_1_s467c
 refine jS ⟨[V 0 (iv a0),V 1 (.fptr [.fmp (fM a1)] 0)],[],0⟩ ?_
 refine jR ?_
 refine jG 0 1 ⟨[V 0 (iv a0),V 1 (.fptr [.fmp (fM a1)] 0),V 4 (iv a0)],[],0⟩ ?_
 refine jK 1 (rup_literal_ok a0) ?_
 intro x1 h1
 refine jG 2 2 ⟨[V 0 (iv a0),V 1 (.fptr [.fmp (fM a1)] 0),V 7 (bv (!x1))],[],0⟩ ?_
 refine jr_bind 4 4 (fun x3=>⟨[V 11 (bv x3)],[],0⟩) ?_ ?_
 ·refine jSp 7 ?_ ?_
  ·refine jG 0 4 ⟨[V 11 (bv true)],[],0⟩ ?_
   refine jr_nil rfl ?_
   exact jx_mid rfl (wkR [] (fix_nil _) allp_nil)
  refine jG 0 2 ⟨[(7,.lit false),V 8 (.fmp (fM a1)),V 9 (iv a0)],[],0⟩ ?_
  refine jK 2 (rup_sheet_isTrue_ok a1 a0) ?_
  intro x4 h4
  refine jG 3 1 ⟨[V 11 (bv x4)],[],0⟩ ?_
  refine jr_nil rfl ?_
  exact jx_mid rfl (wkR [] (fix_nil _) allp_nil)
 intro x3
 refine jG 8 1 ⟨[V 3 (bv x3)],[],0⟩ ?_
 refine jN ?_
 refine jc_ret ?_
 exact jx_retF (.inr rfl) (v:=bv x3) (by kernel_rfl) rfl (fle_refl _))
abbrev rup_sheet_open_1_it_r1:List LO:=[lo 9 (.load 22 (.tmp 1)) 22,lo 10 (.call ⟨.builtin .len,#[.tmp 9],#[22]⟩) 3,lo 11 (.move (.const (.int .i64 0))) 3]
abbrev rup_sheet_open_1_it_r2:List LO:=[lo 12 (.binOp .lss 3 (.tmp 11) (.tmp 10) 3) 0]
abbrev rup_sheet_open_1_it_r3:List LO:=[lo 13 (.indexAddr 22 (.tmp 9) (.tmp 11)) 0,lo 14 (.load 23 (.tmp 13)) 23,lo 5 (.assign (.tmp 14)) 23]
abbrev rup_sheet_open_1_it_r4:List LO:=[lm 15 5 23,lo 16 (.makeFunc (Fn.func 39) #[] #[.tmp 2]) 44,lo 17 (.call ⟨.value (.func 38),#[.tmp 15,.tmp 16],#[23,44]⟩) 4]
abbrev rup_sheet_open_1_it_r5:List LO:=[lo 6 (.assign (.const (.slice none 0 0))) 23]
abbrev rup_sheet_open_1_it_r6:List LO:=[lm 18 5 23,lo 19 (.call ⟨.builtin .len,#[.tmp 18],#[23]⟩) 3,lo 20 (.move (.const (.int .i64 0))) 3]
abbrev rup_sheet_open_1_it_r7:List LO:=[lo 21 (.binOp .lss 3 (.tmp 20) (.tmp 19) 3) 0]
abbrev rup_sheet_open_1_it_r8:List LO:=[lo 22 (.indexAddr 23 (.tmp 18) (.tmp 20)) 0,lo 23 (.load 3 (.tmp 22)) 3,lo 8 (.assign (.tmp 23)) 3]
abbrev rup_sheet_open_1_it_r9:List LO:=[lo 24 (.load 34 (.tmp 2)) 34,lm 25 8 3,lo 26 (.unOp .neg 3 (.tmp 25)) 3,lo 27 (.call ⟨.value (.func 27),#[.tmp 24,.tmp 26],#[34,3]⟩) 4,lo 28 (.unOp .not 4 (.tmp 27)) 4,lm 29 28 4,lmg 30 6 23 29 true,lmg 31 8 3 29 true,lg 32 (.call ⟨.value (.func 40),#[.tmp 30,.tmp 31],#[23,3]⟩) 4 29 true,lg 33 (.unOp .not 4 (.tmp 32)) 4 29 true,lo 34 (.pick (.tmp 29) (.tmp 33) (.const (.bool false))) 4]
abbrev rup_sheet_open_1_it_r10:List LO:=[lm 35 6 23,lm 36 8 3,lo 37 (.buildSlice 23 1 #[(0,.tmp 36)]) 23,lo 38 (.call ⟨.builtin .append,#[.tmp 35,.tmp 37],#[23,23]⟩) 23,lo 6 (.assign (.tmp 38)) 23]
abbrev rup_sheet_open_1_it_r11:List LO:=[lo 39 (.binOp .add 3 (.tmp 20) (.const (.int .i64 1)) 3) 3,lm 20 39 3]
abbrev rup_sheet_open_1_it_r12:List LO:=[lm 40 0 45,lm 41 6 23,lo 42 (.call ⟨.value (.tmp 40),#[.tmp 41],#[23]⟩) 4,lo 43 (.unOp .not 4 (.tmp 42)) 4]
abbrev rup_sheet_open_1_it_r13:List LO:=[lo 44 (.binOp .add 3 (.tmp 11) (.const (.int .i64 1)) 3) 3,lm 11 44 3]
abbrev rup_sheet_open_1_it_c:LC:=.seq (.reg false rup_sheet_open_1_it_r1) (.block 0 (.loop (.seq (.reg false rup_sheet_open_1_it_r2) (.seq (.cond (.tmp 12) .skip (.exit 0)) (.seq (.block 1 (.seq (.reg false rup_sheet_open_1_it_r3) (.seq (.seq (.reg false rup_sheet_open_1_it_r4) (.cond (.tmp 17) (.exit 1) .skip)) (.seq (.reg false rup_sheet_open_1_it_r5) (.seq (.seq (.reg false rup_sheet_open_1_it_r6) (.block 2 (.loop (.seq (.reg false rup_sheet_open_1_it_r7) (.seq (.cond (.tmp 21) .skip (.exit 2)) (.seq (.block 3 (.seq (.reg false rup_sheet_open_1_it_r8) (.seq (.reg false rup_sheet_open_1_it_r9) (.cond (.tmp 34) (.reg false rup_sheet_open_1_it_r10) .skip)))) (.reg false rup_sheet_open_1_it_r11))))))) (.seq (.reg false rup_sheet_open_1_it_r12) (.cond (.tmp 43) .ret .skip))))))) (.reg false rup_sheet_open_1_it_r13))))))
theorem rup_sheet_open_1_it_k:FnOk E0 37 45 [] rup_sheet_open_1_it_c:=⟨⟨Go.Proofs.Tryz.f37,by kernel_rfl,by kernel_rfl,by kernel_rfl,by kernel_rfl,by kernel_rfl⟩,rfl,rfl⟩
abbrev slices_IndexFunc_int_int_se3d8_r1:List LO:=[lo 4 (.assign (.const (.int .i64 0))) 3]
abbrev slices_IndexFunc_int_int_se3d8_r2:List LO:=[lm 6 0 23,lo 7 (.call ⟨.builtin .len,#[.tmp 6],#[23]⟩) 3,lo 8 (.move (.const (.int .i64 0))) 3]
abbrev slices_IndexFunc_int_int_se3d8_r3:List LO:=[lo 9 (.binOp .lss 3 (.tmp 8) (.tmp 7) 3) 0]
abbrev slices_IndexFunc_int_int_se3d8_r4:List LO:=[lm 10 8 3,lo 5 (.assign (.tmp 10)) 3]
abbrev slices_IndexFunc_int_int_se3d8_r5:List LO:=[lm 11 1 44,lm 12 0 23,lm 13 5 3,lo 14 (.indexAddr 23 (.tmp 12) (.tmp 13)) 0,lo 15 (.load 3 (.tmp 14)) 3,lo 16 (.call ⟨.value (.tmp 11),#[.tmp 15],#[3]⟩) 4]
abbrev slices_IndexFunc_int_int_se3d8_r6:List LO:=[lm 17 5 3,lo 4 (.assign (.tmp 17)) 3]
abbrev slices_IndexFunc_int_int_se3d8_r7:List LO:=[lo 18 (.binOp .add 3 (.tmp 8) (.const (.int .i64 1)) 3) 3,lm 8 18 3]
abbrev slices_IndexFunc_int_int_se3d8_r8:List LO:=[lo 4 (.assign (.const (.int .i64 (-1)))) 3]
abbrev slices_IndexFunc_int_int_se3d8_c:LC:=.seq (.reg false slices_IndexFunc_int_int_se3d8_r1) (.seq (.seq (.reg false slices_IndexFunc_int_int_se3d8_r2) (.block 0 (.loop (.seq (.reg false slices_IndexFunc_int_int_se3d8_r3) (.seq (.cond (.tmp 9) .skip (.exit 0)) (.seq (.block 1 (.seq (.reg false slices_IndexFunc_int_int_se3d8_r4) (.seq (.reg false slices_IndexFunc_int_int_se3d8_r5) (.cond (.tmp 16) (.seq (.reg false slices_IndexFunc_int_int_se3d8_r6) .ret) .skip)))) (.reg false slices_IndexFunc_int_int_se3d8_r7))))))) (.seq (.reg false slices_IndexFunc_int_int_se3d8_r8) .ret))
theorem slices_IndexFunc_int_int_se3d8_k:FnOk E0 58 19 [.tmp 4] slices_IndexFunc_int_int_se3d8_c:=⟨⟨Go.Proofs.Tryz.f58,by kernel_rfl,by kernel_rfl,by kernel_rfl,by kernel_rfl,by kernel_rfl⟩,rfl,rfl⟩
noncomputable def slices_IndexFunc_int_int_se3d8_l1 (a0:(List Int)) (a1:List (Int × Int)):Int→Option (Step (Int) ((Int) ⊕ (Unit))):=fun x3=>(if (decide (x3 < (List.length a0:Int)))=true then Option.bind (ixl a0 x3) (fun x8=>Option.bind (rup_sheet_open_1_1_s467c x8 a1) (fun x9=>(if x9=true then some (Step.done (Sum.inl x3)) else some (Step.next (w64 (x3 + 1)))))) else some (Step.done (Sum.inr ())))
noncomputable def slices_IndexFunc_int_int_se3d8 (a0:(List Int)) (a1:List (Int × Int)):Option (Int):=Option.bind (loopC (slices_IndexFunc_int_int_se3d8_l1 a0 a1) 0) (fun y=>match y with | Sum.inl x7=>some x7 | Sum.inr _=>some (-1))
theorem slices_IndexFunc_int_int_se3d8_ok (a0:(List Int)) (a1:List (Int × Int)):Ct E0 58 [.fsl 1 (List.map cI a0),.fn 39 [.fptr [.fmp (fM a1)] 0]] (slices_IndexFunc_int_int_se3d8 a0 a1) (fun r:Int=>iv r):=ct_intro (N:=19) (L:=slices_IndexFunc_int_int_se3d8_c) slices_IndexFunc_int_int_se3d8_k rfl (Nat.le_of_ble_eq_true rfl) (by kernel_rfl) (by
 unfold slices_IndexFunc_int_int_se3d8
 refine jS ⟨[V 0 (.fsl 1 (List.map cI a0)),V 1 (.fn 39 [.fptr [.fmp (fM a1)] 0])],[],0⟩ ?_
 refine jc_seq ?_
 refine jR ?_
 refine jG 0 3 ⟨[V 0 (.fsl 1 (List.map cI a0)),V 1 (.fn 39 [.fptr [.fmp (fM a1)] 0]),V 7 (iv (List.length (List.map cI a0):Int)),V 8 (iv 0)],[],0⟩ ?_
 simp only[List.length_map]
 refine jN ?_
 refine jc_block ?_
 refine jc_bind (fun y=>match y with | Sum.inl x7=>⟨[V 4 (iv x7)],[],0⟩ | Sum.inr _=>⟨[],[],0⟩) (fun y=>match y with | Sum.inl x7=>.ret | Sum.inr _=>(.exit 0)) (jc_loop (fun x3=>⟨[V 0 (.fsl 1 (List.map cI a0)),V 1 (.fn 39 [.fptr [.fmp (fM a1)] 0]),V 7 (iv (List.length a0:Int)),V 8 (iv x3)],[],0⟩) (wkR [] (fix_nil _) allp_nil) ?_) ?_
 ·intro x3
  unfold slices_IndexFunc_int_int_se3d8_l1
  refine jS ⟨[V 0 (.fsl 1 (List.map cI a0)),V 1 (.fn 39 [.fptr [.fmp (fM a1)] 0]),V 7 (iv (List.length a0:Int)),V 8 (iv x3),V 9 (bv (decide (x3 < (List.length a0:Int))))],[],0⟩ ?_
  refine jc_seq ?_
  refine jIf ?_ ?_
  ·refine jc_skip ?_
   refine jx_seqN ?_
   refine jc_seq ?_
   refine jc_block ?_
   refine jS ⟨[V 0 (.fsl 1 (List.map cI a0)),V 1 (.fn 39 [.fptr [.fmp (fM a1)] 0]),V 5 (iv x3),V 7 (iv (List.length a0:Int)),V 8 (iv x3)],[],0⟩ ?_
   refine jR ?_
   refine jG 0 3 ⟨[V 0 (.fsl 1 (List.map cI a0)),V 1 (.fn 39 [.fptr [.fmp (fM a1)] 0]),V 5 (iv x3),V 7 (iv (List.length a0:Int)),V 8 (iv x3),V 11 (.fn 39 [.fptr [.fmp (fM a1)] 0]),V 12 (.fsl 1 (List.map cI a0)),V 13 (iv x3)],[],0⟩ ?_
   refine jr_part (i:=3) (mo:=ixl a0 x3) rfl rfl rfl rfl (fun _ hc=>aop_ixf (c:=cI) (sz:=1) (e:=3) (kk:=.i64) (by kernel_rfl) (by kernel_rfl) (by kernel_rfl) (by kernel_rfl) hc) (fun _=>rfl) ?_
   intro x8 h8
   refine jG 4 1 ⟨[V 0 (.fsl 1 (List.map cI a0)),V 1 (.fn 39 [.fptr [.fmp (fM a1)] 0]),V 5 (iv x3),V 7 (iv (List.length a0:Int)),V 8 (iv x3),V 11 (.fn 39 [.fptr [.fmp (fM a1)] 0]),V 15 (iv x8)],[],0⟩ ?_
   refine jr_callV (i:=5) rfl rfl rfl rfl (g:=39) (caps:=[.fptr [.fmp (fM a1)] 0]) (avs:=[iv x8]) (vs:=[iv x8,.fptr [.fmp (fM a1)] 0]) (by kernel_rfl) (by kernel_rfl) rfl (snapL_cons rfl (snapL_cons rfl (snapL_nil _))) (all2_cons (fle_refl _) (all2_cons (fle_refl _) all2_nil)) (rup_sheet_open_1_1_s467c_ok x8 a1) (fun _=>rfl) (fun _=>rfl) ?_
   intro x9 h9
   refine jN ?_
   refine jIf ?_ ?_
   ·refine jS ⟨[V 4 (iv x3)],[],0⟩ ?_
    refine jc_ret ?_
    refine jx_blkR ?_
    refine jx_seqR ?_
    exact jx_done rfl nofun (wkR [] (fix_nil _) allp_nil)
   refine jc_skip ?_
   refine jx_blkN ?_
   refine jx_seqN ?_
   refine jT ⟨[V 0 (.fsl 1 (List.map cI a0)),V 1 (.fn 39 [.fptr [.fmp (fM a1)] 0]),V 7 (iv (List.length a0:Int)),V 8 (iv (w64 (x3 + 1)))],[],0⟩ ?_
   exact jx_next (wkR [] (fix_nil _) allp_nil)
  refine jc_exit ?_
  refine jx_seqE ?_
  exact jx_done rfl nofun (wkR [] (fix_nil _) allp_nil)
 rintro (x7 | _)
 ·refine jx_blkR ?_
  refine jx_seqR ?_
  exact jx_retF (.inr rfl) (v:=iv x7) (by kernel_rfl) rfl (fle_refl _)
 refine jx_blkE ?_
 refine jx_seqN ?_
 refine jS ⟨[V 4 (iv (-1))],[],0⟩ ?_
 refine jc_ret ?_
 exact jx_retF (.inr rfl) (v:=iv (-1)) (by kernel_rfl) rfl (fle_refl _))
abbrev slices_ContainsFunc_int_int_se3d8_r1:List LO:=[lo 4 (.assign (.const (.bool false))) 4]
abbrev slices_ContainsFunc_int_int_se3d8_r2:List LO:=[lm 5 0 23,lm 6 1 44,lo 7 (.call ⟨.value (.func 58),#[.tmp 5,.tmp 6],#[23,44]⟩) 3,lo 8 (.binOp .geq 3 (.tmp 7) (.const (.int .i64 0)) 3) 4,lo 4 (.assign (.tmp 8)) 4]
abbrev slices_ContainsFunc_int_int_se3d8_c:LC:=.seq (.reg false slices_ContainsFunc_int_int_se3d8_r1) (.seq (.reg false slices_ContainsFunc_int_int_se3d8_r2) .ret)
theorem slices_ContainsFunc_int_int_se3d8_k:FnOk E0 38 9 [.tmp 4] slices_ContainsFunc_int_int_se3d8_c:=⟨⟨Go.Proofs.Tryz.f38,by kernel_rfl,by kernel_rfl,by kernel_rfl,by kernel_rfl,by kernel_rfl⟩,rfl,rfl⟩
noncomputable def slices_ContainsFunc_int_int_se3d8 (a0:(List Int)) (a1:List (Int × Int)):Option (Bool):=Option.bind (slices_IndexFunc_int_int_se3d8 a0 a1) (fun x1=>some (decide (x1≥0)))
theorem slices_ContainsFunc_int_int_se3d8_ok (a0:(List Int)) (a1:List (Int × Int)):Ct E0 38 [.fsl 1 (List.map cI a0),.fn 39 [.fptr [.fmp (fM a1)] 0]] (slices_ContainsFunc_int_int_se3d8 a0 a1) (fun r:Bool=>bv r):=ct_intro (N:=9) (L:=slices_ContainsFunc_int_int_se3d8_c) slices_ContainsFunc_int_int_se3d8_k rfl (Nat.le_of_ble_eq_true rfl) (by kernel_rfl) (by
 unfold slices_ContainsFunc_int_int_se3d8
 refine jS ⟨[V 0 (.fsl 1 (List.map cI a0)),V 1 (.fn 39 [.fptr [.fmp (fM a1)] 0])],[],0⟩ ?_
 refine jR ?_
 refine jG 0 2 ⟨[V 5 (.fsl 1 (List.map cI a0)),V 6 (.fn 39 [.fptr [.fmp (fM a1)] 0])],[],0⟩ ?_
 refine jK 2 (slices_IndexFunc_int_int_se3d8_ok a0 a1) ?_
 intro x1 h1
 refine jG 3 2 ⟨[V 4 (bv (decide (x1≥0)))],[],0⟩ ?_
 refine jN ?_
 refine jc_ret ?_
 exact jx_retF (.inr rfl) (v:=bv (decide (x1≥0))) (by kernel_rfl) rfl (fle_refl _))
abbrev rup_units_r1:List LO:=[lo 4 (.assign (.const (.map none))) 34,lo 5 (.assign (.const (.bool false))) 4]
abbrev rup_units_r2:List LO:=[lo 12 (.makeMap 34 none) 34,lo 6 (.alloc 34) 0,ln (.store 34 (.tmp 6) (.tmp 12)) 0]
abbrev rup_units_r3:List LO:=[lm 13 1 23,lo 14 (.call ⟨.builtin .len,#[.tmp 13],#[23]⟩) 3,lo 15 (.move (.const (.int .i64 0))) 3]
abbrev rup_units_r4:List LO:=[lo 16 (.binOp .lss 3 (.tmp 15) (.tmp 14) 3) 0]
abbrev rup_units_r5:List LO:=[lo 17 (.indexAddr 23 (.tmp 13) (.tmp 15)) 0,lo 18 (.load 3 (.tmp 17)) 3,lo 8 (.assign (.tmp 18)) 3]
abbrev rup_units_r6:List LO:=[lm 19 8 3,lo 20 (.call ⟨.value (.func 22),#[.tmp 19],#[3]⟩) 4,lo 21 (.unOp .not 4 (.tmp 20)) 4]
abbrev rup_units_r7:List LO:=[lo 22 (.load 34 (.tmp 6)) 34,lm 23 8 3,lo 24 (.unOp .neg 3 (.tmp 23)) 3,lo 25 (.call ⟨.value (.func 27),#[.tmp 22,.tmp 24],#[34,3]⟩) 4]
abbrev rup_units_r8:List LO:=[lo 26 (.load 34 (.tmp 6)) 34,lo 4 (.assign (.tmp 26)) 34,lo 5 (.assign (.const (.bool true))) 4]
abbrev rup_units_r9:List LO:=[lo 27 (.load 34 (.tmp 6)) 34,lm 28 8 3,lo 29 (.lookup 34 (.tmp 27) (.tmp 28) false) 3,lo 30 (.binOp .add 3 (.tmp 29) (.const (.int .i64 1)) 3) 3,ln (.mapUpdate 34 (.tmp 27) (.tmp 28) (.tmp 30)) 0]
abbrev rup_units_r10:List LO:=[lo 31 (.binOp .add 3 (.tmp 15) (.const (.int .i64 1)) 3) 3,lm 15 31 3]
abbrev rup_units_r11:List LO:=[lo 9 (.alloc 4) 0,ln (.store 4 (.tmp 9) (.const (.bool false))) 0]
abbrev rup_units_r12:List LO:=[lo 32 (.load 34 (.tmp 6)) 34,lo 33 (.call ⟨.builtin .len,#[.tmp 32],#[34]⟩) 3,lo 10 (.assign (.tmp 33)) 3]
abbrev rup_units_r13:List LO:=[lo 34 (.load 34 (.tmp 6)) 34,lm 35 0 22,lo 36 (.call ⟨.value (.func 28),#[.tmp 34,.tmp 35],#[34,22]⟩) 53]
abbrev rup_units_r14:List LO:=[lo 11 (.assign (.tmp 37)) 23]
abbrev rup_units_r15:List LO:=[lm 39 11 23,lo 40 (.call ⟨.builtin .len,#[.tmp 39],#[23]⟩) 3,lo 41 (.binOp .eql 3 (.tmp 40) (.const (.int .i64 0)) 3) 4,lo 38 (.assign (.tmp 41)) 4]
abbrev rup_units_r16:List LO:=[ln (.store 4 (.tmp 9) (.const (.bool true))) 0]
abbrev rup_units_r17:List LO:=[lm 43 11 23,lo 44 (.call ⟨.builtin .len,#[.tmp 43],#[23]⟩) 3,lo 45 (.binOp .eql 3 (.tmp 44) (.const (.int .i64 1)) 3) 4,lm 46 45 4,lg 47 (.load 34 (.tmp 6)) 34 46 true,lmg 48 11 23 46 true,lg 49 (.indexAddr 23 (.tmp 48) (.const (.int .i64 0))) 0 46 true,lg 50 (.load 3 (.tmp 49)) 3 46 true,lg 51 (.call ⟨.value (.func 27),#[.tmp 47,.tmp 50],#[34,3]⟩) 4 46 true,lg 52 (.unOp .not 4 (.tmp 51)) 4 46 true,lo 53 (.pick (.tmp 46) (.tmp 52) (.const (.bool false))) 4,lo 42 (.assign (.tmp 53)) 4]
abbrev rup_units_r18:List LO:=[lo 54 (.load 34 (.tmp 6)) 34,lm 55 11 23,lo 56 (.indexAddr 23 (.tmp 55) (.const (.int .i64 0))) 0,lo 57 (.load 3 (.tmp 56)) 3,lo 58 (.lookup 34 (.tmp 54) (.tmp 57) false) 3,lo 59 (.binOp .add 3 (.tmp 58) (.const (.int .i64 1)) 3) 3,ln (.mapUpdate 34 (.tmp 54) (.tmp 57) (.tmp 59)) 0]
noncomputable def rup_units_y19_a0:Code:=codeSub (bodyOf Go.Proofs.Tryz.f16) [1,0,1,1,1,1,0,0,0,0,1,0,1,0,0]
theorem rup_units_y19_aw:lower E0 rup_units_y19_a0=some (.reg false rup_units_r14):=by kernel_rfl
noncomputable def rup_units_y19_b0:Code:=codeSub (bodyOf Go.Proofs.Tryz.f16) [1,0,1,1,1,1,0,0,0,0,1,0,1,0,1]
theorem rup_units_y19_bw:lower E0 rup_units_y19_b0=some (.block 5 (.block 6 (.seq (.reg false rup_units_r15) (.cond (.tmp 38) (.seq (.reg false rup_units_r16) (.exit 2)) (.seq (.reg true rup_units_r17) (.cond (.tmp 42) (.reg true rup_units_r18) .skip)))))):=by kernel_rfl
abbrev rup_units_r20:List LO:=[lo 60 (.load 34 (.tmp 6)) 34,lo 61 (.call ⟨.builtin .len,#[.tmp 60],#[34]⟩) 3,lm 62 10 3,lo 63 (.binOp .eql 3 (.tmp 61) (.tmp 62) 3) 4]
abbrev rup_units_r21:List LO:=[lo 64 (.load 34 (.tmp 6)) 34,lo 65 (.load 4 (.tmp 9)) 4,lo 4 (.assign (.tmp 64)) 34,lo 5 (.assign (.tmp 65)) 4]
noncomputable abbrev rup_units_c:LC:=.seq (.reg false rup_units_r1) (.scope (.seq (.reg false rup_units_r2) (.seq (.seq (.reg false rup_units_r3) (.block 0 (.loop (.seq (.reg false rup_units_r4) (.seq (.cond (.tmp 16) .skip (.exit 0)) (.seq (.block 1 (.seq (.reg false rup_units_r5) (.seq (.seq (.reg false rup_units_r6) (.cond (.tmp 21) (.exit 1) .skip)) (.seq (.seq (.reg false rup_units_r7) (.cond (.tmp 25) (.seq (.reg false rup_units_r8) .ret) .skip)) (.reg false rup_units_r9))))) (.reg false rup_units_r10))))))) (.seq (.reg false rup_units_r11) (.seq .label (.seq (.block 2 (.loop (.block 3 (.seq (.reg false rup_units_r12) (.seq (.seq (.reg false rup_units_r13) (.block 4 (.rng (.tmp 36) [37] rup_units_y19_a0 rup_units_y19_b0))) (.seq (.reg false rup_units_r20) (.cond (.tmp 63) (.exit 2) .skip))))))) (.seq (.reg true rup_units_r21) .ret)))))))
theorem rup_units_k:FnOk E0 16 66 [.tmp 4,.tmp 5] rup_units_c:=⟨⟨Go.Proofs.Tryz.f16,by kernel_rfl,by kernel_rfl,by kernel_rfl,by kernel_rfl,by kernel_rfl⟩,rfl,rfl⟩
noncomputable def rup_units_l1 (a1:List Int):(List (Int × Int) × Int)→Option (Step (List (Int × Int) × Int) ((List (Int × Int)) ⊕ (List (Int × Int)))):=fun (x137,x138)=>(if (decide (x138 < (List.length a1:Int)))=true then Option.bind (Option.bind (ixl a1 x138) (fun x151=>Option.bind (rup_literal x151) (fun x152=>(if (!x152)=true then some (Sum.inl x137) else Option.bind (rup_sheet_isTrue x137 (w64 (0 - x151))) (fun x153=>(if x153=true then some (Sum.inr ()) else some (Sum.inl (mput x137 x151 (w64 ((mget x137 x151) + 1))))))))):Option ((List (Int × Int)) ⊕ (Unit))) (fun y=>match y with | Sum.inl x150=>some (Step.next (x150,(w64 (x138 + 1)))) | Sum.inr _=>some (Step.done (Sum.inl x137))) else some (Step.done (Sum.inr x137)))
noncomputable abbrev rup_units_lp17 (a0:List (List Int)) (x210:List (Int × Int)) (q:LoopState) (p:Option Code):AObj:=.loop { state:=q,pending:=p,tmps:=tl 66 [V 0 (.fsl 1 (List.map c_L3 a0)),V 6 (pt 0 1),V 9 (pt 2 1),V 10 (iv (List.length x210:Int)),V 36 (.fn 37 [pt 3 1,pt 4 1])] none,params:=[37],assign:=rup_units_y19_a0,body:=rup_units_y19_b0 }
noncomputable def rup_units_l2 (x295:List (Int × Int)) (x351:(List Int)):(List Int × Int)→Option (Step (List Int × Int) (List Int)):=fun (x359,x360)=>(if (decide (x360 < (List.length x351:Int)))=true then Option.bind (Option.bind (ixl x351 x360) (fun x376=>Option.bind (rup_sheet_isTrue x295 (w64 (0 - x376))) (fun x377=>Option.bind (if (!x377)=true then Option.bind (slices_Contains_int_int x359 x376) (fun x380=>some (!x380)) else some false:Option (Bool)) (fun x379=>(if x379=true then Option.bind (app 8 x359 [x376]) (fun x381=>some x381) else some x359)))):Option (List Int)) (fun x375=>some (Step.next (x375,(w64 (x360 + 1))))) else some (Step.done x359))
noncomputable def rup_units_l3 (a0:List (List Int)):(List (Int × Int) × Int)→Option (Step (List (Int × Int) × Int) ((List (Int × Int)) ⊕ (List (Int × Int)))):=fun (x295,x296)=>(if (decide (x296 < (List.length a0:Int)))=true then Option.bind (Option.bind (ixl a0 x296) (fun x351=>Option.bind (slices_ContainsFunc_int_int_se3d8 x351 x295) (fun x352=>(if x352=true then some (Sum.inl x295) else Option.bind (loopC (rup_units_l2 x295 x351) ([],0)) (fun x369=>Option.bind ((if ((List.length x369:Int) == 0)=true then some (Sum.inl ()) else Option.bind (if ((List.length x369:Int) == 1)=true then Option.bind (ixl x369 0) (fun x390=>Option.bind (rup_sheet_isTrue x295 x390) (fun x391=>some (!x391))) else some false:Option (Bool)) (fun x389=>(if x389=true then Option.bind (ixl x369 0) (fun x392=>some (Sum.inr (mput x295 x392 (w64 ((mget x295 x392) + 1))))) else some (Sum.inr x295)))):Option ((Unit) ⊕ (List (Int × Int)))) (fun y=>match y with | Sum.inl _=>some (Sum.inr ()) | Sum.inr x386=>some (Sum.inl x386)))))):Option ((List (Int × Int)) ⊕ (Unit))) (fun y=>match y with | Sum.inl x350=>some (Step.next (x350,(w64 (x296 + 1)))) | Sum.inr _=>some (Step.done (Sum.inl x295))) else some (Step.done (Sum.inr x295)))
noncomputable def rup_units_l4 (a0:List (List Int)):(List (Int × Int))→Option (Step (List (Int × Int)) (List (Int × Int) × Bool)):=fun x210=>Option.bind (rup_sheet_open x210 a0) (fun _=>Option.bind (loopC (rup_units_l3 a0) (x210,0)) (fun y=>match y with | Sum.inl x324=>some (Step.done (x324,true)) | Sum.inr x325=>(if ((List.length x325:Int) == (List.length x210:Int))=true then some (Step.done (x325,false)) else some (Step.next x325))))
abbrev rup_units_T (a0:List (List Int)) (a1:List Int) (r:List (Int × Int) × Bool):CS:=⟨[V 4 (.mp 0),V 5 (bv r.2)],[(0,.map (oM r.1))],1⟩
noncomputable def rup_units (a0:List (List Int)) (a1:List Int):Option (List (Int × Int) × Bool):=Option.bind (loopC (rup_units_l1 a1) (([]:List (Int × Int)),0)) (fun y=>match y with | Sum.inl x145=>some (x145,true) | Sum.inr x146=>Option.bind (loopC (rup_units_l4 a0) x146) (fun (x268,x269)=>some (x268,x269)))
theorem rup_units_ok (a0:List (List Int)) (a1:List Int):CtM E0 16 [.fsl 1 (List.map c_L3 a0),.fsl 1 (List.map cI a1)] [] 0 (rup_units a0 a1) (fun r:List (Int × Int) × Bool=>.tup [.mp 0,bv r.2]) (fun r:List (Int × Int) × Bool=>[(0,.map (oM r.1))]) 1:=ctm_intro (N:=66) (L:=rup_units_c) rup_units_k rfl (Nat.le_of_ble_eq_true rfl) (fun F hF=>by
 unfold rup_units
 refine jS ⟨[V 0 (.fsl 1 (List.map c_L3 a0)),V 1 (.fsl 1 (List.map cI a1))],[],0⟩ ?_
 refine jc_scope ?_
 refine jS ⟨[V 0 (.fsl 1 (List.map c_L3 a0)),V 1 (.fsl 1 (List.map cI a1)),V 6 (pt 1 1)],[(0,.map (oM ([]:List (Int × Int)))),W 1 1 [.mp 0]],2⟩ ?_
 refine jc_seq ?_
 refine jR ?_
 refine jG 0 3 ⟨[V 0 (.fsl 1 (List.map c_L3 a0)),V 6 (pt 1 1),V 13 (.fsl 1 (List.map cI a1)),V 14 (iv (List.length (List.map cI a1):Int)),V 15 (iv 0)],[(0,.map (oM ([]:List (Int × Int)))),W 1 1 [.mp 0]],2⟩ ?_
 simp only[List.length_map]
 refine jN ?_
 refine jc_block ?_
 refine jc_bind (fun y=>match y with | Sum.inl x145=>⟨[V 4 (.mp 0),V 5 (bv true)],[(0,.map (oM x145))],1⟩ | Sum.inr x146=>⟨[V 0 (.fsl 1 (List.map c_L3 a0)),V 6 (pt 0 1)],[W 0 1 [.mp 1],(1,.map (oM x146))],2⟩) (fun y=>match y with | Sum.inl x145=>.ret | Sum.inr x146=>(.exit 0)) (jc_loop (fun (x137,x138)=>⟨[V 0 (.fsl 1 (List.map c_L3 a0)),V 6 (pt 0 1),V 13 (.fsl 1 (List.map cI a1)),V 14 (iv (List.length a1:Int)),V 15 (iv x138)],[W 0 1 [.mp 1],(1,.map (oM x137))],2⟩) (wkR [(0,some 1),(1,some 0)] (fix_of hF (k:=0) rfl) (pc (hC 1) (pc (hM 0) allp_nil))) ?_) ?_
 ·rintro⟨x137,x138⟩
  unfold rup_units_l1
  refine jS ⟨[V 0 (.fsl 1 (List.map c_L3 a0)),V 6 (pt 0 1),V 13 (.fsl 1 (List.map cI a1)),V 14 (iv (List.length a1:Int)),V 15 (iv x138),V 16 (bv (decide (x138 < (List.length a1:Int))))],[W 0 1 [.mp 1],(1,.map (oM x137))],2⟩ ?_
  refine jc_seq ?_
  refine jIf ?_ ?_
  ·refine jc_skip ?_
   refine jx_seqN ?_
   refine jc_seq ?_
   refine jc_bind (fun y=>match y with | Sum.inl x150=>⟨[V 0 (.fsl 1 (List.map c_L3 a0)),V 6 (pt 0 1),V 13 (.fsl 1 (List.map cI a1)),V 14 (iv (List.length a1:Int)),V 15 (iv x138)],[W 0 1 [.mp 1],(1,.map (oM x150))],2⟩ | Sum.inr _=>⟨[V 4 (.mp 0),V 5 (bv true)],[(0,.map (oM x137))],1⟩) (fun y=>match y with | Sum.inl x150=>.normal | Sum.inr _=>.ret) ?_ ?_
   ·refine jc_block ?_
    refine jR ?_
    refine jr_part (i:=0) (mo:=ixl a1 x138) rfl rfl rfl rfl (fun _ hc=>aop_ixf (c:=cI) (sz:=1) (e:=3) (kk:=.i64) (by kernel_rfl) (by kernel_rfl) (by kernel_rfl) (by kernel_rfl) hc) (fun _=>rfl) ?_
    intro x151 h151
    refine jG 1 2 ⟨[V 0 (.fsl 1 (List.map c_L3 a0)),V 6 (pt 0 1),V 8 (iv x151),V 13 (.fsl 1 (List.map cI a1)),V 14 (iv (List.length a1:Int)),V 15 (iv x138)],[W 0 1 [.mp 1],(1,.map (oM x137))],2⟩ ?_
    refine jN ?_
    refine jc_seq ?_
    refine jR ?_
    refine jG 0 1 ⟨[V 0 (.fsl 1 (List.map c_L3 a0)),V 6 (pt 0 1),V 8 (iv x151),V 13 (.fsl 1 (List.map cI a1)),V 14 (iv (List.length a1:Int)),V 15 (iv x138),V 19 (iv x151)],[W 0 1 [.mp 1],(1,.map (oM x137))],2⟩ ?_
    refine jK 1 (rup_literal_ok x151) ?_
    intro x152 h152
    refine jG 2 1 ⟨[V 0 (.fsl 1 (List.map c_L3 a0)),V 6 (pt 0 1),V 8 (iv x151),V 13 (.fsl 1 (List.map cI a1)),V 14 (iv (List.length a1:Int)),V 15 (iv x138),V 21 (bv (!x152))],[W 0 1 [.mp 1],(1,.map (oM x137))],2⟩ ?_
    refine jN ?_
    refine jIf ?_ ?_
    ·refine jc_exit ?_
     refine jx_seqE ?_
     refine jx_blkE ?_
     exact jx_mid rfl (wkR [(0,some 0),(1,some 1)] (fix_of hF (k:=0) rfl) (pc (hC 0) (pc (hM 1) allp_nil)))
    refine jc_skip ?_
    refine jx_seqN ?_
    refine jc_seq ?_
    refine jR ?_
    refine jG 0 3 ⟨[V 0 (.fsl 1 (List.map c_L3 a0)),V 6 (pt 0 1),V 8 (iv x151),V 13 (.fsl 1 (List.map cI a1)),V 14 (iv (List.length a1:Int)),V 15 (iv x138),V 22 (.mp 1),V 24 (iv (w64 (0 - x151)))],[W 0 1 [.mp 1],(1,.map (oM x137))],2⟩ ?_
    refine jr_callF (i:=3) rfl rfl rfl rfl (vs:=[.mp 1,iv (w64 (0 - x151))]) (by kernel_rfl) (snapL_cons (snapc_mp (by kernel_rfl)) (snapL_cons rfl (snapL_nil _))) (all2_cons (fle_refl _) (all2_cons (fle_refl _) all2_nil)) (rup_sheet_isTrue_ok x137 (w64 (0 - x151))) (fun _=>rfl) (fun _=>rfl) ?_
    intro x153 h153
    refine jN ?_
    refine jIf ?_ ?_
    ·refine jS ⟨[V 4 (.mp 1),V 5 (bv true)],[(1,.map (oM x137))],2⟩ ?_
     refine jc_ret ?_
     refine jx_seqR ?_
     refine jx_blkR ?_
     exact jx_mid rfl (wkR [(0,some 1)] (fix_of hF (k:=0) rfl) (pc (hM 1) allp_nil))
    refine jc_skip ?_
    refine jx_seqN ?_
    refine jc_reg ?_
    refine jG 0 2 ⟨[V 0 (.fsl 1 (List.map c_L3 a0)),V 6 (pt 0 1),V 13 (.fsl 1 (List.map cI a1)),V 14 (iv (List.length a1:Int)),V 15 (iv x138),V 27 (.mp 1),V 28 (iv x151)],[W 0 1 [.mp 1],(1,.map (oM x137))],2⟩ ?_
    refine jr_one (i:=2) (v:=iv (mget x137 x151)) (us:=[]) rfl rfl rfl rfl (aop_look (l:=x137) (id:=1) (kk:=x151) (kt:=3) (et:=3) (by kernel_rfl) (by kernel_rfl) (by kernel_rfl) (by kernel_rfl) (by kernel_rfl) (by kernel_rfl)) rfl ?_
    refine jG 3 1 ⟨[V 0 (.fsl 1 (List.map c_L3 a0)),V 6 (pt 0 1),V 13 (.fsl 1 (List.map cI a1)),V 14 (iv (List.length a1:Int)),V 15 (iv x138),V 27 (.mp 1),V 28 (iv x151),V 30 (iv (w64 ((mget x137 x151) + 1)))],[W 0 1 [.mp 1],(1,.map (oM x137))],2⟩ ?_
    refine jr_sto (i:=4) [0,6,13,14,15] [0,1] (st1:=⟨[V 0 (.fsl 1 (List.map c_L3 a0)),V 6 (pt 0 1),V 13 (.fsl 1 (List.map cI a1)),V 14 (iv (List.length a1:Int)),V 15 (iv x138)],[W 0 1 [.mp 1],(1,.map (oM (mput x137 x151 (w64 ((mget x137 x151) + 1)))))],2⟩) rfl rfl rfl rfl (aop_mput (l:=x137) (id:=1) (kk:=x151) (v:=(w64 ((mget x137 x151) + 1))) (kt:=3) (et:=3) (by kernel_rfl) (by kernel_rfl) (by kernel_rfl) (by kernel_rfl) (by kernel_rfl) (by kernel_rfl)) (by kernel_rfl) ?_
    refine jr_nil rfl ?_
    refine jx_blkN ?_
    exact jx_mid rfl (wkR [(0,some 0),(1,some 1)] (fix_of hF (k:=0) rfl) (pc (hC 0) (pc (hM 1) allp_nil)))
   rintro (x150 | _)
   ·refine jx_seqN ?_
    refine jT ⟨[V 0 (.fsl 1 (List.map c_L3 a0)),V 6 (pt 0 1),V 13 (.fsl 1 (List.map cI a1)),V 14 (iv (List.length a1:Int)),V 15 (iv (w64 (x138 + 1)))],[W 0 1 [.mp 1],(1,.map (oM x150))],2⟩ ?_
    exact jx_next (wkR [(0,some 0),(1,some 1)] (fix_of hF (k:=0) rfl) (pc (hC 0) (pc (hM 1) allp_nil)))
   refine jx_seqR ?_
   exact jx_done rfl nofun (wkR [(0,some 0)] (fix_of hF (k:=0) rfl) (pc (hM 0) allp_nil))
  refine jc_exit ?_
  refine jx_seqE ?_
  exact jx_done rfl nofun (wkR [(0,some 0),(1,some 1)] (fix_of hF (k:=0) rfl) (pc (hC 0) (pc (hM 1) allp_nil)))
 rintro (x145 | x146)
 ·refine jx_blkR ?_
  refine jx_seqR ?_
  refine jx_scopeR ?_
  exact jx_retM (rup_units_T a0 a1 (x145,true)) (.inr rfl) (wkR [(0,some 0)] (fix_of hF (k:=0) rfl) (pc (hM 0) allp_nil))
 refine jx_blkE ?_
 refine jx_seqN ?_
 refine jS ⟨[V 0 (.fsl 1 (List.map c_L3 a0)),V 6 (pt 0 1),V 9 (pt 2 1)],[W 0 1 [.mp 1],(1,.map (oM x146)),W 2 1 [bv false]],3⟩ ?_
 refine jc_seq ?_
 refine jc_label ?_
 refine jx_seqN ?_
 refine jc_seq ?_
 refine jc_block ?_
 refine jc_bind (fun (x268,x269)=>⟨[V 6 (pt 0 1),V 9 (pt 2 1)],[W 0 1 [.mp 1],(1,.map (oM x268)),W 2 1 [bv x269]],3⟩) (fun (x268,x269)=>(.exit 2)) (jc_loop (fun x210=>⟨[V 0 (.fsl 1 (List.map c_L3 a0)),V 6 (pt 0 1),V 9 (pt 2 1)],[W 0 1 [.mp 1],(1,.map (oM x210)),W 2 1 [bv false]],3⟩) (wkR [(0,some 0),(1,some 1),(2,some 2)] (fix_of hF (k:=0) rfl) (pc (hC 0) (pc (hM 1) (pc (hC 2) allp_nil)))) ?_) ?_
 ·intro x210
  unfold rup_units_l4
  refine jc_block ?_
  refine jR ?_
  refine jG 0 1 ⟨[V 0 (.fsl 1 (List.map c_L3 a0)),V 6 (pt 0 1),V 9 (pt 2 1),V 32 (.mp 1)],[W 0 1 [.mp 1],(1,.map (oM x210)),W 2 1 [bv false]],3⟩ ?_
  refine jr_one (i:=1) (v:=iv (List.length x210:Int)) (us:=[]) rfl rfl rfl rfl (aop_lenm (l:=x210) (id:=1) (kt:=3) (et:=3) (by kernel_rfl) (by kernel_rfl) (by kernel_rfl) (by kernel_rfl)) rfl ?_
  refine jG 2 1 ⟨[V 0 (.fsl 1 (List.map c_L3 a0)),V 6 (pt 0 1),V 9 (pt 2 1),V 10 (iv (List.length x210:Int))],[W 0 1 [.mp 1],(1,.map (oM x210)),W 2 1 [bv false]],3⟩ ?_
  refine jN ?_
  refine jc_seq ?_
  refine jR ?_
  refine jG 0 2 ⟨[V 0 (.fsl 1 (List.map c_L3 a0)),V 6 (pt 0 1),V 9 (pt 2 1),V 10 (iv (List.length x210:Int)),V 34 (.mp 1),V 35 (.fsl 1 (List.map c_L3 a0))],[W 0 1 [.mp 1],(1,.map (oM x210)),W 2 1 [bv false]],3⟩ ?_
  refine jr_callM 2 [(0,some 1)] [(1,some 0),(3,some 1),(4,some 2)] (fun r:Unit=>[W 0 1 [.mp 1],(1,.map (oM x210)),W 2 1 [bv false],W 3 1 [.fsl 1 (List.map c_L3 a0)],W 4 1 [.mp 1]]) (fun r:Unit=>.fn 37 [pt 3 1,pt 4 1]) 5 (rup_sheet_open_ok x210 a0) (pc (hM 1) allp_nil) (fun r=>(pc (.inl ⟨rfl,rfl⟩) (pc (.inr (hM 0)) (pc (.inl ⟨rfl,rfl⟩) (pc (.inr (hC 1)) (pc (.inr (hC 2)) allp_nil)))))) ?_
  rintro⟨⟩ hm22
  refine jN ?_
  refine jc_block ?_
  refine jc_keep [0,6,9,10,36] [0,1,2,3,4] (st1:=⟨[V 0 (.fsl 1 (List.map c_L3 a0)),V 6 (pt 0 1),V 9 (pt 2 1),V 10 (iv (List.length x210:Int)),V 36 (.fn 37 [pt 3 1,pt 4 1])],[W 0 1 [.mp 1],(1,.map (oM x210)),W 2 1 [bv false],W 3 1 [.fsl 1 (List.map c_L3 a0)],W 4 1 [.mp 1]],5⟩) (by kernel_rfl) ?_
  refine jc_rng (g:=37) (caps:=[pt 3 1,pt 4 1]) (by kernel_rfl) rup_sheet_open_1_it_k (Nat.le_of_ble_eq_true rfl) ?_
  intro F17 hc17
  refine jR ?_
  refine jG 0 3 ⟨[V 0 (.yld 5),V 2 (pt 4 1),V 9 (.fsl 1 (List.map c_L3 a0)),V 10 (iv (List.length (List.map c_L3 a0):Int)),V 11 (iv 0)],[W 0 1 [.mp 1],(1,.map (oM x210)),W 2 1 [bv false],W 3 1 [.fsl 1 (List.map c_L3 a0)],W 4 1 [.mp 1],(5,rup_units_lp17 a0 x210 .ready none)],6⟩ ?_
  simp only[List.length_map]
  refine jN ?_
  refine jc_block ?_
  refine jc_bind (fun y=>match y with | Sum.inl x324=>⟨[],[W 0 1 [.mp 1],(1,.map (oM x324)),W 2 1 [bv true],W 3 1 [.fsl 1 (List.map c_L3 a0)],W 4 1 [.mp 1],(5,rup_units_lp17 a0 x210 .done (some (.exit 2)))],6⟩ | Sum.inr x325=>⟨[],[W 0 1 [.mp 1],(1,.map (oM x325)),W 2 1 [bv false],W 3 1 [.fsl 1 (List.map c_L3 a0)],W 4 1 [.mp 1],(5,rup_units_lp17 a0 x210 .ready none)],6⟩) (fun y=>match y with | Sum.inl x324=>.ret | Sum.inr x325=>(.exit 0)) (jc_loop (fun (x295,x296)=>⟨[V 0 (.yld 5),V 2 (pt 4 1),V 9 (.fsl 1 (List.map c_L3 a0)),V 10 (iv (List.length a0:Int)),V 11 (iv x296)],[W 0 1 [.mp 1],(1,.map (oM x295)),W 2 1 [bv false],W 3 1 [.fsl 1 (List.map c_L3 a0)],W 4 1 [.mp 1],(5,rup_units_lp17 a0 x210 .ready none)],6⟩) (wkR [(0,some 0),(1,some 1),(2,some 2),(3,some 3),(4,some 4),(5,some 5)] (fix_of hc17.2.2 (k:=6) rfl) (pc (hC 0) (pc (hM 1) (pc (hC 2) (pc (hC 3) (pc (hC 4) (pc (.inr (.inr (.inl ⟨5,_,_,rfl,rfl,rfl,by kernel_rfl⟩))) allp_nil))))))) ?_) ?_
  ·rintro⟨x295,x296⟩
   unfold rup_units_l3
   refine jS ⟨[V 0 (.yld 5),V 2 (pt 4 1),V 9 (.fsl 1 (List.map c_L3 a0)),V 10 (iv (List.length a0:Int)),V 11 (iv x296),V 12 (bv (decide (x296 < (List.length a0:Int))))],[W 0 1 [.mp 1],(1,.map (oM x295)),W 2 1 [bv false],W 3 1 [.fsl 1 (List.map c_L3 a0)],W 4 1 [.mp 1],(5,rup_units_lp17 a0 x210 .ready none)],6⟩ ?_
   refine jc_seq ?_
   refine jIf ?_ ?_
   ·refine jc_skip ?_
    refine jx_seqN ?_
    refine jc_seq ?_
    refine jc_bind (fun y=>match y with | Sum.inl x350=>⟨[V 0 (.yld 5),V 2 (pt 4 1),V 9 (.fsl 1 (List.map c_L3 a0)),V 10 (iv (List.length a0:Int)),V 11 (iv x296)],[W 0 1 [.mp 1],(1,.map (oM x350)),W 2 1 [bv false],W 3 1 [.fsl 1 (List.map c_L3 a0)],W 4 1 [.mp 1],(5,rup_units_lp17 a0 x210 .ready none)],6⟩ | Sum.inr _=>⟨[],[W 0 1 [.mp 1],(1,.map (oM x295)),W 2 1 [bv true],W 3 1 [.fsl 1 (List.map c_L3 a0)],W 4 1 [.mp 1],(5,rup_units_lp17 a0 x210 .done (some (.exit 2)))],6⟩) (fun y=>match y with | Sum.inl x350=>.normal | Sum.inr _=>.ret) ?_ ?_
    ·refine jc_block ?_
     refine jR ?_
     refine jr_part (i:=0) (mo:=ixl a0 x296) rfl rfl rfl rfl (fun _ hc=>aop_ixf (c:=c_L3) (sz:=1) (e:=23) (kk:=.i64) (by kernel_rfl) (by kernel_rfl) (by kernel_rfl) (by kernel_rfl) hc) (fun _=>rfl) ?_
     intro x351 h351
     refine jG 1 2 ⟨[V 0 (.yld 5),V 2 (pt 4 1),V 5 (.fsl 1 (List.map cI x351)),V 9 (.fsl 1 (List.map c_L3 a0)),V 10 (iv (List.length a0:Int)),V 11 (iv x296)],[W 0 1 [.mp 1],(1,.map (oM x295)),W 2 1 [bv false],W 3 1 [.fsl 1 (List.map c_L3 a0)],W 4 1 [.mp 1],(5,rup_units_lp17 a0 x210 .ready none)],6⟩ ?_
     refine jN ?_
     refine jc_seq ?_
     refine jR ?_
     refine jG 0 2 ⟨[V 0 (.yld 5),V 2 (pt 4 1),V 5 (.fsl 1 (List.map cI x351)),V 9 (.fsl 1 (List.map c_L3 a0)),V 10 (iv (List.length a0:Int)),V 11 (iv x296),V 15 (.fsl 1 (List.map cI x351)),V 16 (.fn 39 [pt 4 1])],[W 0 1 [.mp 1],(1,.map (oM x295)),W 2 1 [bv false],W 3 1 [.fsl 1 (List.map c_L3 a0)],W 4 1 [.mp 1],(5,rup_units_lp17 a0 x210 .ready none)],6⟩ ?_
     refine jr_callF (i:=2) rfl rfl rfl rfl (vs:=[.fsl 1 (List.map cI x351),.fn 39 [pt 4 1]]) (by kernel_rfl) (snapL_cons rfl (snapL_cons (snapc_fn (snapL_cons (snapc_ptr (row:=[.mp 1]) (by kernel_rfl) (snapL_cons (snapc_mp (by kernel_rfl)) (snapL_nil _))) (snapL_nil _))) (snapL_nil _))) (all2_cons (fle_refl _) (all2_cons (fle_refl _) all2_nil)) (slices_ContainsFunc_int_int_se3d8_ok x351 x295) (fun _=>rfl) (fun _=>rfl) ?_
     intro x352 h352
     refine jN ?_
     refine jIf ?_ ?_
     ·refine jc_exit ?_
      refine jx_seqE ?_
      refine jx_blkE ?_
      exact jx_mid rfl (wkR [(0,some 0),(1,some 1),(2,some 2),(3,some 3),(4,some 4),(5,some 5)] (fix_of hc17.2.2 (k:=6) rfl) (pc (hC 0) (pc (hM 1) (pc (hC 2) (pc (hC 3) (pc (hC 4) (pc (.inr (.inr (.inl ⟨5,_,_,rfl,rfl,rfl,by kernel_rfl⟩))) allp_nil)))))))
     refine jc_skip ?_
     refine jx_seqN ?_
     refine jS ⟨[V 0 (.yld 5),V 2 (pt 4 1),V 5 (.fsl 1 (List.map cI x351)),V 6 (nilS),V 9 (.fsl 1 (List.map c_L3 a0)),V 10 (iv (List.length a0:Int)),V 11 (iv x296)],[W 0 1 [.mp 1],(1,.map (oM x295)),W 2 1 [bv false],W 3 1 [.fsl 1 (List.map c_L3 a0)],W 4 1 [.mp 1],(5,rup_units_lp17 a0 x210 .ready none)],6⟩ ?_
     refine jc_seq ?_
     refine jR ?_
     refine jG 0 3 ⟨[V 0 (.yld 5),V 2 (pt 4 1),V 6 (nilS),V 9 (.fsl 1 (List.map c_L3 a0)),V 10 (iv (List.length a0:Int)),V 11 (iv x296),V 18 (.fsl 1 (List.map cI x351)),V 19 (iv (List.length (List.map cI x351):Int)),V 20 (iv 0)],[W 0 1 [.mp 1],(1,.map (oM x295)),W 2 1 [bv false],W 3 1 [.fsl 1 (List.map c_L3 a0)],W 4 1 [.mp 1],(5,rup_units_lp17 a0 x210 .ready none)],6⟩ ?_
     simp only[List.length_map]
     refine jN ?_
     refine jc_block ?_
     refine jc_bind (fun x369=>⟨[V 0 (.yld 5),V 2 (pt 4 1),V 6 (.osl 6 0 (List.length x369) 1),V 9 (.fsl 1 (List.map c_L3 a0)),V 10 (iv (List.length a0:Int)),V 11 (iv x296)],[W 0 1 [.mp 1],(1,.map (oM x295)),W 2 1 [bv false],W 3 1 [.fsl 1 (List.map c_L3 a0)],W 4 1 [.mp 1],(5,rup_units_lp17 a0 x210 .ready none),(6,.rows 1 (List.map cI x369))],7⟩) (fun x369=>(.exit 2)) (jc_loop (fun (x359,x360)=>⟨[V 0 (.yld 5),V 2 (pt 4 1),V 6 (.osl 6 0 (List.length x359) 1),V 9 (.fsl 1 (List.map c_L3 a0)),V 10 (iv (List.length a0:Int)),V 11 (iv x296),V 18 (.fsl 1 (List.map cI x351)),V 19 (iv (List.length x351:Int)),V 20 (iv x360)],[W 0 1 [.mp 1],(1,.map (oM x295)),W 2 1 [bv false],W 3 1 [.fsl 1 (List.map c_L3 a0)],W 4 1 [.mp 1],(5,rup_units_lp17 a0 x210 .ready none),(6,.rows 1 (List.map cI x359))],7⟩) (wkR [(0,some 0),(1,some 1),(2,some 2),(3,some 3),(4,some 4),(5,some 5),(6,none)] (fix_of hc17.2.2 (k:=6) rfl) (pc (hC 0) (pc (hM 1) (pc (hC 2) (pc (hC 3) (pc (hC 4) (pc (.inr (.inr (.inl ⟨5,_,_,rfl,rfl,rfl,by kernel_rfl⟩))) (pc hZ allp_nil)))))))) ?_) ?_
     ·rintro⟨x359,x360⟩
      unfold rup_units_l2
      refine jS ⟨[V 0 (.yld 5),V 2 (pt 4 1),V 6 (.osl 6 0 (List.length x359) 1),V 9 (.fsl 1 (List.map c_L3 a0)),V 10 (iv (List.length a0:Int)),V 11 (iv x296),V 18 (.fsl 1 (List.map cI x351)),V 19 (iv (List.length x351:Int)),V 20 (iv x360),V 21 (bv (decide (x360 < (List.length x351:Int))))],[W 0 1 [.mp 1],(1,.map (oM x295)),W 2 1 [bv false],W 3 1 [.fsl 1 (List.map c_L3 a0)],W 4 1 [.mp 1],(5,rup_units_lp17 a0 x210 .ready none),(6,.rows 1 (List.map cI x359))],7⟩ ?_
      refine jc_seq ?_
      refine jIf ?_ ?_
      ·refine jc_skip ?_
       refine jx_seqN ?_
       refine jc_seq ?_
       refine jc_bind (fun x375=>⟨[V 0 (.yld 5),V 2 (pt 4 1),V 6 (.osl 6 0 (List.length x375) 1),V 9 (.fsl 1 (List.map c_L3 a0)),V 10 (iv (List.length a0:Int)),V 11 (iv x296),V 18 (.fsl 1 (List.map cI x351)),V 19 (iv (List.length x351:Int)),V 20 (iv x360)],[W 0 1 [.mp 1],(1,.map (oM x295)),W 2 1 [bv false],W 3 1 [.fsl 1 (List.map c_L3 a0)],W 4 1 [.mp 1],(5,rup_units_lp17 a0 x210 .ready none),(6,.rows 1 (List.map cI x375))],7⟩) (fun x375=>.normal) ?_ ?_
       ·refine jc_block ?_
        refine jR ?_
        refine jr_part (i:=0) (mo:=ixl x351 x360) rfl rfl rfl rfl (fun _ hc=>aop_ixf (c:=cI) (sz:=1) (e:=3) (kk:=.i64) (by kernel_rfl) (by kernel_rfl) (by kernel_rfl) (by kernel_rfl) hc) (fun _=>rfl) ?_
        intro x376 h376
        refine jG 1 2 ⟨[V 0 (.yld 5),V 2 (pt 4 1),V 6 (.osl 6 0 (List.length x359) 1),V 8 (iv x376),V 9 (.fsl 1 (List.map c_L3 a0)),V 10 (iv (List.length a0:Int)),V 11 (iv x296),V 18 (.fsl 1 (List.map cI x351)),V 19 (iv (List.length x351:Int)),V 20 (iv x360)],[W 0 1 [.mp 1],(1,.map (oM x295)),W 2 1 [bv false],W 3 1 [.fsl 1 (List.map c_L3 a0)],W 4 1 [.mp 1],(5,rup_units_lp17 a0 x210 .ready none),(6,.rows 1 (List.map cI x359))],7⟩ ?_
        refine jN ?_
        refine jR ?_
        refine jG 0 3 ⟨[V 0 (.yld 5),V 2 (pt 4 1),V 6 (.osl 6 0 (List.length x359) 1),V 8 (iv x376),V 9 (.fsl 1 (List.map c_L3 a0)),V 10 (iv (List.length a0:Int)),V 11 (iv x296),V 18 (.fsl 1 (List.map cI x351)),V 19 (iv (List.length x351:Int)),V 20 (iv x360),V 24 (.mp 1),V 26 (iv (w64 (0 - x376)))],[W 0 1 [.mp 1],(1,.map (oM x295)),W 2 1 [bv false],W 3 1 [.fsl 1 (List.map c_L3 a0)],W 4 1 [.mp 1],(5,rup_units_lp17 a0 x210 .ready none),(6,.rows 1 (List.map cI x359))],7⟩ ?_
        refine jr_callF (i:=3) rfl rfl rfl rfl (vs:=[.mp 1,iv (w64 (0 - x376))]) (by kernel_rfl) (snapL_cons (snapc_mp (by kernel_rfl)) (snapL_cons rfl (snapL_nil _))) (all2_cons (fle_refl _) (all2_cons (fle_refl _) all2_nil)) (rup_sheet_isTrue_ok x295 (w64 (0 - x376))) (fun _=>rfl) (fun _=>rfl) ?_
        intro x377 h377
        refine jG 4 2 ⟨[V 0 (.yld 5),V 2 (pt 4 1),V 6 (.osl 6 0 (List.length x359) 1),V 8 (iv x376),V 9 (.fsl 1 (List.map c_L3 a0)),V 10 (iv (List.length a0:Int)),V 11 (iv x296),V 18 (.fsl 1 (List.map cI x351)),V 19 (iv (List.length x351:Int)),V 20 (iv x360),V 29 (bv (!x377))],[W 0 1 [.mp 1],(1,.map (oM x295)),W 2 1 [bv false],W 3 1 [.fsl 1 (List.map c_L3 a0)],W 4 1 [.mp 1],(5,rup_units_lp17 a0 x210 .ready none),(6,.rows 1 (List.map cI x359))],7⟩ ?_
        refine jr_bind 6 5 (fun x379=>⟨[V 0 (.yld 5),V 2 (pt 4 1),V 6 (.osl 6 0 (List.length x359) 1),V 8 (iv x376),V 9 (.fsl 1 (List.map c_L3 a0)),V 10 (iv (List.length a0:Int)),V 11 (iv x296),V 18 (.fsl 1 (List.map cI x351)),V 19 (iv (List.length x351:Int)),V 20 (iv x360),V 34 (bv x379)],[W 0 1 [.mp 1],(1,.map (oM x295)),W 2 1 [bv false],W 3 1 [.fsl 1 (List.map c_L3 a0)],W 4 1 [.mp 1],(5,rup_units_lp17 a0 x210 .ready none),(6,.rows 1 (List.map cI x359))],7⟩) ?_ ?_
        ·refine jSp 29 ?_ ?_
         ·refine jG 0 2 ⟨[V 0 (.yld 5),V 2 (pt 4 1),V 6 (.osl 6 0 (List.length x359) 1),V 8 (iv x376),V 9 (.fsl 1 (List.map c_L3 a0)),V 10 (iv (List.length a0:Int)),V 11 (iv x296),V 18 (.fsl 1 (List.map cI x351)),V 19 (iv (List.length x351:Int)),V 20 (iv x360),(29,.lit true),V 30 (.osl 6 0 (List.length x359) 1),V 31 (iv x376)],[W 0 1 [.mp 1],(1,.map (oM x295)),W 2 1 [bv false],W 3 1 [.fsl 1 (List.map c_L3 a0)],W 4 1 [.mp 1],(5,rup_units_lp17 a0 x210 .ready none),(6,.rows 1 (List.map cI x359))],7⟩ ?_
          refine jr_callF (i:=2) rfl rfl rfl rfl (vs:=[.osl 6 0 (List.length x359) 1,iv x376]) (by kernel_rfl) (snapL_cons (snapc_own fz_I (by kernel_rfl)) (snapL_cons rfl (snapL_nil _))) (all2_cons (fle_refl _) (all2_cons (fle_refl _) all2_nil)) (slices_Contains_int_int_ok x359 x376) (fun _=>rfl) (fun _=>rfl) ?_
          intro x380 h380
          refine jG 3 2 ⟨[V 0 (.yld 5),V 2 (pt 4 1),V 6 (.osl 6 0 (List.length x359) 1),V 8 (iv x376),V 9 (.fsl 1 (List.map c_L3 a0)),V 10 (iv (List.length a0:Int)),V 11 (iv x296),V 18 (.fsl 1 (List.map cI x351)),V 19 (iv (List.length x351:Int)),V 20 (iv x360),V 34 (bv (!x380))],[W 0 1 [.mp 1],(1,.map (oM x295)),W 2 1 [bv false],W 3 1 [.fsl 1 (List.map c_L3 a0)],W 4 1 [.mp 1],(5,rup_units_lp17 a0 x210 .ready none),(6,.rows 1 (List.map cI x359))],7⟩ ?_
          refine jr_nil rfl ?_
          exact jx_mid rfl (wkR [(0,some 0),(1,some 1),(2,some 2),(3,some 3),(4,some 4),(5,some 5),(6,some 6)] (fix_of hc17.2.2 (k:=6) rfl) (pc (hC 0) (pc (hM 1) (pc (hC 2) (pc (hC 3) (pc (hC 4) (pc (.inr (.inr (.inl ⟨5,_,_,rfl,rfl,rfl,by kernel_rfl⟩))) (pc (hL 6 (noid_map ni_I _)) allp_nil))))))))
         refine jG 0 5 ⟨[V 0 (.yld 5),V 2 (pt 4 1),V 6 (.osl 6 0 (List.length x359) 1),V 8 (iv x376),V 9 (.fsl 1 (List.map c_L3 a0)),V 10 (iv (List.length a0:Int)),V 11 (iv x296),V 18 (.fsl 1 (List.map cI x351)),V 19 (iv (List.length x351:Int)),V 20 (iv x360),V 34 (bv false)],[W 0 1 [.mp 1],(1,.map (oM x295)),W 2 1 [bv false],W 3 1 [.fsl 1 (List.map c_L3 a0)],W 4 1 [.mp 1],(5,rup_units_lp17 a0 x210 .ready none),(6,.rows 1 (List.map cI x359))],7⟩ ?_
         refine jr_nil rfl ?_
         exact jx_mid rfl (wkR [(0,some 0),(1,some 1),(2,some 2),(3,some 3),(4,some 4),(5,some 5),(6,some 6)] (fix_of hc17.2.2 (k:=6) rfl) (pc (hC 0) (pc (hM 1) (pc (hC 2) (pc (hC 3) (pc (hC 4) (pc (.inr (.inr (.inl ⟨5,_,_,rfl,rfl,rfl,by kernel_rfl⟩))) (pc (hL 6 (noid_map ni_I _)) allp_nil))))))))
        intro x379
        refine jN ?_
        refine jIf ?_ ?_
        ·refine jc_reg ?_
         refine jG 0 3 ⟨[V 0 (.yld 5),V 2 (pt 4 1),V 9 (.fsl 1 (List.map c_L3 a0)),V 10 (iv (List.length a0:Int)),V 11 (iv x296),V 18 (.fsl 1 (List.map cI x351)),V 19 (iv (List.length x351:Int)),V 20 (iv x360),V 35 (.osl 6 0 (List.length x359) 1),V 37 (.osl 7 0 (List.length [x376]) 1)],[W 0 1 [.mp 1],(1,.map (oM x295)),W 2 1 [bv false],W 3 1 [.fsl 1 (List.map c_L3 a0)],W 4 1 [.mp 1],(5,rup_units_lp17 a0 x210 .ready none),(6,.rows 1 (List.map cI x359)),(7,.rows 1 (List.map cI [x376]))],8⟩ ?_
         refine jr_part (i:=3) (mo:=app 8 x359 [x376]) rfl rfl rfl rfl (fun _ hc=>aop_app (u:=.osl 6 0 (List.length x359) 1) (w:=.osl 7 0 (List.length [x376]) 1) (e:=3) (td:=.slice 3) (by kernel_rfl) (by kernel_rfl) (by kernel_rfl) (by kernel_rfl) (.inl ⟨_,rfl⟩) (appendOf_own (c:=cI) (sz:=1) (b:=8) (id:=6) (by kernel_rfl) (by kernel_rfl) (rows_own (by kernel_rfl)) (List.cons_ne_nil _ _) hc)) (fun _=>rfl) ?_
         intro x381 h381
         refine jG 4 1 ⟨[V 0 (.yld 5),V 2 (pt 4 1),V 6 (.osl 8 0 (List.length x381) 1),V 9 (.fsl 1 (List.map c_L3 a0)),V 10 (iv (List.length a0:Int)),V 11 (iv x296),V 18 (.fsl 1 (List.map cI x351)),V 19 (iv (List.length x351:Int)),V 20 (iv x360)],[W 0 1 [.mp 1],(1,.map (oM x295)),W 2 1 [bv false],W 3 1 [.fsl 1 (List.map c_L3 a0)],W 4 1 [.mp 1],(5,rup_units_lp17 a0 x210 .ready none),(8,.rows 1 (List.map cI x381))],9⟩ ?_
         refine jr_nil rfl ?_
         refine jx_blkN ?_
         exact jx_mid rfl (wkR [(0,some 0),(1,some 1),(2,some 2),(3,some 3),(4,some 4),(5,some 5),(6,some 8)] (fix_of hc17.2.2 (k:=6) rfl) (pc (hC 0) (pc (hM 1) (pc (hC 2) (pc (hC 3) (pc (hC 4) (pc (.inr (.inr (.inl ⟨5,_,_,rfl,rfl,rfl,by kernel_rfl⟩))) (pc (hL 8 (noid_map ni_I _)) allp_nil))))))))
        refine jc_skip ?_
        refine jx_blkN ?_
        exact jx_mid rfl (wkR [(0,some 0),(1,some 1),(2,some 2),(3,some 3),(4,some 4),(5,some 5),(6,some 6)] (fix_of hc17.2.2 (k:=6) rfl) (pc (hC 0) (pc (hM 1) (pc (hC 2) (pc (hC 3) (pc (hC 4) (pc (.inr (.inr (.inl ⟨5,_,_,rfl,rfl,rfl,by kernel_rfl⟩))) (pc (hL 6 (noid_map ni_I _)) allp_nil))))))))
       intro x375
       refine jx_seqN ?_
       refine jT ⟨[V 0 (.yld 5),V 2 (pt 4 1),V 6 (.osl 6 0 (List.length x375) 1),V 9 (.fsl 1 (List.map c_L3 a0)),V 10 (iv (List.length a0:Int)),V 11 (iv x296),V 18 (.fsl 1 (List.map cI x351)),V 19 (iv (List.length x351:Int)),V 20 (iv (w64 (x360 + 1)))],[W 0 1 [.mp 1],(1,.map (oM x295)),W 2 1 [bv false],W 3 1 [.fsl 1 (List.map c_L3 a0)],W 4 1 [.mp 1],(5,rup_units_lp17 a0 x210 .ready none),(6,.rows 1 (List.map cI x375))],7⟩ ?_
       exact jx_next (wkR [(0,some 0),(1,some 1),(2,some 2),(3,some 3),(4,some 4),(5,some 5),(6,some 6)] (fix_of hc17.2.2 (k:=6) rfl) (pc (hC 0) (pc (hM 1) (pc (hC 2) (pc (hC 3) (pc (hC 4) (pc (.inr (.inr (.inl ⟨5,_,_,rfl,rfl,rfl,by kernel_rfl⟩))) (pc (hL 6 (noid_map ni_I _)) allp_nil))))))))
      refine jc_exit ?_
      refine jx_seqE ?_
      exact jx_done rfl nofun (wkR [(0,some 0),(1,some 1),(2,some 2),(3,some 3),(4,some 4),(5,some 5),(6,some 6)] (fix_of hc17.2.2 (k:=6) rfl) (pc (hC 0) (pc (hM 1) (pc (hC 2) (pc (hC 3) (pc (hC 4) (pc (.inr (.inr (.inl ⟨5,_,_,rfl,rfl,rfl,by kernel_rfl⟩))) (pc (hL 6 (noid_map ni_I _)) allp_nil))))))))
     intro x369
     refine jx_blkE ?_
     refine jx_seqN ?_
     refine jR ?_
     refine jG 0 2 ⟨[V 0 (.yld 5),V 2 (pt 4 1),V 9 (.fsl 1 (List.map c_L3 a0)),V 10 (iv (List.length a0:Int)),V 11 (iv x296),V 40 (.yld 5),V 41 (.osl 6 0 (List.length x369) 1)],[W 0 1 [.mp 1],(1,.map (oM x295)),W 2 1 [bv false],W 3 1 [.fsl 1 (List.map c_L3 a0)],W 4 1 [.mp 1],(5,rup_units_lp17 a0 x210 .ready none),(6,.rows 1 (List.map cI x369))],7⟩ ?_
     refine jr_yield (i:=2) (l:=5) (Nc:=66) (Kc:=[V 0 (.fsl 1 (List.map c_L3 a0)),V 6 (pt 0 1),V 9 (pt 2 1),V 10 (iv (List.length x210:Int)),V 36 (.fn 37 [pt 3 1,pt 4 1])]) (ps:=[37]) (vs:=[.osl 6 0 (List.length x369) 1]) (fun y=>match y with | Sum.inl _=>⟨[],[W 0 1 [.mp 1],(1,.map (oM x295)),W 2 1 [bv true],W 3 1 [.fsl 1 (List.map c_L3 a0)],W 4 1 [.mp 1],(5,rup_units_lp17 a0 x210 .busy none)],7⟩ | Sum.inr x386=>⟨[],[W 0 1 [.mp 1],(1,.map (oM x386)),W 2 1 [bv false],W 3 1 [.fsl 1 (List.map c_L3 a0)],W 4 1 [.mp 1],(5,rup_units_lp17 a0 x210 .busy none)],7⟩) (fun y=>match y with | Sum.inl _=>(.exit 2) | Sum.inr x386=>.normal) [0,2,9,10,11,42] [0,1,2,3,4,5] (after:=(fun y=>match y with | Sum.inl _=>⟨[V 0 (.yld 5),V 2 (pt 4 1),V 9 (.fsl 1 (List.map c_L3 a0)),V 10 (iv (List.length a0:Int)),V 11 (iv x296),V 42 (bv false)],[W 0 1 [.mp 1],(1,.map (oM x295)),W 2 1 [bv true],W 3 1 [.fsl 1 (List.map c_L3 a0)],W 4 1 [.mp 1],(5,rup_units_lp17 a0 x210 .done (some (.exit 2)))],7⟩ | Sum.inr x386=>⟨[V 0 (.yld 5),V 2 (pt 4 1),V 9 (.fsl 1 (List.map c_L3 a0)),V 10 (iv (List.length a0:Int)),V 11 (iv x296),V 42 (bv true)],[W 0 1 [.mp 1],(1,.map (oM x386)),W 2 1 [bv false],W 3 1 [.fsl 1 (List.map c_L3 a0)],W 4 1 [.mp 1],(5,rup_units_lp17 a0 x210 .ready none)],7⟩)) rfl rfl rup_units_y19_aw rup_units_y19_bw (by kernel_rfl) (by kernel_rfl) (yctx_of hc17 rfl) rfl (by kernel_rfl) rfl ?_ (by rintro (_ | x386) <;> exact⟨none,by kernel_rfl⟩) (by rintro (_ | x386) <;> kernel_rfl) ?_
     ·intro F21 hy21
      refine jT ⟨[V 6 (pt 0 1),V 9 (pt 2 1),V 11 (.osl 6 0 (List.length x369) 1)],[W 0 1 [.mp 1],(1,.map (oM x295)),W 2 1 [bv false],W 3 1 [.fsl 1 (List.map c_L3 a0)],W 4 1 [.mp 1],(5,rup_units_lp17 a0 x210 .ready none),(6,.rows 1 (List.map cI x369))],7⟩ ?_
      refine jx_asg hy21 rfl ?_
      refine jc_block ?_
      refine jc_block ?_
      refine jS ⟨[V 6 (pt 0 1),V 9 (pt 2 1),V 11 (.osl 6 0 (List.length x369) 1),V 38 (bv ((List.length x369:Int) == 0))],[W 0 1 [.mp 1],(1,.map (oM x295)),W 2 1 [bv false],W 3 1 [.fsl 1 (List.map c_L3 a0)],W 4 1 [.mp 1],(5,rup_units_lp17 a0 x210 .busy none),(6,.rows 1 (List.map cI x369))],7⟩ ?_
      refine jIf ?_ ?_
      ·refine jS ⟨[],[W 0 1 [.mp 1],(1,.map (oM x295)),W 2 1 [bv true],W 3 1 [.fsl 1 (List.map c_L3 a0)],W 4 1 [.mp 1],(5,rup_units_lp17 a0 x210 .busy none)],7⟩ ?_
       refine jc_exit ?_
       refine jx_blkX rfl ?_
       refine jx_blkX rfl ?_
       exact jx_mid rfl (wkR [(0,some 0),(1,some 1),(2,some 2),(3,some 3),(4,some 4),(5,some 5),(6,some 6)] (fix_of hy21.2 (k:=7) rfl) (pc (hC 0) (pc (hM 1) (pc (hC 2) (pc (hC 3) (pc (hC 4) (pc (.inr (.inr (.inl ⟨5,_,_,rfl,rfl,rfl,by kernel_rfl⟩))) allp_nil)))))))
      refine jR ?_
      refine jG 0 4 ⟨[V 6 (pt 0 1),V 11 (.osl 6 0 (List.length x369) 1),V 46 (bv ((List.length x369:Int) == 1))],[W 0 1 [.mp 1],(1,.map (oM x295)),W 2 1 [bv false],W 3 1 [.fsl 1 (List.map c_L3 a0)],W 4 1 [.mp 1],(5,rup_units_lp17 a0 x210 .busy none),(6,.rows 1 (List.map cI x369))],7⟩ ?_
      refine jr_bind 4 7 (fun x389=>⟨[V 6 (pt 0 1),V 11 (.osl 6 0 (List.length x369) 1),V 53 (bv x389)],[W 0 1 [.mp 1],(1,.map (oM x295)),W 2 1 [bv false],W 3 1 [.fsl 1 (List.map c_L3 a0)],W 4 1 [.mp 1],(5,rup_units_lp17 a0 x210 .busy none),(6,.rows 1 (List.map cI x369))],7⟩) ?_ ?_
      ·refine jSp 46 ?_ ?_
       ·refine jG 0 2 ⟨[V 6 (pt 0 1),V 11 (.osl 6 0 (List.length x369) 1),(46,.lit true),V 47 (.mp 1),V 48 (.osl 6 0 (List.length x369) 1)],[W 0 1 [.mp 1],(1,.map (oM x295)),W 2 1 [bv false],W 3 1 [.fsl 1 (List.map c_L3 a0)],W 4 1 [.mp 1],(5,rup_units_lp17 a0 x210 .busy none),(6,.rows 1 (List.map cI x369))],7⟩ ?_
        refine jr_part (i:=2) (mo:=ixl x369 0) rfl rfl rfl rfl (fun _ hc=>aop_ixo0 (sz:=1) (e:=3) (kk:=.i64) (id:=6) (by kernel_rfl) (by kernel_rfl) (by kernel_rfl) (by kernel_rfl) hc) (fun _=>rfl) ?_
        intro x390 h390
        refine jr_one (i:=3) (v:=iv x390) rfl rfl rfl rfl (aop_ldo (l:=x369) (c:=cI) (id:=6) (k:=(Int.toNat 0)) (sz:=1) (off:=0) (a:=x390) (by kernel_rfl) (by kernel_rfl) (ixl_lt h390).2.2 (by kernel_rfl)) rfl ?_
        refine jr_callF (i:=4) rfl rfl rfl rfl (vs:=[.mp 1,iv x390]) (by kernel_rfl) (snapL_cons (snapc_mp (by kernel_rfl)) (snapL_cons rfl (snapL_nil _))) (all2_cons (fle_refl _) (all2_cons (fle_refl _) all2_nil)) (rup_sheet_isTrue_ok x295 x390) (fun _=>rfl) (fun _=>rfl) ?_
        intro x391 h391
        refine jG 5 2 ⟨[V 6 (pt 0 1),V 11 (.osl 6 0 (List.length x369) 1),V 53 (bv (!x391))],[W 0 1 [.mp 1],(1,.map (oM x295)),W 2 1 [bv false],W 3 1 [.fsl 1 (List.map c_L3 a0)],W 4 1 [.mp 1],(5,rup_units_lp17 a0 x210 .busy none),(6,.rows 1 (List.map cI x369))],7⟩ ?_
        refine jr_nil rfl ?_
        exact jx_mid rfl (wkR [(0,some 0),(1,some 1),(2,some 2),(3,some 3),(4,some 4),(5,some 5),(6,some 6)] (fix_of hy21.2 (k:=7) rfl) (pc (hC 0) (pc (hM 1) (pc (hC 2) (pc (hC 3) (pc (hC 4) (pc (.inr (.inr (.inl ⟨5,_,_,rfl,rfl,rfl,by kernel_rfl⟩))) (pc (hL 6 (noid_map ni_I _)) allp_nil))))))))
       refine jG 0 7 ⟨[V 6 (pt 0 1),V 11 (.osl 6 0 (List.length x369) 1),V 53 (bv false)],[W 0 1 [.mp 1],(1,.map (oM x295)),W 2 1 [bv false],W 3 1 [.fsl 1 (List.map c_L3 a0)],W 4 1 [.mp 1],(5,rup_units_lp17 a0 x210 .busy none),(6,.rows 1 (List.map cI x369))],7⟩ ?_
       refine jr_nil rfl ?_
       exact jx_mid rfl (wkR [(0,some 0),(1,some 1),(2,some 2),(3,some 3),(4,some 4),(5,some 5),(6,some 6)] (fix_of hy21.2 (k:=7) rfl) (pc (hC 0) (pc (hM 1) (pc (hC 2) (pc (hC 3) (pc (hC 4) (pc (.inr (.inr (.inl ⟨5,_,_,rfl,rfl,rfl,by kernel_rfl⟩))) (pc (hL 6 (noid_map ni_I _)) allp_nil))))))))
      intro x389
      refine jG 11 1 ⟨[V 6 (pt 0 1),V 11 (.osl 6 0 (List.length x369) 1),V 42 (bv x389)],[W 0 1 [.mp 1],(1,.map (oM x295)),W 2 1 [bv false],W 3 1 [.fsl 1 (List.map c_L3 a0)],W 4 1 [.mp 1],(5,rup_units_lp17 a0 x210 .busy none),(6,.rows 1 (List.map cI x369))],7⟩ ?_
      refine jN ?_
      refine jIf ?_ ?_
      ·refine jc_reg ?_
       refine jG 0 2 ⟨[V 54 (.mp 1),V 55 (.osl 6 0 (List.length x369) 1)],[W 0 1 [.mp 1],(1,.map (oM x295)),W 2 1 [bv false],W 3 1 [.fsl 1 (List.map c_L3 a0)],W 4 1 [.mp 1],(5,rup_units_lp17 a0 x210 .busy none),(6,.rows 1 (List.map cI x369))],7⟩ ?_
       refine jr_part (i:=2) (mo:=ixl x369 0) rfl rfl rfl rfl (fun _ hc=>aop_ixo0 (sz:=1) (e:=3) (kk:=.i64) (id:=6) (by kernel_rfl) (by kernel_rfl) (by kernel_rfl) (by kernel_rfl) hc) (fun _=>rfl) ?_
       intro x392 h392
       refine jr_one (i:=3) (v:=iv x392) rfl rfl rfl rfl (aop_ldo (l:=x369) (c:=cI) (id:=6) (k:=(Int.toNat 0)) (sz:=1) (off:=0) (a:=x392) (by kernel_rfl) (by kernel_rfl) (ixl_lt h392).2.2 (by kernel_rfl)) rfl ?_
       refine jr_one (i:=4) (v:=iv (mget x295 x392)) (us:=[]) rfl rfl rfl rfl (aop_look (l:=x295) (id:=1) (kk:=x392) (kt:=3) (et:=3) (by kernel_rfl) (by kernel_rfl) (by kernel_rfl) (by kernel_rfl) (by kernel_rfl) (by kernel_rfl)) rfl ?_
       refine jG 5 1 ⟨[V 54 (.mp 1),V 57 (iv x392),V 59 (iv (w64 ((mget x295 x392) + 1)))],[W 0 1 [.mp 1],(1,.map (oM x295)),W 2 1 [bv false],W 3 1 [.fsl 1 (List.map c_L3 a0)],W 4 1 [.mp 1],(5,rup_units_lp17 a0 x210 .busy none)],7⟩ ?_
       refine jr_sto (i:=6) [] [0,1,2,3,4,5] (st1:=⟨[],[W 0 1 [.mp 1],(1,.map (oM (mput x295 x392 (w64 ((mget x295 x392) + 1))))),W 2 1 [bv false],W 3 1 [.fsl 1 (List.map c_L3 a0)],W 4 1 [.mp 1],(5,rup_units_lp17 a0 x210 .busy none)],7⟩) rfl rfl rfl rfl (aop_mput (l:=x295) (id:=1) (kk:=x392) (v:=(w64 ((mget x295 x392) + 1))) (kt:=3) (et:=3) (by kernel_rfl) (by kernel_rfl) (by kernel_rfl) (by kernel_rfl) (by kernel_rfl) (by kernel_rfl)) (by kernel_rfl) ?_
       refine jr_nil rfl ?_
       refine jx_blkN ?_
       refine jx_blkN ?_
       exact jx_mid rfl (wkR [(0,some 0),(1,some 1),(2,some 2),(3,some 3),(4,some 4),(5,some 5),(6,some 6)] (fix_of hy21.2 (k:=7) rfl) (pc (hC 0) (pc (hM 1) (pc (hC 2) (pc (hC 3) (pc (hC 4) (pc (.inr (.inr (.inl ⟨5,_,_,rfl,rfl,rfl,by kernel_rfl⟩))) allp_nil)))))))
      refine jc_skip ?_
      refine jx_blkN ?_
      refine jx_blkN ?_
      exact jx_mid rfl (wkR [(0,some 0),(1,some 1),(2,some 2),(3,some 3),(4,some 4),(5,some 5),(6,some 6)] (fix_of hy21.2 (k:=7) rfl) (pc (hC 0) (pc (hM 1) (pc (hC 2) (pc (hC 3) (pc (hC 4) (pc (.inr (.inr (.inl ⟨5,_,_,rfl,rfl,rfl,by kernel_rfl⟩))) allp_nil)))))))
     rintro (_ | x386)
     ·refine jG 3 1 ⟨[V 0 (.yld 5),V 2 (pt 4 1),V 9 (.fsl 1 (List.map c_L3 a0)),V 10 (iv (List.length a0:Int)),V 11 (iv x296),V 43 (bv true)],[W 0 1 [.mp 1],(1,.map (oM x295)),W 2 1 [bv true],W 3 1 [.fsl 1 (List.map c_L3 a0)],W 4 1 [.mp 1],(5,rup_units_lp17 a0 x210 .done (some (.exit 2)))],7⟩ ?_
      refine jN ?_
      refine jc_condK (c:=true) (by kernel_rfl) ?_
      refine jc_ret ?_
      refine jx_blkR ?_
      exact jx_mid rfl (wkR [(0,some 0),(1,some 1),(2,some 2),(3,some 3),(4,some 4),(5,some 5)] (fix_of hc17.2.2 (k:=6) rfl) (pc (hC 0) (pc (hM 1) (pc (hC 2) (pc (hC 3) (pc (hC 4) (pc (.inr (.inr (.inl ⟨5,_,_,rfl,rfl,rfl,by kernel_rfl⟩))) allp_nil)))))))
     refine jG 3 1 ⟨[V 0 (.yld 5),V 2 (pt 4 1),V 9 (.fsl 1 (List.map c_L3 a0)),V 10 (iv (List.length a0:Int)),V 11 (iv x296),V 43 (bv false)],[W 0 1 [.mp 1],(1,.map (oM x386)),W 2 1 [bv false],W 3 1 [.fsl 1 (List.map c_L3 a0)],W 4 1 [.mp 1],(5,rup_units_lp17 a0 x210 .ready none)],7⟩ ?_
     refine jN ?_
     refine jc_condK (c:=false) (by kernel_rfl) ?_
     refine jc_skip ?_
     refine jx_blkN ?_
     exact jx_mid rfl (wkR [(0,some 0),(1,some 1),(2,some 2),(3,some 3),(4,some 4),(5,some 5)] (fix_of hc17.2.2 (k:=6) rfl) (pc (hC 0) (pc (hM 1) (pc (hC 2) (pc (hC 3) (pc (hC 4) (pc (.inr (.inr (.inl ⟨5,_,_,rfl,rfl,rfl,by kernel_rfl⟩))) allp_nil)))))))
    rintro (x350 | _)
    ·refine jx_seqN ?_
     refine jT ⟨[V 0 (.yld 5),V 2 (pt 4 1),V 9 (.fsl 1 (List.map c_L3 a0)),V 10 (iv (List.length a0:Int)),V 11 (iv (w64 (x296 + 1)))],[W 0 1 [.mp 1],(1,.map (oM x350)),W 2 1 [bv false],W 3 1 [.fsl 1 (List.map c_L3 a0)],W 4 1 [.mp 1],(5,rup_units_lp17 a0 x210 .ready none)],6⟩ ?_
     exact jx_next (wkR [(0,some 0),(1,some 1),(2,some 2),(3,some 3),(4,some 4),(5,some 5)] (fix_of hc17.2.2 (k:=6) rfl) (pc (hC 0) (pc (hM 1) (pc (hC 2) (pc (hC 3) (pc (hC 4) (pc (.inr (.inr (.inl ⟨5,_,_,rfl,rfl,rfl,by kernel_rfl⟩))) allp_nil)))))))
    refine jx_seqR ?_
    exact jx_done rfl nofun (wkR [(0,some 0),(1,some 1),(2,some 2),(3,some 3),(4,some 4),(5,some 5)] (fix_of hc17.2.2 (k:=6) rfl) (pc (hC 0) (pc (hM 1) (pc (hC 2) (pc (hC 3) (pc (hC 4) (pc (.inr (.inr (.inl ⟨5,_,_,rfl,rfl,rfl,by kernel_rfl⟩))) allp_nil)))))))
   refine jc_exit ?_
   refine jx_seqE ?_
   exact jx_done rfl nofun (wkR [(0,some 0),(1,some 1),(2,some 2),(3,some 3),(4,some 4),(5,some 5)] (fix_of hc17.2.2 (k:=6) rfl) (pc (hC 0) (pc (hM 1) (pc (hC 2) (pc (hC 3) (pc (hC 4) (pc (.inr (.inr (.inl ⟨5,_,_,rfl,rfl,rfl,by kernel_rfl⟩))) allp_nil)))))))
  rintro (x324 | x325)
  ·refine jx_blkR ?_
   refine jx_rng hc17 (.inr rfl) rfl nofun rfl ?_
   refine jx_blkX rfl ?_
   refine jx_seqE ?_
   refine jx_blkX rfl ?_
   exact jx_done rfl nofun (wkR [(0,some 0),(1,some 1),(2,some 2)] (fix_of hF (k:=0) rfl) (pc (hC 0) (pc (hM 1) (pc (hC 2) allp_nil))))
  refine jx_blkE ?_
  refine jx_rng hc17 (.inl rfl) rfl nofun rfl ?_
  refine jx_blkN ?_
  refine jx_seqN ?_
  refine jR ?_
  refine jG 0 1 ⟨[V 0 (.fsl 1 (List.map c_L3 a0)),V 6 (pt 0 1),V 9 (pt 2 1),V 10 (iv (List.length x210:Int)),V 60 (.mp 1)],[W 0 1 [.mp 1],(1,.map (oM x325)),W 2 1 [bv false]],6⟩ ?_
  refine jr_one (i:=1) (v:=iv (List.length x325:Int)) (us:=[]) rfl rfl rfl rfl (aop_lenm (l:=x325) (id:=1) (kt:=3) (et:=3) (by kernel_rfl) (by kernel_rfl) (by kernel_rfl) (by kernel_rfl)) rfl ?_
  refine jG 2 2 ⟨[V 0 (.fsl 1 (List.map c_L3 a0)),V 6 (pt 0 1),V 9 (pt 2 1),V 63 (bv ((List.length x325:Int) == (List.length x210:Int)))],[W 0 1 [.mp 1],(1,.map (oM x325)),W 2 1 [bv false]],6⟩ ?_
  refine jN ?_
  refine jIf ?_ ?_
  ·refine jc_exit ?_
   refine jx_blkX rfl ?_
   exact jx_done rfl nofun (wkR [(0,some 0),(1,some 1),(2,some 2)] (fix_of hF (k:=0) rfl) (pc (hC 0) (pc (hM 1) (pc (hC 2) allp_nil))))
  refine jc_skip ?_
  refine jx_blkN ?_
  exact jx_next (wkR [(0,some 0),(1,some 1),(2,some 2)] (fix_of hF (k:=0) rfl) (pc (hC 0) (pc (hM 1) (pc (hC 2) allp_nil))))
 rintro⟨x268,x269⟩
 refine jx_blkE ?_
 refine jx_seqN ?_
 refine jS ⟨[V 4 (.mp 1),V 5 (bv x269)],[(1,.map (oM x268))],3⟩ ?_
 refine jc_ret ?_
 refine jx_scopeR ?_
 exact jx_retM (rup_units_T a0 a1 (x268,x269)) (.inr rfl) (wkR [(0,some 1)] (fix_of hF (k:=0) rfl) (pc (hM 1) allp_nil)))
abbrev law29_few_r1:List LO:=[lo 2 (.assign (.const (.slice none 0 0))) 22]
abbrev law29_few_r2:List LO:=[lm 3 0 22,lm 4 0 22,lo 5 (.call ⟨.builtin .len,#[.tmp 4],#[22]⟩) 3,lo 6 (.call ⟨.builtin .min,#[.tmp 5,.const (.int .i64 30)],#[3,3]⟩) 3,lo 7 (.slice 22 (.tmp 3) none (some (.tmp 6)) none) 22,lo 2 (.assign (.tmp 7)) 22]
abbrev law29_few_c:LC:=.seq (.reg false law29_few_r1) (.seq (.reg false law29_few_r2) .ret)
theorem law29_few_k:FnOk E 5 8 [.tmp 2] law29_few_c:=⟨⟨Go.Proofs.Tryz.f5,by kernel_rfl,by kernel_rfl,by kernel_rfl,by kernel_rfl,by kernel_rfl⟩,rfl,rfl⟩
noncomputable def law29_few (a0:(List (List Int))):Option ((List (List Int))):=Option.bind (subl a0 0 (if 30 < (List.length a0:Int) then 30 else (List.length a0:Int))) (fun x1=>some x1)
theorem law29_few_ok (a0:(List (List Int))):Ct E 5 [.fsl 1 (List.map c_L3 a0)] (law29_few a0) (fun r:(List (List Int))=>.fsl 1 (List.map c_L3 r)):=ct_intro (N:=8) (L:=law29_few_c) law29_few_k rfl (Nat.le_of_ble_eq_true rfl) (by kernel_rfl) (by
 unfold law29_few
 refine jS ⟨[V 0 (.fsl 1 (List.map c_L3 a0))],[],0⟩ ?_
 refine jR ?_
 refine jG 0 4 ⟨[V 3 (.fsl 1 (List.map c_L3 a0)),V 6 (iv (if 30 < (List.length (List.map c_L3 a0):Int) then 30 else (List.length (List.map c_L3 a0):Int)))],[],0⟩ ?_
 simp only[List.length_map]
 refine jr_part (i:=4) (mo:=subl a0 0 (if 30 < (List.length a0:Int) then 30 else (List.length a0:Int))) rfl rfl rfl rfl (fun _ hc=>aop_subf (c:=c_L3) (sz:=1) (e:=23) (by kernel_rfl) (by kernel_rfl) (by kernel_rfl) (by kernel_rfl) (by kernel_rfl) hc) (fun _=>rfl) ?_
 intro x1 h1
 refine jG 5 1 ⟨[V 2 (.fsl 1 (List.map c_L3 x1))],[],0⟩ ?_
 refine jN ?_
 refine jc_ret ?_
 exact jx_retF (.inr rfl) (v:=.fsl 1 (List.map c_L3 x1)) (by kernel_rfl) rfl (fle_refl _))
noncomputable def rup_Units (a0:List (List Int)) (a1:List Int):Option (List Int × Bool):=Option.bind (rup_units a0 a1) fun r=>collR srtSz r.1 r.2
theorem rup_Units_ok (a0:List (List Int)) (a1:List Int):CtM E 6 [.fsl 1 (List.map c_L3 a0),.fsl 1 (List.map cI a1)] [] 0 (rup_Units a0 a1) (fun q:List Int × Bool=>.tup [.osl 1 0 q.1.length 1,bv q.2]) (fun q:List Int × Bool=>[(1,.rows 1 (List.map cI q.1))]) 2:=ctm_coll (E0:=E0) (srt:=srtSz) (fl:=fun r:List (Int × Int) × Bool=>r.1) (fb:=fun r:List (Int × Int) × Bool=>r.2) (j:=0) rfl rfl rfl rfl rfl rfl (fun r=>rfl) (rup_units_ok a0 a1) _ (fun r q i o h=>coll_h0 h)
abbrev rup_sheet_open_md4fd_r1:List LO:=[lo 2 (.box 34 (.tmp 0)) 0,lo 3 (.box 22 (.tmp 1)) 0,lo 4 (.assign (.const .nilFunc)) 53]
abbrev rup_sheet_open_md4fd_r2:List LO:=[lo 5 (.makeFunc (Fn.func 37) #[] #[.tmp 3,.tmp 2]) 52,lo 4 (.assign (.tmp 5)) 53]
abbrev rup_sheet_open_md4fd_c:LC:=.seq (.reg false rup_sheet_open_md4fd_r1) (.seq (.reg false rup_sheet_open_md4fd_r2) .ret)
theorem rup_sheet_open_md4fd_k:FnOk E0 28 6 [.tmp 4] rup_sheet_open_md4fd_c:=⟨⟨Go.Proofs.Tryz.f28,by kernel_rfl,by kernel_rfl,by kernel_rfl,by kernel_rfl,by kernel_rfl⟩,rfl,rfl⟩
abbrev rup_sheet_open_md4fd_T (a0:List (Int × Int)) (a1:List (List Int)) (r:Unit):CS:=⟨[V 4 (.fn 37 [pt 2 1,pt 3 1])],[(0,.map (oM a0)),(1,.rows 1 (List.map c_L3 a1)),W 2 1 [.osl 1 0 (List.length a1) 1],W 3 1 [.mp 0]],4⟩
noncomputable def rup_sheet_open_md4fd (a0:List (Int × Int)) (a1:List (List Int)):Option (Unit):=some ()
theorem rup_sheet_open_md4fd_ok (a0:List (Int × Int)) (a1:List (List Int)):CtM E0 28 [.mp 0,.osl 1 0 (List.length a1) 1] [(0,.map (oM a0)),(1,.rows 1 (List.map c_L3 a1))] 2 (rup_sheet_open_md4fd a0 a1) (fun r:Unit=>.fn 37 [pt 2 1,pt 3 1]) (fun r:Unit=>[(0,.map (oM a0)),(1,.rows 1 (List.map c_L3 a1)),W 2 1 [.osl 1 0 (List.length a1) 1],W 3 1 [.mp 0]]) 4:=ctm_intro (N:=6) (L:=rup_sheet_open_md4fd_c) rup_sheet_open_md4fd_k rfl (Nat.le_of_ble_eq_true rfl) (fun F hF=>by
 unfold rup_sheet_open_md4fd
 refine jS ⟨[V 2 (pt 2 1),V 3 (pt 3 1)],[(0,.map (oM a0)),(1,.rows 1 (List.map c_L3 a1)),W 2 1 [.mp 0],W 3 1 [.osl 1 0 (List.length a1) 1]],4⟩ ?_
 refine jS ⟨[V 4 (.fn 37 [pt 3 1,pt 2 1])],[(0,.map (oM a0)),(1,.rows 1 (List.map c_L3 a1)),W 2 1 [.mp 0],W 3 1 [.osl 1 0 (List.length a1) 1]],4⟩ ?_
 refine jc_ret ?_
 exact jx_retM (rup_sheet_open_md4fd_T a0 a1 ()) (.inr rfl) (wkR [(0,some 0),(1,some 1),(2,some 3),(3,some 2)] (fix_of hF (k:=2) rfl) (pc (hM 0) (pc (hL 1 (noid_map ni_L3 _)) (pc (hC 3) (pc (hC 2) allp_nil))))))
abbrev rup_units_m2d81_r1:List LO:=[lo 4 (.assign (.const (.map none))) 34,lo 5 (.assign (.const (.bool false))) 4]
abbrev rup_units_m2d81_r2:List LO:=[lo 12 (.makeMap 34 none) 34,lo 6 (.alloc 34) 0,ln (.store 34 (.tmp 6) (.tmp 12)) 0]
abbrev rup_units_m2d81_r3:List LO:=[lm 13 1 23,lo 14 (.call ⟨.builtin .len,#[.tmp 13],#[23]⟩) 3,lo 15 (.move (.const (.int .i64 0))) 3]
abbrev rup_units_m2d81_r4:List LO:=[lo 16 (.binOp .lss 3 (.tmp 15) (.tmp 14) 3) 0]
abbrev rup_units_m2d81_r5:List LO:=[lo 17 (.indexAddr 23 (.tmp 13) (.tmp 15)) 0,lo 18 (.load 3 (.tmp 17)) 3,lo 8 (.assign (.tmp 18)) 3]
abbrev rup_units_m2d81_r6:List LO:=[lm 19 8 3,lo 20 (.call ⟨.value (.func 22),#[.tmp 19],#[3]⟩) 4,lo 21 (.unOp .not 4 (.tmp 20)) 4]
abbrev rup_units_m2d81_r7:List LO:=[lo 22 (.load 34 (.tmp 6)) 34,lm 23 8 3,lo 24 (.unOp .neg 3 (.tmp 23)) 3,lo 25 (.call ⟨.value (.func 27),#[.tmp 22,.tmp 24],#[34,3]⟩) 4]
abbrev rup_units_m2d81_r8:List LO:=[lo 26 (.load 34 (.tmp 6)) 34,lo 4 (.assign (.tmp 26)) 34,lo 5 (.assign (.const (.bool true))) 4]
abbrev rup_units_m2d81_r9:List LO:=[lo 27 (.load 34 (.tmp 6)) 34,lm 28 8 3,lo 29 (.lookup 34 (.tmp 27) (.tmp 28) false) 3,lo 30 (.binOp .add 3 (.tmp 29) (.const (.int .i64 1)) 3) 3,ln (.mapUpdate 34 (.tmp 27) (.tmp 28) (.tmp 30)) 0]
abbrev rup_units_m2d81_r10:List LO:=[lo 31 (.binOp .add 3 (.tmp 15) (.const (.int .i64 1)) 3) 3,lm 15 31 3]
abbrev rup_units_m2d81_r11:List LO:=[lo 9 (.alloc 4) 0,ln (.store 4 (.tmp 9) (.const (.bool false))) 0]
abbrev rup_units_m2d81_r12:List LO:=[lo 32 (.load 34 (.tmp 6)) 34,lo 33 (.call ⟨.builtin .len,#[.tmp 32],#[34]⟩) 3,lo 10 (.assign (.tmp 33)) 3]
abbrev rup_units_m2d81_r13:List LO:=[lo 34 (.load 34 (.tmp 6)) 34,lm 35 0 22,lo 36 (.call ⟨.value (.func 28),#[.tmp 34,.tmp 35],#[34,22]⟩) 53]
abbrev rup_units_m2d81_r14:List LO:=[lo 11 (.assign (.tmp 37)) 23]
abbrev rup_units_m2d81_r15:List LO:=[lm 39 11 23,lo 40 (.call ⟨.builtin .len,#[.tmp 39],#[23]⟩) 3,lo 41 (.binOp .eql 3 (.tmp 40) (.const (.int .i64 0)) 3) 4,lo 38 (.assign (.tmp 41)) 4]
abbrev rup_units_m2d81_r16:List LO:=[ln (.store 4 (.tmp 9) (.const (.bool true))) 0]
abbrev rup_units_m2d81_r17:List LO:=[lm 43 11 23,lo 44 (.call ⟨.builtin .len,#[.tmp 43],#[23]⟩) 3,lo 45 (.binOp .eql 3 (.tmp 44) (.const (.int .i64 1)) 3) 4,lm 46 45 4,lg 47 (.load 34 (.tmp 6)) 34 46 true,lmg 48 11 23 46 true,lg 49 (.indexAddr 23 (.tmp 48) (.const (.int .i64 0))) 0 46 true,lg 50 (.load 3 (.tmp 49)) 3 46 true,lg 51 (.call ⟨.value (.func 27),#[.tmp 47,.tmp 50],#[34,3]⟩) 4 46 true,lg 52 (.unOp .not 4 (.tmp 51)) 4 46 true,lo 53 (.pick (.tmp 46) (.tmp 52) (.const (.bool false))) 4,lo 42 (.assign (.tmp 53)) 4]
abbrev rup_units_m2d81_r18:List LO:=[lo 54 (.load 34 (.tmp 6)) 34,lm 55 11 23,lo 56 (.indexAddr 23 (.tmp 55) (.const (.int .i64 0))) 0,lo 57 (.load 3 (.tmp 56)) 3,lo 58 (.lookup 34 (.tmp 54) (.tmp 57) false) 3,lo 59 (.binOp .add 3 (.tmp 58) (.const (.int .i64 1)) 3) 3,ln (.mapUpdate 34 (.tmp 54) (.tmp 57) (.tmp 59)) 0]
noncomputable def rup_units_m2d81_y19_a0:Code:=codeSub (bodyOf Go.Proofs.Tryz.f16) [1,0,1,1,1,1,0,0,0,0,1,0,1,0,0]
theorem rup_units_m2d81_y19_aw:lower E0 rup_units_m2d81_y19_a0=some (.reg false rup_units_m2d81_r14):=by kernel_rfl
noncomputable def rup_units_m2d81_y19_b0:Code:=codeSub (bodyOf Go.Proofs.Tryz.f16) [1,0,1,1,1,1,0,0,0,0,1,0,1,0,1]
theorem rup_units_m2d81_y19_bw:lower E0 rup_units_m2d81_y19_b0=some (.block 5 (.block 6 (.seq (.reg false rup_units_m2d81_r15) (.cond (.tmp 38) (.seq (.reg false rup_units_m2d81_r16) (.exit 2)) (.seq (.reg true rup_units_m2d81_r17) (.cond (.tmp 42) (.reg true rup_units_m2d81_r18) .skip)))))):=by kernel_rfl
abbrev rup_units_m2d81_r20:List LO:=[lo 60 (.load 34 (.tmp 6)) 34,lo 61 (.call ⟨.builtin .len,#[.tmp 60],#[34]⟩) 3,lm 62 10 3,lo 63 (.binOp .eql 3 (.tmp 61) (.tmp 62) 3) 4]
abbrev rup_units_m2d81_r21:List LO:=[lo 64 (.load 34 (.tmp 6)) 34,lo 65 (.load 4 (.tmp 9)) 4,lo 4 (.assign (.tmp 64)) 34,lo 5 (.assign (.tmp 65)) 4]
noncomputable abbrev rup_units_m2d81_c:LC:=.seq (.reg false rup_units_m2d81_r1) (.scope (.seq (.reg false rup_units_m2d81_r2) (.seq (.seq (.reg false rup_units_m2d81_r3) (.block 0 (.loop (.seq (.reg false rup_units_m2d81_r4) (.seq (.cond (.tmp 16) .skip (.exit 0)) (.seq (.block 1 (.seq (.reg false rup_units_m2d81_r5) (.seq (.seq (.reg false rup_units_m2d81_r6) (.cond (.tmp 21) (.exit 1) .skip)) (.seq (.seq (.reg false rup_units_m2d81_r7) (.cond (.tmp 25) (.seq (.reg false rup_units_m2d81_r8) .ret) .skip)) (.reg false rup_units_m2d81_r9))))) (.reg false rup_units_m2d81_r10))))))) (.seq (.reg false rup_units_m2d81_r11) (.seq .label (.seq (.block 2 (.loop (.block 3 (.seq (.reg false rup_units_m2d81_r12) (.seq (.seq (.reg false rup_units_m2d81_r13) (.block 4 (.rng (.tmp 36) [37] rup_units_m2d81_y19_a0 rup_units_m2d81_y19_b0))) (.seq (.reg false rup_units_m2d81_r20) (.cond (.tmp 63) (.exit 2) .skip))))))) (.seq (.reg true rup_units_m2d81_r21) .ret)))))))
theorem rup_units_m2d81_k:FnOk E0 16 66 [.tmp 4,.tmp 5] rup_units_m2d81_c:=⟨⟨Go.Proofs.Tryz.f16,by kernel_rfl,by kernel_rfl,by kernel_rfl,by kernel_rfl,by kernel_rfl⟩,rfl,rfl⟩
noncomputable def rup_units_m2d81_l1 (a1:List Int):(List (Int × Int) × Int)→Option (Step (List (Int × Int) × Int) ((List (Int × Int)) ⊕ (List (Int × Int)))):=fun (x137,x138)=>(if (decide (x138 < (List.length a1:Int)))=true then Option.bind (Option.bind (ixl a1 x138) (fun x151=>Option.bind (rup_literal x151) (fun x152=>(if (!x152)=true then some (Sum.inl x137) else Option.bind (rup_sheet_isTrue x137 (w64 (0 - x151))) (fun x153=>(if x153=true then some (Sum.inr ()) else some (Sum.inl (mput x137 x151 (w64 ((mget x137 x151) + 1))))))))):Option ((List (Int × Int)) ⊕ (Unit))) (fun y=>match y with | Sum.inl x150=>some (Step.next (x150,(w64 (x138 + 1)))) | Sum.inr _=>some (Step.done (Sum.inl x137))) else some (Step.done (Sum.inr x137)))
noncomputable abbrev rup_units_m2d81_lp17 (a0:List (List Int)) (x210:List (Int × Int)) (q:LoopState) (p:Option Code):AObj:=.loop { state:=q,pending:=p,tmps:=tl 66 [V 0 (.osl 0 0 (List.length a0) 1),V 6 (pt 1 1),V 9 (pt 3 1),V 10 (iv (List.length x210:Int)),V 36 (.fn 37 [pt 4 1,pt 5 1])] none,params:=[37],assign:=rup_units_m2d81_y19_a0,body:=rup_units_m2d81_y19_b0 }
noncomputable def rup_units_m2d81_l2 (x295:List (Int × Int)) (x351:(List Int)):(List Int × Int)→Option (Step (List Int × Int) (List Int)):=fun (x359,x360)=>(if (decide (x360 < (List.length x351:Int)))=true then Option.bind (Option.bind (ixl x351 x360) (fun x376=>Option.bind (rup_sheet_isTrue x295 (w64 (0 - x376))) (fun x377=>Option.bind (if (!x377)=true then Option.bind (slices_Contains_int_int x359 x376) (fun x380=>some (!x380)) else some false:Option (Bool)) (fun x379=>(if x379=true then Option.bind (app 8 x359 [x376]) (fun x381=>some x381) else some x359)))):Option (List Int)) (fun x375=>some (Step.next (x375,(w64 (x360 + 1))))) else some (Step.done x359))
noncomputable def rup_units_m2d81_l3 (a0:List (List Int)):(List (Int × Int) × Int)→Option (Step (List (Int × Int) × Int) ((List (Int × Int)) ⊕ (List (Int × Int)))):=fun (x295,x296)=>(if (decide (x296 < (List.length a0:Int)))=true then Option.bind (Option.bind (ixl a0 x296) (fun x351=>Option.bind (slices_ContainsFunc_int_int_se3d8 x351 x295) (fun x352=>(if x352=true then some (Sum.inl x295) else Option.bind (loopC (rup_units_m2d81_l2 x295 x351) ([],0)) (fun x369=>Option.bind ((if ((List.length x369:Int) == 0)=true then some (Sum.inl ()) else Option.bind (if ((List.length x369:Int) == 1)=true then Option.bind (ixl x369 0) (fun x390=>Option.bind (rup_sheet_isTrue x295 x390) (fun x391=>some (!x391))) else some false:Option (Bool)) (fun x389=>(if x389=true then Option.bind (ixl x369 0) (fun x392=>some (Sum.inr (mput x295 x392 (w64 ((mget x295 x392) + 1))))) else some (Sum.inr x295)))):Option ((Unit) ⊕ (List (Int × Int)))) (fun y=>match y with | Sum.inl _=>some (Sum.inr ()) | Sum.inr x386=>some (Sum.inl x386)))))):Option ((List (Int × Int)) ⊕ (Unit))) (fun y=>match y with | Sum.inl x350=>some (Step.next (x350,(w64 (x296 + 1)))) | Sum.inr _=>some (Step.done (Sum.inl x295))) else some (Step.done (Sum.inr x295)))
noncomputable def rup_units_m2d81_l4 (a0:List (List Int)):(List (Int × Int))→Option (Step (List (Int × Int)) (List (Int × Int) × Bool)):=fun x210=>Option.bind (rup_sheet_open_md4fd x210 a0) (fun _=>Option.bind (loopC (rup_units_m2d81_l3 a0) (x210,0)) (fun y=>match y with | Sum.inl x324=>some (Step.done (x324,true)) | Sum.inr x325=>(if ((List.length x325:Int) == (List.length x210:Int))=true then some (Step.done (x325,false)) else some (Step.next x325))))
abbrev rup_units_m2d81_T (a0:List (List Int)) (a1:List Int) (r:List (Int × Int) × Bool):CS:=⟨[V 4 (.mp 1),V 5 (bv r.2)],[(0,.rows 1 (List.map c_L3 a0)),(1,.map (oM r.1))],2⟩
noncomputable def rup_units_m2d81 (a0:List (List Int)) (a1:List Int):Option (List (Int × Int) × Bool):=Option.bind (loopC (rup_units_m2d81_l1 a1) (([]:List (Int × Int)),0)) (fun y=>match y with | Sum.inl x145=>some (x145,true) | Sum.inr x146=>Option.bind (loopC (rup_units_m2d81_l4 a0) x146) (fun (x268,x269)=>some (x268,x269)))
theorem rup_units_m2d81_ok (a0:List (List Int)) (a1:List Int):CtM E0 16 [.osl 0 0 (List.length a0) 1,.fsl 1 (List.map cI a1)] [(0,.rows 1 (List.map c_L3 a0))] 1 (rup_units_m2d81 a0 a1) (fun r:List (Int × Int) × Bool=>.tup [.mp 1,bv r.2]) (fun r:List (Int × Int) × Bool=>[(0,.rows 1 (List.map c_L3 a0)),(1,.map (oM r.1))]) 2:=ctm_intro (N:=66) (L:=rup_units_m2d81_c) rup_units_m2d81_k rfl (Nat.le_of_ble_eq_true rfl) (fun F hF=>by
 unfold rup_units_m2d81
 refine jS ⟨[V 0 (.osl 0 0 (List.length a0) 1),V 1 (.fsl 1 (List.map cI a1))],[(0,.rows 1 (List.map c_L3 a0))],1⟩ ?_
 refine jc_scope ?_
 refine jS ⟨[V 0 (.osl 0 0 (List.length a0) 1),V 1 (.fsl 1 (List.map cI a1)),V 6 (pt 2 1)],[(0,.rows 1 (List.map c_L3 a0)),(1,.map (oM ([]:List (Int × Int)))),W 2 1 [.mp 1]],3⟩ ?_
 refine jc_seq ?_
 refine jR ?_
 refine jG 0 3 ⟨[V 0 (.osl 0 0 (List.length a0) 1),V 6 (pt 2 1),V 13 (.fsl 1 (List.map cI a1)),V 14 (iv (List.length (List.map cI a1):Int)),V 15 (iv 0)],[(0,.rows 1 (List.map c_L3 a0)),(1,.map (oM ([]:List (Int × Int)))),W 2 1 [.mp 1]],3⟩ ?_
 simp only[List.length_map]
 refine jN ?_
 refine jc_block ?_
 refine jc_bind (fun y=>match y with | Sum.inl x145=>⟨[V 4 (.mp 1),V 5 (bv true)],[(0,.rows 1 (List.map c_L3 a0)),(1,.map (oM x145))],2⟩ | Sum.inr x146=>⟨[V 0 (.osl 0 0 (List.length a0) 1),V 6 (pt 1 1)],[(0,.rows 1 (List.map c_L3 a0)),W 1 1 [.mp 2],(2,.map (oM x146))],3⟩) (fun y=>match y with | Sum.inl x145=>.ret | Sum.inr x146=>(.exit 0)) (jc_loop (fun (x137,x138)=>⟨[V 0 (.osl 0 0 (List.length a0) 1),V 6 (pt 1 1),V 13 (.fsl 1 (List.map cI a1)),V 14 (iv (List.length a1:Int)),V 15 (iv x138)],[(0,.rows 1 (List.map c_L3 a0)),W 1 1 [.mp 2],(2,.map (oM x137))],3⟩) (wkR [(0,some 0),(1,some 2),(2,some 1)] (fix_of hF (k:=1) rfl) (pc (hL 0 (noid_map ni_L3 _)) (pc (hC 2) (pc (hM 1) allp_nil)))) ?_) ?_
 ·rintro⟨x137,x138⟩
  unfold rup_units_m2d81_l1
  refine jS ⟨[V 0 (.osl 0 0 (List.length a0) 1),V 6 (pt 1 1),V 13 (.fsl 1 (List.map cI a1)),V 14 (iv (List.length a1:Int)),V 15 (iv x138),V 16 (bv (decide (x138 < (List.length a1:Int))))],[(0,.rows 1 (List.map c_L3 a0)),W 1 1 [.mp 2],(2,.map (oM x137))],3⟩ ?_
  refine jc_seq ?_
  refine jIf ?_ ?_
  ·refine jc_skip ?_
   refine jx_seqN ?_
   refine jc_seq ?_
   refine jc_bind (fun y=>match y with | Sum.inl x150=>⟨[V 0 (.osl 0 0 (List.length a0) 1),V 6 (pt 1 1),V 13 (.fsl 1 (List.map cI a1)),V 14 (iv (List.length a1:Int)),V 15 (iv x138)],[(0,.rows 1 (List.map c_L3 a0)),W 1 1 [.mp 2],(2,.map (oM x150))],3⟩ | Sum.inr _=>⟨[V 4 (.mp 1),V 5 (bv true)],[(0,.rows 1 (List.map c_L3 a0)),(1,.map (oM x137))],2⟩) (fun y=>match y with | Sum.inl x150=>.normal | Sum.inr _=>.ret) ?_ ?_
   ·refine jc_block ?_
    refine jR ?_
    refine jr_part (i:=0) (mo:=ixl a1 x138) rfl rfl rfl rfl (fun _ hc=>aop_ixf (c:=cI) (sz:=1) (e:=3) (kk:=.i64) (by kernel_rfl) (by kernel_rfl) (by kernel_rfl) (by kernel_rfl) hc) (fun _=>rfl) ?_
    intro x151 h151
    refine jG 1 2 ⟨[V 0 (.osl 0 0 (List.length a0) 1),V 6 (pt 1 1),V 8 (iv x151),V 13 (.fsl 1 (List.map cI a1)),V 14 (iv (List.length a1:Int)),V 15 (iv x138)],[(0,.rows 1 (List.map c_L3 a0)),W 1 1 [.mp 2],(2,.map (oM x137))],3⟩ ?_
    refine jN ?_
    refine jc_seq ?_
    refine jR ?_
    refine jG 0 1 ⟨[V 0 (.osl 0 0 (List.length a0) 1),V 6 (pt 1 1),V 8 (iv x151),V 13 (.fsl 1 (List.map cI a1)),V 14 (iv (List.length a1:Int)),V 15 (iv x138),V 19 (iv x151)],[(0,.rows 1 (List.map c_L3 a0)),W 1 1 [.mp 2],(2,.map (oM x137))],3⟩ ?_
    refine jK 1 (rup_literal_ok x151) ?_
    intro x152 h152
    refine jG 2 1 ⟨[V 0 (.osl 0 0 (List.length a0) 1),V 6 (pt 1 1),V 8 (iv x151),V 13 (.fsl 1 (List.map cI a1)),V 14 (iv (List.length a1:Int)),V 15 (iv x138),V 21 (bv (!x152))],[(0,.rows 1 (List.map c_L3 a0)),W 1 1 [.mp 2],(2,.map (oM x137))],3⟩ ?_
    refine jN ?_
    refine jIf ?_ ?_
    ·refine jc_exit ?_
     refine jx_seqE ?_
     refine jx_blkE ?_
     exact jx_mid rfl (wkR [(0,some 0),(1,some 1),(2,some 2)] (fix_of hF (k:=1) rfl) (pc (hL 0 (noid_map ni_L3 _)) (pc (hC 1) (pc (hM 2) allp_nil))))
    refine jc_skip ?_
    refine jx_seqN ?_
    refine jc_seq ?_
    refine jR ?_
    refine jG 0 3 ⟨[V 0 (.osl 0 0 (List.length a0) 1),V 6 (pt 1 1),V 8 (iv x151),V 13 (.fsl 1 (List.map cI a1)),V 14 (iv (List.length a1:Int)),V 15 (iv x138),V 22 (.mp 2),V 24 (iv (w64 (0 - x151)))],[(0,.rows 1 (List.map c_L3 a0)),W 1 1 [.mp 2],(2,.map (oM x137))],3⟩ ?_
    refine jr_callF (i:=3) rfl rfl rfl rfl (vs:=[.mp 2,iv (w64 (0 - x151))]) (by kernel_rfl) (snapL_cons (snapc_mp (by kernel_rfl)) (snapL_cons rfl (snapL_nil _))) (all2_cons (fle_refl _) (all2_cons (fle_refl _) all2_nil)) (rup_sheet_isTrue_ok x137 (w64 (0 - x151))) (fun _=>rfl) (fun _=>rfl) ?_
    intro x153 h153
    refine jN ?_
    refine jIf ?_ ?_
    ·refine jS ⟨[V 4 (.mp 2),V 5 (bv true)],[(0,.rows 1 (List.map c_L3 a0)),(2,.map (oM x137))],3⟩ ?_
     refine jc_ret ?_
     refine jx_seqR ?_
     refine jx_blkR ?_
     exact jx_mid rfl (wkR [(0,some 0),(1,some 2)] (fix_of hF (k:=1) rfl) (pc (hL 0 (noid_map ni_L3 _)) (pc (hM 2) allp_nil)))
    refine jc_skip ?_
    refine jx_seqN ?_
    refine jc_reg ?_
    refine jG 0 2 ⟨[V 0 (.osl 0 0 (List.length a0) 1),V 6 (pt 1 1),V 13 (.fsl 1 (List.map cI a1)),V 14 (iv (List.length a1:Int)),V 15 (iv x138),V 27 (.mp 2),V 28 (iv x151)],[(0,.rows 1 (List.map c_L3 a0)),W 1 1 [.mp 2],(2,.map (oM x137))],3⟩ ?_
    refine jr_one (i:=2) (v:=iv (mget x137 x151)) (us:=[]) rfl rfl rfl rfl (aop_look (l:=x137) (id:=2) (kk:=x151) (kt:=3) (et:=3) (by kernel_rfl) (by kernel_rfl) (by kernel_rfl) (by kernel_rfl) (by kernel_rfl) (by kernel_rfl)) rfl ?_
    refine jG 3 1 ⟨[V 0 (.osl 0 0 (List.length a0) 1),V 6 (pt 1 1),V 13 (.fsl 1 (List.map cI a1)),V 14 (iv (List.length a1:Int)),V 15 (iv x138),V 27 (.mp 2),V 28 (iv x151),V 30 (iv (w64 ((mget x137 x151) + 1)))],[(0,.rows 1 (List.map c_L3 a0)),W 1 1 [.mp 2],(2,.map (oM x137))],3⟩ ?_
    refine jr_sto (i:=4) [0,6,13,14,15] [0,1,2] (st1:=⟨[V 0 (.osl 0 0 (List.length a0) 1),V 6 (pt 1 1),V 13 (.fsl 1 (List.map cI a1)),V 14 (iv (List.length a1:Int)),V 15 (iv x138)],[(0,.rows 1 (List.map c_L3 a0)),W 1 1 [.mp 2],(2,.map (oM (mput x137 x151 (w64 ((mget x137 x151) + 1)))))],3⟩) rfl rfl rfl rfl (aop_mput (l:=x137) (id:=2) (kk:=x151) (v:=(w64 ((mget x137 x151) + 1))) (kt:=3) (et:=3) (by kernel_rfl) (by kernel_rfl) (by kernel_rfl) (by kernel_rfl) (by kernel_rfl) (by kernel_rfl)) (by kernel_rfl) ?_
    refine jr_nil rfl ?_
    refine jx_blkN ?_
    exact jx_mid rfl (wkR [(0,some 0),(1,some 1),(2,some 2)] (fix_of hF (k:=1) rfl) (pc (hL 0 (noid_map ni_L3 _)) (pc (hC 1) (pc (hM 2) allp_nil))))
   rintro (x150 | _)
   ·refine jx_seqN ?_
    refine jT ⟨[V 0 (.osl 0 0 (List.length a0) 1),V 6 (pt 1 1),V 13 (.fsl 1 (List.map cI a1)),V 14 (iv (List.length a1:Int)),V 15 (iv (w64 (x138 + 1)))],[(0,.rows 1 (List.map c_L3 a0)),W 1 1 [.mp 2],(2,.map (oM x150))],3⟩ ?_
    exact jx_next (wkR [(0,some 0),(1,some 1),(2,some 2)] (fix_of hF (k:=1) rfl) (pc (hL 0 (noid_map ni_L3 _)) (pc (hC 1) (pc (hM 2) allp_nil))))
   refine jx_seqR ?_
   exact jx_done rfl nofun (wkR [(0,some 0),(1,some 1)] (fix_of hF (k:=1) rfl) (pc (hL 0 (noid_map ni_L3 _)) (pc (hM 1) allp_nil)))
  refine jc_exit ?_
  refine jx_seqE ?_
  exact jx_done rfl nofun (wkR [(0,some 0),(1,some 1),(2,some 2)] (fix_of hF (k:=1) rfl) (pc (hL 0 (noid_map ni_L3 _)) (pc (hC 1) (pc (hM 2) allp_nil))))
 rintro (x145 | x146)
 ·refine jx_blkR ?_
  refine jx_seqR ?_
  refine jx_scopeR ?_
  exact jx_retM (rup_units_m2d81_T a0 a1 (x145,true)) (.inr rfl) (wkR [(0,some 0),(1,some 1)] (fix_of hF (k:=1) rfl) (pc (hL 0 (noid_map ni_L3 _)) (pc (hM 1) allp_nil)))
 refine jx_blkE ?_
 refine jx_seqN ?_
 refine jS ⟨[V 0 (.osl 0 0 (List.length a0) 1),V 6 (pt 1 1),V 9 (pt 3 1)],[(0,.rows 1 (List.map c_L3 a0)),W 1 1 [.mp 2],(2,.map (oM x146)),W 3 1 [bv false]],4⟩ ?_
 refine jc_seq ?_
 refine jc_label ?_
 refine jx_seqN ?_
 refine jc_seq ?_
 refine jc_block ?_
 refine jc_bind (fun (x268,x269)=>⟨[V 6 (pt 1 1),V 9 (pt 3 1)],[(0,.rows 1 (List.map c_L3 a0)),W 1 1 [.mp 2],(2,.map (oM x268)),W 3 1 [bv x269]],4⟩) (fun (x268,x269)=>(.exit 2)) (jc_loop (fun x210=>⟨[V 0 (.osl 0 0 (List.length a0) 1),V 6 (pt 1 1),V 9 (pt 3 1)],[(0,.rows 1 (List.map c_L3 a0)),W 1 1 [.mp 2],(2,.map (oM x210)),W 3 1 [bv false]],4⟩) (wkR [(0,some 0),(1,some 1),(2,some 2),(3,some 3)] (fix_of hF (k:=1) rfl) (pc (hL 0 (noid_map ni_L3 _)) (pc (hC 1) (pc (hM 2) (pc (hC 3) allp_nil))))) ?_) ?_
 ·intro x210
  unfold rup_units_m2d81_l4
  refine jc_block ?_
  refine jR ?_
  refine jG 0 1 ⟨[V 0 (.osl 0 0 (List.length a0) 1),V 6 (pt 1 1),V 9 (pt 3 1),V 32 (.mp 2)],[(0,.rows 1 (List.map c_L3 a0)),W 1 1 [.mp 2],(2,.map (oM x210)),W 3 1 [bv false]],4⟩ ?_
  refine jr_one (i:=1) (v:=iv (List.length x210:Int)) (us:=[]) rfl rfl rfl rfl (aop_lenm (l:=x210) (id:=2) (kt:=3) (et:=3) (by kernel_rfl) (by kernel_rfl) (by kernel_rfl) (by kernel_rfl)) rfl ?_
  refine jG 2 1 ⟨[V 0 (.osl 0 0 (List.length a0) 1),V 6 (pt 1 1),V 9 (pt 3 1),V 10 (iv (List.length x210:Int))],[(0,.rows 1 (List.map c_L3 a0)),W 1 1 [.mp 2],(2,.map (oM x210)),W 3 1 [bv false]],4⟩ ?_
  refine jN ?_
  refine jc_seq ?_
  refine jR ?_
  refine jG 0 2 ⟨[V 0 (.osl 0 0 (List.length a0) 1),V 6 (pt 1 1),V 9 (pt 3 1),V 10 (iv (List.length x210:Int)),V 34 (.mp 2),V 35 (.osl 0 0 (List.length a0) 1)],[(0,.rows 1 (List.map c_L3 a0)),W 1 1 [.mp 2],(2,.map (oM x210)),W 3 1 [bv false]],4⟩ ?_
  refine jr_callM 2 [(0,some 2),(1,some 0)] [(2,some 0),(0,some 1),(4,some 2),(5,some 3)] (fun r:Unit=>[(0,.rows 1 (List.map c_L3 a0)),W 1 1 [.mp 2],(2,.map (oM x210)),W 3 1 [bv false],W 4 1 [.osl 0 0 (List.length a0) 1],W 5 1 [.mp 2]]) (fun r:Unit=>.fn 37 [pt 4 1,pt 5 1]) 6 (rup_sheet_open_md4fd_ok x210 a0) (pc (hM 2) (pc (hL 0 (noid_map ni_L3 _)) allp_nil)) (fun r=>(pc (.inr (hL 1 (noid_map ni_L3 _))) (pc (.inl ⟨rfl,rfl⟩) (pc (.inr (hM 0)) (pc (.inl ⟨rfl,rfl⟩) (pc (.inr (hC 2)) (pc (.inr (hC 3)) allp_nil))))))) ?_
  rintro⟨⟩ hm22
  refine jN ?_
  refine jc_block ?_
  refine jc_keep [0,6,9,10,36] [0,1,2,3,4,5] (st1:=⟨[V 0 (.osl 0 0 (List.length a0) 1),V 6 (pt 1 1),V 9 (pt 3 1),V 10 (iv (List.length x210:Int)),V 36 (.fn 37 [pt 4 1,pt 5 1])],[(0,.rows 1 (List.map c_L3 a0)),W 1 1 [.mp 2],(2,.map (oM x210)),W 3 1 [bv false],W 4 1 [.osl 0 0 (List.length a0) 1],W 5 1 [.mp 2]],6⟩) (by kernel_rfl) ?_
  refine jc_rng (g:=37) (caps:=[pt 4 1,pt 5 1]) (by kernel_rfl) rup_sheet_open_1_it_k (Nat.le_of_ble_eq_true rfl) ?_
  intro F17 hc17
  refine jS ⟨[V 0 (.yld 6),V 2 (pt 5 1),V 9 (.osl 0 0 (List.length a0) 1),V 10 (iv (List.length a0:Int)),V 11 (iv 0)],[(0,.rows 1 (List.map c_L3 a0)),W 1 1 [.mp 2],(2,.map (oM x210)),W 3 1 [bv false],W 4 1 [.osl 0 0 (List.length a0) 1],W 5 1 [.mp 2],(6,rup_units_m2d81_lp17 a0 x210 .ready none)],7⟩ ?_
  refine jc_block ?_
  refine jc_bind (fun y=>match y with | Sum.inl x324=>⟨[],[(0,.rows 1 (List.map c_L3 a0)),W 1 1 [.mp 2],(2,.map (oM x324)),W 3 1 [bv true],W 4 1 [.osl 0 0 (List.length a0) 1],W 5 1 [.mp 2],(6,rup_units_m2d81_lp17 a0 x210 .done (some (.exit 2)))],7⟩ | Sum.inr x325=>⟨[],[(0,.rows 1 (List.map c_L3 a0)),W 1 1 [.mp 2],(2,.map (oM x325)),W 3 1 [bv false],W 4 1 [.osl 0 0 (List.length a0) 1],W 5 1 [.mp 2],(6,rup_units_m2d81_lp17 a0 x210 .ready none)],7⟩) (fun y=>match y with | Sum.inl x324=>.ret | Sum.inr x325=>(.exit 0)) (jc_loop (fun (x295,x296)=>⟨[V 0 (.yld 6),V 2 (pt 5 1),V 9 (.osl 0 0 (List.length a0) 1),V 10 (iv (List.length a0:Int)),V 11 (iv x296)],[(0,.rows 1 (List.map c_L3 a0)),W 1 1 [.mp 2],(2,.map (oM x295)),W 3 1 [bv false],W 4 1 [.osl 0 0 (List.length a0) 1],W 5 1 [.mp 2],(6,rup_units_m2d81_lp17 a0 x210 .ready none)],7⟩) (wkR [(0,some 0),(1,some 1),(2,some 2),(3,some 3),(4,some 4),(5,some 5),(6,some 6)] (fix_of hc17.2.2 (k:=7) rfl) (pc (hL 0 (noid_map ni_L3 _)) (pc (hC 1) (pc (hM 2) (pc (hC 3) (pc (hC 4) (pc (hC 5) (pc (.inr (.inr (.inl ⟨6,_,_,rfl,rfl,rfl,by kernel_rfl⟩))) allp_nil)))))))) ?_) ?_
  ·rintro⟨x295,x296⟩
   unfold rup_units_m2d81_l3
   refine jS ⟨[V 0 (.yld 6),V 2 (pt 5 1),V 9 (.osl 0 0 (List.length a0) 1),V 10 (iv (List.length a0:Int)),V 11 (iv x296),V 12 (bv (decide (x296 < (List.length a0:Int))))],[(0,.rows 1 (List.map c_L3 a0)),W 1 1 [.mp 2],(2,.map (oM x295)),W 3 1 [bv false],W 4 1 [.osl 0 0 (List.length a0) 1],W 5 1 [.mp 2],(6,rup_units_m2d81_lp17 a0 x210 .ready none)],7⟩ ?_
   refine jc_seq ?_
   refine jIf ?_ ?_
   ·refine jc_skip ?_
    refine jx_seqN ?_
    refine jc_seq ?_
    refine jc_bind (fun y=>match y with | Sum.inl x350=>⟨[V 0 (.yld 6),V 2 (pt 5 1),V 9 (.osl 0 0 (List.length a0) 1),V 10 (iv (List.length a0:Int)),V 11 (iv x296)],[(0,.rows 1 (List.map c_L3 a0)),W 1 1 [.mp 2],(2,.map (oM x350)),W 3 1 [bv false],W 4 1 [.osl 0 0 (List.length a0) 1],W 5 1 [.mp 2],(6,rup_units_m2d81_lp17 a0 x210 .ready none)],7⟩ | Sum.inr _=>⟨[],[(0,.rows 1 (List.map c_L3 a0)),W 1 1 [.mp 2],(2,.map (oM x295)),W 3 1 [bv true],W 4 1 [.osl 0 0 (List.length a0) 1],W 5 1 [.mp 2],(6,rup_units_m2d81_lp17 a0 x210 .done (some (.exit 2)))],7⟩) (fun y=>match y with | Sum.inl x350=>.normal | Sum.inr _=>.ret) ?_ ?_
    ·refine jc_block ?_
     refine jR ?_
     refine jr_part (i:=0) (mo:=ixl a0 x296) rfl rfl rfl rfl (fun _ hc=>aop_ixo0 (sz:=1) (e:=23) (kk:=.i64) (id:=0) (by kernel_rfl) (by kernel_rfl) (by kernel_rfl) (by kernel_rfl) hc) (fun _=>rfl) ?_
     intro x351 h351
     refine jr_one (i:=1) (v:=.fsl 1 (List.map cI x351)) rfl rfl rfl rfl (aop_ldo (l:=a0) (c:=c_L3) (id:=0) (k:=(Int.toNat x296)) (sz:=1) (off:=0) (a:=x351) (by kernel_rfl) (by kernel_rfl) (ixl_lt h351).2.2 (by kernel_rfl)) rfl ?_
     refine jG 2 1 ⟨[V 0 (.yld 6),V 2 (pt 5 1),V 5 (.fsl 1 (List.map cI x351)),V 9 (.osl 0 0 (List.length a0) 1),V 10 (iv (List.length a0:Int)),V 11 (iv x296)],[(0,.rows 1 (List.map c_L3 a0)),W 1 1 [.mp 2],(2,.map (oM x295)),W 3 1 [bv false],W 4 1 [.osl 0 0 (List.length a0) 1],W 5 1 [.mp 2],(6,rup_units_m2d81_lp17 a0 x210 .ready none)],7⟩ ?_
     refine jN ?_
     refine jc_seq ?_
     refine jR ?_
     refine jG 0 2 ⟨[V 0 (.yld 6),V 2 (pt 5 1),V 5 (.fsl 1 (List.map cI x351)),V 9 (.osl 0 0 (List.length a0) 1),V 10 (iv (List.length a0:Int)),V 11 (iv x296),V 15 (.fsl 1 (List.map cI x351)),V 16 (.fn 39 [pt 5 1])],[(0,.rows 1 (List.map c_L3 a0)),W 1 1 [.mp 2],(2,.map (oM x295)),W 3 1 [bv false],W 4 1 [.osl 0 0 (List.length a0) 1],W 5 1 [.mp 2],(6,rup_units_m2d81_lp17 a0 x210 .ready none)],7⟩ ?_
     refine jr_callF (i:=2) rfl rfl rfl rfl (vs:=[.fsl 1 (List.map cI x351),.fn 39 [pt 5 1]]) (by kernel_rfl) (snapL_cons rfl (snapL_cons (snapc_fn (snapL_cons (snapc_ptr (row:=[.mp 2]) (by kernel_rfl) (snapL_cons (snapc_mp (by kernel_rfl)) (snapL_nil _))) (snapL_nil _))) (snapL_nil _))) (all2_cons (fle_refl _) (all2_cons (fle_refl _) all2_nil)) (slices_ContainsFunc_int_int_se3d8_ok x351 x295) (fun _=>rfl) (fun _=>rfl) ?_
     intro x352 h352
     refine jN ?_
     refine jIf ?_ ?_
     ·refine jc_exit ?_
      refine jx_seqE ?_
      refine jx_blkE ?_
      exact jx_mid rfl (wkR [(0,some 0),(1,some 1),(2,some 2),(3,some 3),(4,some 4),(5,some 5),(6,some 6)] (fix_of hc17.2.2 (k:=7) rfl) (pc (hL 0 (noid_map ni_L3 _)) (pc (hC 1) (pc (hM 2) (pc (hC 3) (pc (hC 4) (pc (hC 5) (pc (.inr (.inr (.inl ⟨6,_,_,rfl,rfl,rfl,by kernel_rfl⟩))) allp_nil))))))))
     refine jc_skip ?_
     refine jx_seqN ?_
     refine jS ⟨[V 0 (.yld 6),V 2 (pt 5 1),V 5 (.fsl 1 (List.map cI x351)),V 6 (nilS),V 9 (.osl 0 0 (List.length a0) 1),V 10 (iv (List.length a0:Int)),V 11 (iv x296)],[(0,.rows 1 (List.map c_L3 a0)),W 1 1 [.mp 2],(2,.map (oM x295)),W 3 1 [bv false],W 4 1 [.osl 0 0 (List.length a0) 1],W 5 1 [.mp 2],(6,rup_units_m2d81_lp17 a0 x210 .ready none)],7⟩ ?_
     refine jc_seq ?_
     refine jR ?_
     refine jG 0 3 ⟨[V 0 (.yld 6),V 2 (pt 5 1),V 6 (nilS),V 9 (.osl 0 0 (List.length a0) 1),V 10 (iv (List.length a0:Int)),V 11 (iv x296),V 18 (.fsl 1 (List.map cI x351)),V 19 (iv (List.length (List.map cI x351):Int)),V 20 (iv 0)],[(0,.rows 1 (List.map c_L3 a0)),W 1 1 [.mp 2],(2,.map (oM x295)),W 3 1 [bv false],W 4 1 [.osl 0 0 (List.length a0) 1],W 5 1 [.mp 2],(6,rup_units_m2d81_lp17 a0 x210 .ready none)],7⟩ ?_
     simp only[List.length_map]
     refine jN ?_
     refine jc_block ?_
     refine jc_bind (fun x369=>⟨[V 0 (.yld 6),V 2 (pt 5 1),V 6 (.osl 7 0 (List.length x369) 1),V 9 (.osl 0 0 (List.length a0) 1),V 10 (iv (List.length a0:Int)),V 11 (iv x296)],[(0,.rows 1 (List.map c_L3 a0)),W 1 1 [.mp 2],(2,.map (oM x295)),W 3 1 [bv false],W 4 1 [.osl 0 0 (List.length a0) 1],W 5 1 [.mp 2],(6,rup_units_m2d81_lp17 a0 x210 .ready none),(7,.rows 1 (List.map cI x369))],8⟩) (fun x369=>(.exit 2)) (jc_loop (fun (x359,x360)=>⟨[V 0 (.yld 6),V 2 (pt 5 1),V 6 (.osl 7 0 (List.length x359) 1),V 9 (.osl 0 0 (List.length a0) 1),V 10 (iv (List.length a0:Int)),V 11 (iv x296),V 18 (.fsl 1 (List.map cI x351)),V 19 (iv (List.length x351:Int)),V 20 (iv x360)],[(0,.rows 1 (List.map c_L3 a0)),W 1 1 [.mp 2],(2,.map (oM x295)),W 3 1 [bv false],W 4 1 [.osl 0 0 (List.length a0) 1],W 5 1 [.mp 2],(6,rup_units_m2d81_lp17 a0 x210 .ready none),(7,.rows 1 (List.map cI x359))],8⟩) (wkR [(0,some 0),(1,some 1),(2,some 2),(3,some 3),(4,some 4),(5,some 5),(6,some 6),(7,none)] (fix_of hc17.2.2 (k:=7) rfl) (pc (hL 0 (noid_map ni_L3 _)) (pc (hC 1) (pc (hM 2) (pc (hC 3) (pc (hC 4) (pc (hC 5) (pc (.inr (.inr (.inl ⟨6,_,_,rfl,rfl,rfl,by kernel_rfl⟩))) (pc hZ allp_nil))))))))) ?_) ?_
     ·rintro⟨x359,x360⟩
      unfold rup_units_m2d81_l2
      refine jS ⟨[V 0 (.yld 6),V 2 (pt 5 1),V 6 (.osl 7 0 (List.length x359) 1),V 9 (.osl 0 0 (List.length a0) 1),V 10 (iv (List.length a0:Int)),V 11 (iv x296),V 18 (.fsl 1 (List.map cI x351)),V 19 (iv (List.length x351:Int)),V 20 (iv x360),V 21 (bv (decide (x360 < (List.length x351:Int))))],[(0,.rows 1 (List.map c_L3 a0)),W 1 1 [.mp 2],(2,.map (oM x295)),W 3 1 [bv false],W 4 1 [.osl 0 0 (List.length a0) 1],W 5 1 [.mp 2],(6,rup_units_m2d81_lp17 a0 x210 .ready none),(7,.rows 1 (List.map cI x359))],8⟩ ?_
      refine jc_seq ?_
      refine jIf ?_ ?_
      ·refine jc_skip ?_
       refine jx_seqN ?_
       refine jc_seq ?_
       refine jc_bind (fun x375=>⟨[V 0 (.yld 6),V 2 (pt 5 1),V 6 (.osl 7 0 (List.length x375) 1),V 9 (.osl 0 0 (List.length a0) 1),V 10 (iv (List.length a0:Int)),V 11 (iv x296),V 18 (.fsl 1 (List.map cI x351)),V 19 (iv (List.length x351:Int)),V 20 (iv x360)],[(0,.rows 1 (List.map c_L3 a0)),W 1 1 [.mp 2],(2,.map (oM x295)),W 3 1 [bv false],W 4 1 [.osl 0 0 (List.length a0) 1],W 5 1 [.mp 2],(6,rup_units_m2d81_lp17 a0 x210 .ready none),(7,.rows 1 (List.map cI x375))],8⟩) (fun x375=>.normal) ?_ ?_
       ·refine jc_block ?_
        refine jR ?_
        refine jr_part (i:=0) (mo:=ixl x351 x360) rfl rfl rfl rfl (fun _ hc=>aop_ixf (c:=cI) (sz:=1) (e:=3) (kk:=.i64) (by kernel_rfl) (by kernel_rfl) (by kernel_rfl) (by kernel_rfl) hc) (fun _=>rfl) ?_
        intro x376 h376
        refine jG 1 2 ⟨[V 0 (.yld 6),V 2 (pt 5 1),V 6 (.osl 7 0 (List.length x359) 1),V 8 (iv x376),V 9 (.osl 0 0 (List.length a0) 1),V 10 (iv (List.length a0:Int)),V 11 (iv x296),V 18 (.fsl 1 (List.map cI x351)),V 19 (iv (List.length x351:Int)),V 20 (iv x360)],[(0,.rows 1 (List.map c_L3 a0)),W 1 1 [.mp 2],(2,.map (oM x295)),W 3 1 [bv false],W 4 1 [.osl 0 0 (List.length a0) 1],W 5 1 [.mp 2],(6,rup_units_m2d81_lp17 a0 x210 .ready none),(7,.rows 1 (List.map cI x359))],8⟩ ?_
        refine jN ?_
        refine jR ?_
        refine jG 0 3 ⟨[V 0 (.yld 6),V 2 (pt 5 1),V 6 (.osl 7 0 (List.length x359) 1),V 8 (iv x376),V 9 (.osl 0 0 (List.length a0) 1),V 10 (iv (List.length a0:Int)),V 11 (iv x296),V 18 (.fsl 1 (List.map cI x351)),V 19 (iv (List.length x351:Int)),V 20 (iv x360),V 24 (.mp 2),V 26 (iv (w64 (0 - x376)))],[(0,.rows 1 (List.map c_L3 a0)),W 1 1 [.mp 2],(2,.map (oM x295)),W 3 1 [bv false],W 4 1 [.osl 0 0 (List.length a0) 1],W 5 1 [.mp 2],(6,rup_units_m2d81_lp17 a0 x210 .ready none),(7,.rows 1 (List.map cI x359))],8⟩ ?_
        refine jr_callF (i:=3) rfl rfl rfl rfl (vs:=[.mp 2,iv (w64 (0 - x376))]) (by kernel_rfl) (snapL_cons (snapc_mp (by kernel_rfl)) (snapL_cons rfl (snapL_nil _))) (all2_cons (fle_refl _) (all2_cons (fle_refl _) all2_nil)) (rup_sheet_isTrue_ok x295 (w64 (0 - x376))) (fun _=>rfl) (fun _=>rfl) ?_
        intro x377 h377
        refine jG 4 2 ⟨[V 0 (.yld 6),V 2 (pt 5 1),V 6 (.osl 7 0 (List.length x359) 1),V 8 (iv x376),V 9 (.osl 0 0 (List.length a0) 1),V 10 (iv (List.length a0:Int)),V 11 (iv x296),V 18 (.fsl 1 (List.map cI x351)),V 19 (iv (List.length x351:Int)),V 20 (iv x360),V 29 (bv (!x377))],[(0,.rows 1 (List.map c_L3 a0)),W 1 1 [.mp 2],(2,.map (oM x295)),W 3 1 [bv false],W 4 1 [.osl 0 0 (List.length a0) 1],W 5 1 [.mp 2],(6,rup_units_m2d81_lp17 a0 x210 .ready none),(7,.rows 1 (List.map cI x359))],8⟩ ?_
        refine jr_bind 6 5 (fun x379=>⟨[V 0 (.yld 6),V 2 (pt 5 1),V 6 (.osl 7 0 (List.length x359) 1),V 8 (iv x376),V 9 (.osl 0 0 (List.length a0) 1),V 10 (iv (List.length a0:Int)),V 11 (iv x296),V 18 (.fsl 1 (List.map cI x351)),V 19 (iv (List.length x351:Int)),V 20 (iv x360),V 34 (bv x379)],[(0,.rows 1 (List.map c_L3 a0)),W 1 1 [.mp 2],(2,.map (oM x295)),W 3 1 [bv false],W 4 1 [.osl 0 0 (List.length a0) 1],W 5 1 [.mp 2],(6,rup_units_m2d81_lp17 a0 x210 .ready none),(7,.rows 1 (List.map cI x359))],8⟩) ?_ ?_
        ·refine jSp 29 ?_ ?_
         ·refine jG 0 2 ⟨[V 0 (.yld 6),V 2 (pt 5 1),V 6 (.osl 7 0 (List.length x359) 1),V 8 (iv x376),V 9 (.osl 0 0 (List.length a0) 1),V 10 (iv (List.length a0:Int)),V 11 (iv x296),V 18 (.fsl 1 (List.map cI x351)),V 19 (iv (List.length x351:Int)),V 20 (iv x360),(29,.lit true),V 30 (.osl 7 0 (List.length x359) 1),V 31 (iv x376)],[(0,.rows 1 (List.map c_L3 a0)),W 1 1 [.mp 2],(2,.map (oM x295)),W 3 1 [bv false],W 4 1 [.osl 0 0 (List.length a0) 1],W 5 1 [.mp 2],(6,rup_units_m2d81_lp17 a0 x210 .ready none),(7,.rows 1 (List.map cI x359))],8⟩ ?_
          refine jr_callF (i:=2) rfl rfl rfl rfl (vs:=[.osl 7 0 (List.length x359) 1,iv x376]) (by kernel_rfl) (snapL_cons (snapc_own fz_I (by kernel_rfl)) (snapL_cons rfl (snapL_nil _))) (all2_cons (fle_refl _) (all2_cons (fle_refl _) all2_nil)) (slices_Contains_int_int_ok x359 x376) (fun _=>rfl) (fun _=>rfl) ?_
          intro x380 h380
          refine jG 3 2 ⟨[V 0 (.yld 6),V 2 (pt 5 1),V 6 (.osl 7 0 (List.length x359) 1),V 8 (iv x376),V 9 (.osl 0 0 (List.length a0) 1),V 10 (iv (List.length a0:Int)),V 11 (iv x296),V 18 (.fsl 1 (List.map cI x351)),V 19 (iv (List.length x351:Int)),V 20 (iv x360),V 34 (bv (!x380))],[(0,.rows 1 (List.map c_L3 a0)),W 1 1 [.mp 2],(2,.map (oM x295)),W 3 1 [bv false],W 4 1 [.osl 0 0 (List.length a0) 1],W 5 1 [.mp 2],(6,rup_units_m2d81_lp17 a0 x210 .ready none),(7,.rows 1 (List.map cI x359))],8⟩ ?_
          refine jr_nil rfl ?_
          exact jx_mid rfl (wkR [(0,some 0),(1,some 1),(2,some 2),(3,some 3),(4,some 4),(5,some 5),(6,some 6),(7,some 7)] (fix_of hc17.2.2 (k:=7) rfl) (pc (hL 0 (noid_map ni_L3 _)) (pc (hC 1) (pc (hM 2) (pc (hC 3) (pc (hC 4) (pc (hC 5) (pc (.inr (.inr (.inl ⟨6,_,_,rfl,rfl,rfl,by kernel_rfl⟩))) (pc (hL 7 (noid_map ni_I _)) allp_nil)))))))))
         refine jG 0 5 ⟨[V 0 (.yld 6),V 2 (pt 5 1),V 6 (.osl 7 0 (List.length x359) 1),V 8 (iv x376),V 9 (.osl 0 0 (List.length a0) 1),V 10 (iv (List.length a0:Int)),V 11 (iv x296),V 18 (.fsl 1 (List.map cI x351)),V 19 (iv (List.length x351:Int)),V 20 (iv x360),V 34 (bv false)],[(0,.rows 1 (List.map c_L3 a0)),W 1 1 [.mp 2],(2,.map (oM x295)),W 3 1 [bv false],W 4 1 [.osl 0 0 (List.length a0) 1],W 5 1 [.mp 2],(6,rup_units_m2d81_lp17 a0 x210 .ready none),(7,.rows 1 (List.map cI x359))],8⟩ ?_
         refine jr_nil rfl ?_
         exact jx_mid rfl (wkR [(0,some 0),(1,some 1),(2,some 2),(3,some 3),(4,some 4),(5,some 5),(6,some 6),(7,some 7)] (fix_of hc17.2.2 (k:=7) rfl) (pc (hL 0 (noid_map ni_L3 _)) (pc (hC 1) (pc (hM 2) (pc (hC 3) (pc (hC 4) (pc (hC 5) (pc (.inr (.inr (.inl ⟨6,_,_,rfl,rfl,rfl,by kernel_rfl⟩))) (pc (hL 7 (noid_map ni_I _)) allp_nil)))))))))
        intro x379
        refine jN ?_
        refine jIf ?_ ?_
        ·refine jc_reg ?_
         refine jG 0 3 ⟨[V 0 (.yld 6),V 2 (pt 5 1),V 9 (.osl 0 0 (List.length a0) 1),V 10 (iv (List.length a0:Int)),V 11 (iv x296),V 18 (.fsl 1 (List.map cI x351)),V 19 (iv (List.length x351:Int)),V 20 (iv x360),V 35 (.osl 7 0 (List.length x359) 1),V 37 (.osl 8 0 (List.length [x376]) 1)],[(0,.rows 1 (List.map c_L3 a0)),W 1 1 [.mp 2],(2,.map (oM x295)),W 3 1 [bv false],W 4 1 [.osl 0 0 (List.length a0) 1],W 5 1 [.mp 2],(6,rup_units_m2d81_lp17 a0 x210 .ready none),(7,.rows 1 (List.map cI x359)),(8,.rows 1 (List.map cI [x376]))],9⟩ ?_
         refine jr_part (i:=3) (mo:=app 8 x359 [x376]) rfl rfl rfl rfl (fun _ hc=>aop_app (u:=.osl 7 0 (List.length x359) 1) (w:=.osl 8 0 (List.length [x376]) 1) (e:=3) (td:=.slice 3) (by kernel_rfl) (by kernel_rfl) (by kernel_rfl) (by kernel_rfl) (.inl ⟨_,rfl⟩) (appendOf_own (c:=cI) (sz:=1) (b:=8) (id:=7) (by kernel_rfl) (by kernel_rfl) (rows_own (by kernel_rfl)) (List.cons_ne_nil _ _) hc)) (fun _=>rfl) ?_
         intro x381 h381
         refine jG 4 1 ⟨[V 0 (.yld 6),V 2 (pt 5 1),V 6 (.osl 9 0 (List.length x381) 1),V 9 (.osl 0 0 (List.length a0) 1),V 10 (iv (List.length a0:Int)),V 11 (iv x296),V 18 (.fsl 1 (List.map cI x351)),V 19 (iv (List.length x351:Int)),V 20 (iv x360)],[(0,.rows 1 (List.map c_L3 a0)),W 1 1 [.mp 2],(2,.map (oM x295)),W 3 1 [bv false],W 4 1 [.osl 0 0 (List.length a0) 1],W 5 1 [.mp 2],(6,rup_units_m2d81_lp17 a0 x210 .ready none),(9,.rows 1 (List.map cI x381))],10⟩ ?_
         refine jr_nil rfl ?_
         refine jx_blkN ?_
         exact jx_mid rfl (wkR [(0,some 0),(1,some 1),(2,some 2),(3,some 3),(4,some 4),(5,some 5),(6,some 6),(7,some 9)] (fix_of hc17.2.2 (k:=7) rfl) (pc (hL 0 (noid_map ni_L3 _)) (pc (hC 1) (pc (hM 2) (pc (hC 3) (pc (hC 4) (pc (hC 5) (pc (.inr (.inr (.inl ⟨6,_,_,rfl,rfl,rfl,by kernel_rfl⟩))) (pc (hL 9 (noid_map ni_I _)) allp_nil)))))))))
        refine jc_skip ?_
        refine jx_blkN ?_
        exact jx_mid rfl (wkR [(0,some 0),(1,some 1),(2,some 2),(3,some 3),(4,some 4),(5,some 5),(6,some 6),(7,some 7)] (fix_of hc17.2.2 (k:=7) rfl) (pc (hL 0 (noid_map ni_L3 _)) (pc (hC 1) (pc (hM 2) (pc (hC 3) (pc (hC 4) (pc (hC 5) (pc (.inr (.inr (.inl ⟨6,_,_,rfl,rfl,rfl,by kernel_rfl⟩))) (pc (hL 7 (noid_map ni_I _)) allp_nil)))))))))
       intro x375
       refine jx_seqN ?_
       refine jT ⟨[V 0 (.yld 6),V 2 (pt 5 1),V 6 (.osl 7 0 (List.length x375) 1),V 9 (.osl 0 0 (List.length a0) 1),V 10 (iv (List.length a0:Int)),V 11 (iv x296),V 18 (.fsl 1 (List.map cI x351)),V 19 (iv (List.length x351:Int)),V 20 (iv (w64 (x360 + 1)))],[(0,.rows 1 (List.map c_L3 a0)),W 1 1 [.mp 2],(2,.map (oM x295)),W 3 1 [bv false],W 4 1 [.osl 0 0 (List.length a0) 1],W 5 1 [.mp 2],(6,rup_units_m2d81_lp17 a0 x210 .ready none),(7,.rows 1 (List.map cI x375))],8⟩ ?_
       exact jx_next (wkR [(0,some 0),(1,some 1),(2,some 2),(3,some 3),(4,some 4),(5,some 5),(6,some 6),(7,some 7)] (fix_of hc17.2.2 (k:=7) rfl) (pc (hL 0 (noid_map ni_L3 _)) (pc (hC 1) (pc (hM 2) (pc (hC 3) (pc (hC 4) (pc (hC 5) (pc (.inr (.inr (.inl ⟨6,_,_,rfl,rfl,rfl,by kernel_rfl⟩))) (pc (hL 7 (noid_map ni_I _)) allp_nil)))))))))
      refine jc_exit ?_
      refine jx_seqE ?_
      exact jx_done rfl nofun (wkR [(0,some 0),(1,some 1),(2,some 2),(3,some 3),(4,some 4),(5,some 5),(6,some 6),(7,some 7)] (fix_of hc17.2.2 (k:=7) rfl) (pc (hL 0 (noid_map ni_L3 _)) (pc (hC 1) (pc (hM 2) (pc (hC 3) (pc (hC 4) (pc (hC 5) (pc (.inr (.inr (.inl ⟨6,_,_,rfl,rfl,rfl,by kernel_rfl⟩))) (pc (hL 7 (noid_map ni_I _)) allp_nil)))))))))
     intro x369
     refine jx_blkE ?_
     refine jx_seqN ?_
     refine jR ?_
     refine jG 0 2 ⟨[V 0 (.yld 6),V 2 (pt 5 1),V 9 (.osl 0 0 (List.length a0) 1),V 10 (iv (List.length a0:Int)),V 11 (iv x296),V 40 (.yld 6),V 41 (.osl 7 0 (List.length x369) 1)],[(0,.rows 1 (List.map c_L3 a0)),W 1 1 [.mp 2],(2,.map (oM x295)),W 3 1 [bv false],W 4 1 [.osl 0 0 (List.length a0) 1],W 5 1 [.mp 2],(6,rup_units_m2d81_lp17 a0 x210 .ready none),(7,.rows 1 (List.map cI x369))],8⟩ ?_
     refine jr_yield (i:=2) (l:=6) (Nc:=66) (Kc:=[V 0 (.osl 0 0 (List.length a0) 1),V 6 (pt 1 1),V 9 (pt 3 1),V 10 (iv (List.length x210:Int)),V 36 (.fn 37 [pt 4 1,pt 5 1])]) (ps:=[37]) (vs:=[.osl 7 0 (List.length x369) 1]) (fun y=>match y with | Sum.inl _=>⟨[],[(0,.rows 1 (List.map c_L3 a0)),W 1 1 [.mp 2],(2,.map (oM x295)),W 3 1 [bv true],W 4 1 [.osl 0 0 (List.length a0) 1],W 5 1 [.mp 2],(6,rup_units_m2d81_lp17 a0 x210 .busy none)],8⟩ | Sum.inr x386=>⟨[],[(0,.rows 1 (List.map c_L3 a0)),W 1 1 [.mp 2],(2,.map (oM x386)),W 3 1 [bv false],W 4 1 [.osl 0 0 (List.length a0) 1],W 5 1 [.mp 2],(6,rup_units_m2d81_lp17 a0 x210 .busy none)],8⟩) (fun y=>match y with | Sum.inl _=>(.exit 2) | Sum.inr x386=>.normal) [0,2,9,10,11,42] [0,1,2,3,4,5,6] (after:=(fun y=>match y with | Sum.inl _=>⟨[V 0 (.yld 6),V 2 (pt 5 1),V 9 (.osl 0 0 (List.length a0) 1),V 10 (iv (List.length a0:Int)),V 11 (iv x296),V 42 (bv false)],[(0,.rows 1 (List.map c_L3 a0)),W 1 1 [.mp 2],(2,.map (oM x295)),W 3 1 [bv true],W 4 1 [.osl 0 0 (List.length a0) 1],W 5 1 [.mp 2],(6,rup_units_m2d81_lp17 a0 x210 .done (some (.exit 2)))],8⟩ | Sum.inr x386=>⟨[V 0 (.yld 6),V 2 (pt 5 1),V 9 (.osl 0 0 (List.length a0) 1),V 10 (iv (List.length a0:Int)),V 11 (iv x296),V 42 (bv true)],[(0,.rows 1 (List.map c_L3 a0)),W 1 1 [.mp 2],(2,.map (oM x386)),W 3 1 [bv false],W 4 1 [.osl 0 0 (List.length a0) 1],W 5 1 [.mp 2],(6,rup_units_m2d81_lp17 a0 x210 .ready none)],8⟩)) rfl rfl rup_units_m2d81_y19_aw rup_units_m2d81_y19_bw (by kernel_rfl) (by kernel_rfl) (yctx_of hc17 rfl) rfl (by kernel_rfl) rfl ?_ (by rintro (_ | x386) <;> exact⟨none,by kernel_rfl⟩) (by rintro (_ | x386) <;> kernel_rfl) ?_
     ·intro F21 hy21
      refine jT ⟨[V 6 (pt 1 1),V 9 (pt 3 1),V 11 (.osl 7 0 (List.length x369) 1)],[(0,.rows 1 (List.map c_L3 a0)),W 1 1 [.mp 2],(2,.map (oM x295)),W 3 1 [bv false],W 4 1 [.osl 0 0 (List.length a0) 1],W 5 1 [.mp 2],(6,rup_units_m2d81_lp17 a0 x210 .ready none),(7,.rows 1 (List.map cI x369))],8⟩ ?_
      refine jx_asg hy21 rfl ?_
      refine jc_block ?_
      refine jc_block ?_
      refine jS ⟨[V 6 (pt 1 1),V 9 (pt 3 1),V 11 (.osl 7 0 (List.length x369) 1),V 38 (bv ((List.length x369:Int) == 0))],[(0,.rows 1 (List.map c_L3 a0)),W 1 1 [.mp 2],(2,.map (oM x295)),W 3 1 [bv false],W 4 1 [.osl 0 0 (List.length a0) 1],W 5 1 [.mp 2],(6,rup_units_m2d81_lp17 a0 x210 .busy none),(7,.rows 1 (List.map cI x369))],8⟩ ?_
      refine jIf ?_ ?_
      ·refine jS ⟨[],[(0,.rows 1 (List.map c_L3 a0)),W 1 1 [.mp 2],(2,.map (oM x295)),W 3 1 [bv true],W 4 1 [.osl 0 0 (List.length a0) 1],W 5 1 [.mp 2],(6,rup_units_m2d81_lp17 a0 x210 .busy none)],8⟩ ?_
       refine jc_exit ?_
       refine jx_blkX rfl ?_
       refine jx_blkX rfl ?_
       exact jx_mid rfl (wkR [(0,some 0),(1,some 1),(2,some 2),(3,some 3),(4,some 4),(5,some 5),(6,some 6),(7,some 7)] (fix_of hy21.2 (k:=8) rfl) (pc (hL 0 (noid_map ni_L3 _)) (pc (hC 1) (pc (hM 2) (pc (hC 3) (pc (hC 4) (pc (hC 5) (pc (.inr (.inr (.inl ⟨6,_,_,rfl,rfl,rfl,by kernel_rfl⟩))) allp_nil))))))))
      refine jR ?_
      refine jG 0 4 ⟨[V 6 (pt 1 1),V 11 (.osl 7 0 (List.length x369) 1),V 46 (bv ((List.length x369:Int) == 1))],[(0,.rows 1 (List.map c_L3 a0)),W 1 1 [.mp 2],(2,.map (oM x295)),W 3 1 [bv false],W 4 1 [.osl 0 0 (List.length a0) 1],W 5 1 [.mp 2],(6,rup_units_m2d81_lp17 a0 x210 .busy none),(7,.rows 1 (List.map cI x369))],8⟩ ?_
      refine jr_bind 4 7 (fun x389=>⟨[V 6 (pt 1 1),V 11 (.osl 7 0 (List.length x369) 1),V 53 (bv x389)],[(0,.rows 1 (List.map c_L3 a0)),W 1 1 [.mp 2],(2,.map (oM x295)),W 3 1 [bv false],W 4 1 [.osl 0 0 (List.length a0) 1],W 5 1 [.mp 2],(6,rup_units_m2d81_lp17 a0 x210 .busy none),(7,.rows 1 (List.map cI x369))],8⟩) ?_ ?_
      ·refine jSp 46 ?_ ?_
       ·refine jG 0 2 ⟨[V 6 (pt 1 1),V 11 (.osl 7 0 (List.length x369) 1),(46,.lit true),V 47 (.mp 2),V 48 (.osl 7 0 (List.length x369) 1)],[(0,.rows 1 (List.map c_L3 a0)),W 1 1 [.mp 2],(2,.map (oM x295)),W 3 1 [bv false],W 4 1 [.osl 0 0 (List.length a0) 1],W 5 1 [.mp 2],(6,rup_units_m2d81_lp17 a0 x210 .busy none),(7,.rows 1 (List.map cI x369))],8⟩ ?_
        refine jr_part (i:=2) (mo:=ixl x369 0) rfl rfl rfl rfl (fun _ hc=>aop_ixo0 (sz:=1) (e:=3) (kk:=.i64) (id:=7) (by kernel_rfl) (by kernel_rfl) (by kernel_rfl) (by kernel_rfl) hc) (fun _=>rfl) ?_
        intro x390 h390
        refine jr_one (i:=3) (v:=iv x390) rfl rfl rfl rfl (aop_ldo (l:=x369) (c:=cI) (id:=7) (k:=(Int.toNat 0)) (sz:=1) (off:=0) (a:=x390) (by kernel_rfl) (by kernel_rfl) (ixl_lt h390).2.2 (by kernel_rfl)) rfl ?_
        refine jr_callF (i:=4) rfl rfl rfl rfl (vs:=[.mp 2,iv x390]) (by kernel_rfl) (snapL_cons (snapc_mp (by kernel_rfl)) (snapL_cons rfl (snapL_nil _))) (all2_cons (fle_refl _) (all2_cons (fle_refl _) all2_nil)) (rup_sheet_isTrue_ok x295 x390) (fun _=>rfl) (fun _=>rfl) ?_
        intro x391 h391
        refine jG 5 2 ⟨[V 6 (pt 1 1),V 11 (.osl 7 0 (List.length x369) 1),V 53 (bv (!x391))],[(0,.rows 1 (List.map c_L3 a0)),W 1 1 [.mp 2],(2,.map (oM x295)),W 3 1 [bv false],W 4 1 [.osl 0 0 (List.length a0) 1],W 5 1 [.mp 2],(6,rup_units_m2d81_lp17 a0 x210 .busy none),(7,.rows 1 (List.map cI x369))],8⟩ ?_
        refine jr_nil rfl ?_
        exact jx_mid rfl (wkR [(0,some 0),(1,some 1),(2,some 2),(3,some 3),(4,some 4),(5,some 5),(6,some 6),(7,some 7)] (fix_of hy21.2 (k:=8) rfl) (pc (hL 0 (noid_map ni_L3 _)) (pc (hC 1) (pc (hM 2) (pc (hC 3) (pc (hC 4) (pc (hC 5) (pc (.inr (.inr (.inl ⟨6,_,_,rfl,rfl,rfl,by kernel_rfl⟩))) (pc (hL 7 (noid_map ni_I _)) allp_nil)))))))))
       refine jG 0 7 ⟨[V 6 (pt 1 1),V 11 (.osl 7 0 (List.length x369) 1),V 53 (bv false)],[(0,.rows 1 (List.map c_L3 a0)),W 1 1 [.mp 2],(2,.map (oM x295)),W 3 1 [bv false],W 4 1 [.osl 0 0 (List.length a0) 1],W 5 1 [.mp 2],(6,rup_units_m2d81_lp17 a0 x210 .busy none),(7,.rows 1 (List.map cI x369))],8⟩ ?_
       refine jr_nil rfl ?_
       exact jx_mid rfl (wkR [(0,some 0),(1,some 1),(2,some 2),(3,some 3),(4,some 4),(5,some 5),(6,some 6),(7,some 7)] (fix_of hy21.2 (k:=8) rfl) (pc (hL 0 (noid_map ni_L3 _)) (pc (hC 1) (pc (hM 2) (pc (hC 3) (pc (hC 4) (pc (hC 5) (pc (.inr (.inr (.inl ⟨6,_,_,rfl,rfl,rfl,by kernel_rfl⟩))) (pc (hL 7 (noid_map ni_I _)) allp_nil)))))))))
      intro x389
      refine jG 11 1 ⟨[V 6 (pt 1 1),V 11 (.osl 7 0 (List.length x369) 1),V 42 (bv x389)],[(0,.rows 1 (List.map c_L3 a0)),W 1 1 [.mp 2],(2,.map (oM x295)),W 3 1 [bv false],W 4 1 [.osl 0 0 (List.length a0) 1],W 5 1 [.mp 2],(6,rup_units_m2d81_lp17 a0 x210 .busy none),(7,.rows 1 (List.map cI x369))],8⟩ ?_
      refine jN ?_
      refine jIf ?_ ?_
      ·refine jc_reg ?_
       refine jG 0 2 ⟨[V 54 (.mp 2),V 55 (.osl 7 0 (List.length x369) 1)],[(0,.rows 1 (List.map c_L3 a0)),W 1 1 [.mp 2],(2,.map (oM x295)),W 3 1 [bv false],W 4 1 [.osl 0 0 (List.length a0) 1],W 5 1 [.mp 2],(6,rup_units_m2d81_lp17 a0 x210 .busy none),(7,.rows 1 (List.map cI x369))],8⟩ ?_
       refine jr_part (i:=2) (mo:=ixl x369 0) rfl rfl rfl rfl (fun _ hc=>aop_ixo0 (sz:=1) (e:=3) (kk:=.i64) (id:=7) (by kernel_rfl) (by kernel_rfl) (by kernel_rfl) (by kernel_rfl) hc) (fun _=>rfl) ?_
       intro x392 h392
       refine jr_one (i:=3) (v:=iv x392) rfl rfl rfl rfl (aop_ldo (l:=x369) (c:=cI) (id:=7) (k:=(Int.toNat 0)) (sz:=1) (off:=0) (a:=x392) (by kernel_rfl) (by kernel_rfl) (ixl_lt h392).2.2 (by kernel_rfl)) rfl ?_
       refine jr_one (i:=4) (v:=iv (mget x295 x392)) (us:=[]) rfl rfl rfl rfl (aop_look (l:=x295) (id:=2) (kk:=x392) (kt:=3) (et:=3) (by kernel_rfl) (by kernel_rfl) (by kernel_rfl) (by kernel_rfl) (by kernel_rfl) (by kernel_rfl)) rfl ?_
       refine jG 5 1 ⟨[V 54 (.mp 2),V 57 (iv x392),V 59 (iv (w64 ((mget x295 x392) + 1)))],[(0,.rows 1 (List.map c_L3 a0)),W 1 1 [.mp 2],(2,.map (oM x295)),W 3 1 [bv false],W 4 1 [.osl 0 0 (List.length a0) 1],W 5 1 [.mp 2],(6,rup_units_m2d81_lp17 a0 x210 .busy none)],8⟩ ?_
       refine jr_sto (i:=6) [] [0,1,2,3,4,5,6] (st1:=⟨[],[(0,.rows 1 (List.map c_L3 a0)),W 1 1 [.mp 2],(2,.map (oM (mput x295 x392 (w64 ((mget x295 x392) + 1))))),W 3 1 [bv false],W 4 1 [.osl 0 0 (List.length a0) 1],W 5 1 [.mp 2],(6,rup_units_m2d81_lp17 a0 x210 .busy none)],8⟩) rfl rfl rfl rfl (aop_mput (l:=x295) (id:=2) (kk:=x392) (v:=(w64 ((mget x295 x392) + 1))) (kt:=3) (et:=3) (by kernel_rfl) (by kernel_rfl) (by kernel_rfl) (by kernel_rfl) (by kernel_rfl) (by kernel_rfl)) (by kernel_rfl) ?_
       refine jr_nil rfl ?_
       refine jx_blkN ?_
       refine jx_blkN ?_
       exact jx_mid rfl (wkR [(0,some 0),(1,some 1),(2,some 2),(3,some 3),(4,some 4),(5,some 5),(6,some 6),(7,some 7)] (fix_of hy21.2 (k:=8) rfl) (pc (hL 0 (noid_map ni_L3 _)) (pc (hC 1) (pc (hM 2) (pc (hC 3) (pc (hC 4) (pc (hC 5) (pc (.inr (.inr (.inl ⟨6,_,_,rfl,rfl,rfl,by kernel_rfl⟩))) allp_nil))))))))
      refine jc_skip ?_
      refine jx_blkN ?_
      refine jx_blkN ?_
      exact jx_mid rfl (wkR [(0,some 0),(1,some 1),(2,some 2),(3,some 3),(4,some 4),(5,some 5),(6,some 6),(7,some 7)] (fix_of hy21.2 (k:=8) rfl) (pc (hL 0 (noid_map ni_L3 _)) (pc (hC 1) (pc (hM 2) (pc (hC 3) (pc (hC 4) (pc (hC 5) (pc (.inr (.inr (.inl ⟨6,_,_,rfl,rfl,rfl,by kernel_rfl⟩))) allp_nil))))))))
     rintro (_ | x386)
     ·refine jG 3 1 ⟨[V 0 (.yld 6),V 2 (pt 5 1),V 9 (.osl 0 0 (List.length a0) 1),V 10 (iv (List.length a0:Int)),V 11 (iv x296),V 43 (bv true)],[(0,.rows 1 (List.map c_L3 a0)),W 1 1 [.mp 2],(2,.map (oM x295)),W 3 1 [bv true],W 4 1 [.osl 0 0 (List.length a0) 1],W 5 1 [.mp 2],(6,rup_units_m2d81_lp17 a0 x210 .done (some (.exit 2)))],8⟩ ?_
      refine jN ?_
      refine jc_condK (c:=true) (by kernel_rfl) ?_
      refine jc_ret ?_
      refine jx_blkR ?_
      exact jx_mid rfl (wkR [(0,some 0),(1,some 1),(2,some 2),(3,some 3),(4,some 4),(5,some 5),(6,some 6)] (fix_of hc17.2.2 (k:=7) rfl) (pc (hL 0 (noid_map ni_L3 _)) (pc (hC 1) (pc (hM 2) (pc (hC 3) (pc (hC 4) (pc (hC 5) (pc (.inr (.inr (.inl ⟨6,_,_,rfl,rfl,rfl,by kernel_rfl⟩))) allp_nil))))))))
     refine jG 3 1 ⟨[V 0 (.yld 6),V 2 (pt 5 1),V 9 (.osl 0 0 (List.length a0) 1),V 10 (iv (List.length a0:Int)),V 11 (iv x296),V 43 (bv false)],[(0,.rows 1 (List.map c_L3 a0)),W 1 1 [.mp 2],(2,.map (oM x386)),W 3 1 [bv false],W 4 1 [.osl 0 0 (List.length a0) 1],W 5 1 [.mp 2],(6,rup_units_m2d81_lp17 a0 x210 .ready none)],8⟩ ?_
     refine jN ?_
     refine jc_condK (c:=false) (by kernel_rfl) ?_
     refine jc_skip ?_
     refine jx_blkN ?_
     exact jx_mid rfl (wkR [(0,some 0),(1,some 1),(2,some 2),(3,some 3),(4,some 4),(5,some 5),(6,some 6)] (fix_of hc17.2.2 (k:=7) rfl) (pc (hL 0 (noid_map ni_L3 _)) (pc (hC 1) (pc (hM 2) (pc (hC 3) (pc (hC 4) (pc (hC 5) (pc (.inr (.inr (.inl ⟨6,_,_,rfl,rfl,rfl,by kernel_rfl⟩))) allp_nil))))))))
    rintro (x350 | _)
    ·refine jx_seqN ?_
     refine jT ⟨[V 0 (.yld 6),V 2 (pt 5 1),V 9 (.osl 0 0 (List.length a0) 1),V 10 (iv (List.length a0:Int)),V 11 (iv (w64 (x296 + 1)))],[(0,.rows 1 (List.map c_L3 a0)),W 1 1 [.mp 2],(2,.map (oM x350)),W 3 1 [bv false],W 4 1 [.osl 0 0 (List.length a0) 1],W 5 1 [.mp 2],(6,rup_units_m2d81_lp17 a0 x210 .ready none)],7⟩ ?_
     exact jx_next (wkR [(0,some 0),(1,some 1),(2,some 2),(3,some 3),(4,some 4),(5,some 5),(6,some 6)] (fix_of hc17.2.2 (k:=7) rfl) (pc (hL 0 (noid_map ni_L3 _)) (pc (hC 1) (pc (hM 2) (pc (hC 3) (pc (hC 4) (pc (hC 5) (pc (.inr (.inr (.inl ⟨6,_,_,rfl,rfl,rfl,by kernel_rfl⟩))) allp_nil))))))))
    refine jx_seqR ?_
    exact jx_done rfl nofun (wkR [(0,some 0),(1,some 1),(2,some 2),(3,some 3),(4,some 4),(5,some 5),(6,some 6)] (fix_of hc17.2.2 (k:=7) rfl) (pc (hL 0 (noid_map ni_L3 _)) (pc (hC 1) (pc (hM 2) (pc (hC 3) (pc (hC 4) (pc (hC 5) (pc (.inr (.inr (.inl ⟨6,_,_,rfl,rfl,rfl,by kernel_rfl⟩))) allp_nil))))))))
   refine jc_exit ?_
   refine jx_seqE ?_
   exact jx_done rfl nofun (wkR [(0,some 0),(1,some 1),(2,some 2),(3,some 3),(4,some 4),(5,some 5),(6,some 6)] (fix_of hc17.2.2 (k:=7) rfl) (pc (hL 0 (noid_map ni_L3 _)) (pc (hC 1) (pc (hM 2) (pc (hC 3) (pc (hC 4) (pc (hC 5) (pc (.inr (.inr (.inl ⟨6,_,_,rfl,rfl,rfl,by kernel_rfl⟩))) allp_nil))))))))
  rintro (x324 | x325)
  ·refine jx_blkR ?_
   refine jx_rng hc17 (.inr rfl) rfl nofun rfl ?_
   refine jx_blkX rfl ?_
   refine jx_seqE ?_
   refine jx_blkX rfl ?_
   exact jx_done rfl nofun (wkR [(0,some 0),(1,some 1),(2,some 2),(3,some 3)] (fix_of hF (k:=1) rfl) (pc (hL 0 (noid_map ni_L3 _)) (pc (hC 1) (pc (hM 2) (pc (hC 3) allp_nil)))))
  refine jx_blkE ?_
  refine jx_rng hc17 (.inl rfl) rfl nofun rfl ?_
  refine jx_blkN ?_
  refine jx_seqN ?_
  refine jR ?_
  refine jG 0 1 ⟨[V 0 (.osl 0 0 (List.length a0) 1),V 6 (pt 1 1),V 9 (pt 3 1),V 10 (iv (List.length x210:Int)),V 60 (.mp 2)],[(0,.rows 1 (List.map c_L3 a0)),W 1 1 [.mp 2],(2,.map (oM x325)),W 3 1 [bv false]],7⟩ ?_
  refine jr_one (i:=1) (v:=iv (List.length x325:Int)) (us:=[]) rfl rfl rfl rfl (aop_lenm (l:=x325) (id:=2) (kt:=3) (et:=3) (by kernel_rfl) (by kernel_rfl) (by kernel_rfl) (by kernel_rfl)) rfl ?_
  refine jG 2 2 ⟨[V 0 (.osl 0 0 (List.length a0) 1),V 6 (pt 1 1),V 9 (pt 3 1),V 63 (bv ((List.length x325:Int) == (List.length x210:Int)))],[(0,.rows 1 (List.map c_L3 a0)),W 1 1 [.mp 2],(2,.map (oM x325)),W 3 1 [bv false]],7⟩ ?_
  refine jN ?_
  refine jIf ?_ ?_
  ·refine jc_exit ?_
   refine jx_blkX rfl ?_
   exact jx_done rfl nofun (wkR [(0,some 0),(1,some 1),(2,some 2),(3,some 3)] (fix_of hF (k:=1) rfl) (pc (hL 0 (noid_map ni_L3 _)) (pc (hC 1) (pc (hM 2) (pc (hC 3) allp_nil)))))
  refine jc_skip ?_
  refine jx_blkN ?_
  exact jx_next (wkR [(0,some 0),(1,some 1),(2,some 2),(3,some 3)] (fix_of hF (k:=1) rfl) (pc (hL 0 (noid_map ni_L3 _)) (pc (hC 1) (pc (hM 2) (pc (hC 3) allp_nil)))))
 rintro⟨x268,x269⟩
 refine jx_blkE ?_
 refine jx_seqN ?_
 refine jS ⟨[V 4 (.mp 2),V 5 (bv x269)],[(0,.rows 1 (List.map c_L3 a0)),(2,.map (oM x268))],4⟩ ?_
 refine jc_ret ?_
 refine jx_scopeR ?_
 exact jx_retM (rup_units_m2d81_T a0 a1 (x268,x269)) (.inr rfl) (wkR [(0,some 0),(1,some 2)] (fix_of hF (k:=1) rfl) (pc (hL 0 (noid_map ni_L3 _)) (pc (hM 2) allp_nil))))
noncomputable def rup_Units_m2d81 (a0:List (List Int)) (a1:List Int):Option (List Int × Bool):=Option.bind (rup_units_m2d81 a0 a1) fun r=>collR srtSz r.1 r.2
theorem rup_Units_m2d81_ok (a0:List (List Int)) (a1:List Int):CtM E 6 [.osl 0 0 (List.length a0) 1,.fsl 1 (List.map cI a1)] [(0,.rows 1 (List.map c_L3 a0))] 1 (rup_Units_m2d81 a0 a1) (fun q:List Int × Bool=>.tup [.osl 2 0 q.1.length 1,bv q.2]) (fun q:List Int × Bool=>[(0,.rows 1 (List.map c_L3 a0)),(2,.rows 1 (List.map cI q.1))]) 3:=ctm_coll (E0:=E0) (srt:=srtSz) (fl:=fun r:List (Int × Int) × Bool=>r.1) (fb:=fun r:List (Int × Int) × Bool=>r.2) (j:=1) rfl rfl rfl rfl rfl rfl (fun r=>rfl) (rup_units_m2d81_ok a0 a1) _ (fun r q i o h=>coll_h1 h)
abbrev rup_units_m8296_r1:List LO:=[lo 4 (.assign (.const (.map none))) 34,lo 5 (.assign (.const (.bool false))) 4]
abbrev rup_units_m8296_r2:List LO:=[lo 12 (.makeMap 34 none) 34,lo 6 (.alloc 34) 0,ln (.store 34 (.tmp 6) (.tmp 12)) 0]
abbrev rup_units_m8296_r3:List LO:=[lm 13 1 23,lo 14 (.call ⟨.builtin .len,#[.tmp 13],#[23]⟩) 3,lo 15 (.move (.const (.int .i64 0))) 3]
abbrev rup_units_m8296_r4:List LO:=[lo 16 (.binOp .lss 3 (.tmp 15) (.tmp 14) 3) 0]
abbrev rup_units_m8296_r5:List LO:=[lo 17 (.indexAddr 23 (.tmp 13) (.tmp 15)) 0,lo 18 (.load 3 (.tmp 17)) 3,lo 8 (.assign (.tmp 18)) 3]
abbrev rup_units_m8296_r6:List LO:=[lm 19 8 3,lo 20 (.call ⟨.value (.func 22),#[.tmp 19],#[3]⟩) 4,lo 21 (.unOp .not 4 (.tmp 20)) 4]
abbrev rup_units_m8296_r7:List LO:=[lo 22 (.load 34 (.tmp 6)) 34,lm 23 8 3,lo 24 (.unOp .neg 3 (.tmp 23)) 3,lo 25 (.call ⟨.value (.func 27),#[.tmp 22,.tmp 24],#[34,3]⟩) 4]
abbrev rup_units_m8296_r8:List LO:=[lo 26 (.load 34 (.tmp 6)) 34,lo 4 (.assign (.tmp 26)) 34,lo 5 (.assign (.const (.bool true))) 4]
abbrev rup_units_m8296_r9:List LO:=[lo 27 (.load 34 (.tmp 6)) 34,lm 28 8 3,lo 29 (.lookup 34 (.tmp 27) (.tmp 28) false) 3,lo 30 (.binOp .add 3 (.tmp 29) (.const (.int .i64 1)) 3) 3,ln (.mapUpdate 34 (.tmp 27) (.tmp 28) (.tmp 30)) 0]
abbrev rup_units_m8296_r10:List LO:=[lo 31 (.binOp .add 3 (.tmp 15) (.const (.int .i64 1)) 3) 3,lm 15 31 3]
abbrev rup_units_m8296_r11:List LO:=[lo 9 (.alloc 4) 0,ln (.store 4 (.tmp 9) (.const (.bool false))) 0]
abbrev rup_units_m8296_r12:List LO:=[lo 32 (.load 34 (.tmp 6)) 34,lo 33 (.call ⟨.builtin .len,#[.tmp 32],#[34]⟩) 3,lo 10 (.assign (.tmp 33)) 3]
abbrev rup_units_m8296_r13:List LO:=[lo 34 (.load 34 (.tmp 6)) 34,lm 35 0 22,lo 36 (.call ⟨.value (.func 28),#[.tmp 34,.tmp 35],#[34,22]⟩) 53]
abbrev rup_units_m8296_r14:List LO:=[lo 11 (.assign (.tmp 37)) 23]
abbrev rup_units_m8296_r15:List LO:=[lm 39 11 23,lo 40 (.call ⟨.builtin .len,#[.tmp 39],#[23]⟩) 3,lo 41 (.binOp .eql 3 (.tmp 40) (.const (.int .i64 0)) 3) 4,lo 38 (.assign (.tmp 41)) 4]
abbrev rup_units_m8296_r16:List LO:=[ln (.store 4 (.tmp 9) (.const (.bool true))) 0]
abbrev rup_units_m8296_r17:List LO:=[lm 43 11 23,lo 44 (.call ⟨.builtin .len,#[.tmp 43],#[23]⟩) 3,lo 45 (.binOp .eql 3 (.tmp 44) (.const (.int .i64 1)) 3) 4,lm 46 45 4,lg 47 (.load 34 (.tmp 6)) 34 46 true,lmg 48 11 23 46 true,lg 49 (.indexAddr 23 (.tmp 48) (.const (.int .i64 0))) 0 46 true,lg 50 (.load 3 (.tmp 49)) 3 46 true,lg 51 (.call ⟨.value (.func 27),#[.tmp 47,.tmp 50],#[34,3]⟩) 4 46 true,lg 52 (.unOp .not 4 (.tmp 51)) 4 46 true,lo 53 (.pick (.tmp 46) (.tmp 52) (.const (.bool false))) 4,lo 42 (.assign (.tmp 53)) 4]
abbrev rup_units_m8296_r18:List LO:=[lo 54 (.load 34 (.tmp 6)) 34,lm 55 11 23,lo 56 (.indexAddr 23 (.tmp 55) (.const (.int .i64 0))) 0,lo 57 (.load 3 (.tmp 56)) 3,lo 58 (.lookup 34 (.tmp 54) (.tmp 57) false) 3,lo 59 (.binOp .add 3 (.tmp 58) (.const (.int .i64 1)) 3) 3,ln (.mapUpdate 34 (.tmp 54) (.tmp 57) (.tmp 59)) 0]
noncomputable def rup_units_m8296_y19_a0:Code:=codeSub (bodyOf Go.Proofs.Tryz.f16) [1,0,1,1,1,1,0,0,0,0,1,0,1,0,0]
theorem rup_units_m8296_y19_aw:lower E0 rup_units_m8296_y19_a0=some (.reg false rup_units_m8296_r14):=by kernel_rfl
noncomputable def rup_units_m8296_y19_b0:Code:=codeSub (bodyOf Go.Proofs.Tryz.f16) [1,0,1,1,1,1,0,0,0,0,1,0,1,0,1]
theorem rup_units_m8296_y19_bw:lower E0 rup_units_m8296_y19_b0=some (.block 5 (.block 6 (.seq (.reg false rup_units_m8296_r15) (.cond (.tmp 38) (.seq (.reg false rup_units_m8296_r16) (.exit 2)) (.seq (.reg true rup_units_m8296_r17) (.cond (.tmp 42) (.reg true rup_units_m8296_r18) .skip)))))):=by kernel_rfl
abbrev rup_units_m8296_r20:List LO:=[lo 60 (.load 34 (.tmp 6)) 34,lo 61 (.call ⟨.builtin .len,#[.tmp 60],#[34]⟩) 3,lm 62 10 3,lo 63 (.binOp .eql 3 (.tmp 61) (.tmp 62) 3) 4]
abbrev rup_units_m8296_r21:List LO:=[lo 64 (.load 34 (.tmp 6)) 34,lo 65 (.load 4 (.tmp 9)) 4,lo 4 (.assign (.tmp 64)) 34,lo 5 (.assign (.tmp 65)) 4]
noncomputable abbrev rup_units_m8296_c:LC:=.seq (.reg false rup_units_m8296_r1) (.scope (.seq (.reg false rup_units_m8296_r2) (.seq (.seq (.reg false rup_units_m8296_r3) (.block 0 (.loop (.seq (.reg false rup_units_m8296_r4) (.seq (.cond (.tmp 16) .skip (.exit 0)) (.seq (.block 1 (.seq (.reg false rup_units_m8296_r5) (.seq (.seq (.reg false rup_units_m8296_r6) (.cond (.tmp 21) (.exit 1) .skip)) (.seq (.seq (.reg false rup_units_m8296_r7) (.cond (.tmp 25) (.seq (.reg false rup_units_m8296_r8) .ret) .skip)) (.reg false rup_units_m8296_r9))))) (.reg false rup_units_m8296_r10))))))) (.seq (.reg false rup_units_m8296_r11) (.seq .label (.seq (.block 2 (.loop (.block 3 (.seq (.reg false rup_units_m8296_r12) (.seq (.seq (.reg false rup_units_m8296_r13) (.block 4 (.rng (.tmp 36) [37] rup_units_m8296_y19_a0 rup_units_m8296_y19_b0))) (.seq (.reg false rup_units_m8296_r20) (.cond (.tmp 63) (.exit 2) .skip))))))) (.seq (.reg true rup_units_m8296_r21) .ret)))))))
theorem rup_units_m8296_k:FnOk E0 16 66 [.tmp 4,.tmp 5] rup_units_m8296_c:=⟨⟨Go.Proofs.Tryz.f16,by kernel_rfl,by kernel_rfl,by kernel_rfl,by kernel_rfl,by kernel_rfl⟩,rfl,rfl⟩
noncomputable def rup_units_m8296_l1 (a1:List Int):(List (Int × Int) × Int)→Option (Step (List (Int × Int) × Int) ((List (Int × Int)) ⊕ (List (Int × Int)))):=fun (x137,x138)=>(if (decide (x138 < (List.length a1:Int)))=true then Option.bind (Option.bind (ixl a1 x138) (fun x151=>Option.bind (rup_literal x151) (fun x152=>(if (!x152)=true then some (Sum.inl x137) else Option.bind (rup_sheet_isTrue x137 (w64 (0 - x151))) (fun x153=>(if x153=true then some (Sum.inr ()) else some (Sum.inl (mput x137 x151 (w64 ((mget x137 x151) + 1))))))))):Option ((List (Int × Int)) ⊕ (Unit))) (fun y=>match y with | Sum.inl x150=>some (Step.next (x150,(w64 (x138 + 1)))) | Sum.inr _=>some (Step.done (Sum.inl x137))) else some (Step.done (Sum.inr x137)))
noncomputable abbrev rup_units_m8296_lp17 (a0:List (List Int)) (x210:List (Int × Int)) (q:LoopState) (p:Option Code):AObj:=.loop { state:=q,pending:=p,tmps:=tl 66 [V 0 (.fsl 1 (List.map c_L3 a0)),V 6 (pt 1 1),V 9 (pt 3 1),V 10 (iv (List.length x210:Int)),V 36 (.fn 37 [pt 4 1,pt 5 1])] none,params:=[37],assign:=rup_units_m8296_y19_a0,body:=rup_units_m8296_y19_b0 }
noncomputable def rup_units_m8296_l2 (x295:List (Int × Int)) (x351:(List Int)):(List Int × Int)→Option (Step (List Int × Int) (List Int)):=fun (x359,x360)=>(if (decide (x360 < (List.length x351:Int)))=true then Option.bind (Option.bind (ixl x351 x360) (fun x376=>Option.bind (rup_sheet_isTrue x295 (w64 (0 - x376))) (fun x377=>Option.bind (if (!x377)=true then Option.bind (slices_Contains_int_int x359 x376) (fun x380=>some (!x380)) else some false:Option (Bool)) (fun x379=>(if x379=true then Option.bind (app 8 x359 [x376]) (fun x381=>some x381) else some x359)))):Option (List Int)) (fun x375=>some (Step.next (x375,(w64 (x360 + 1))))) else some (Step.done x359))
noncomputable def rup_units_m8296_l3 (a0:List (List Int)):(List (Int × Int) × Int)→Option (Step (List (Int × Int) × Int) ((List (Int × Int)) ⊕ (List (Int × Int)))):=fun (x295,x296)=>(if (decide (x296 < (List.length a0:Int)))=true then Option.bind (Option.bind (ixl a0 x296) (fun x351=>Option.bind (slices_ContainsFunc_int_int_se3d8 x351 x295) (fun x352=>(if x352=true then some (Sum.inl x295) else Option.bind (loopC (rup_units_m8296_l2 x295 x351) ([],0)) (fun x369=>Option.bind ((if ((List.length x369:Int) == 0)=true then some (Sum.inl ()) else Option.bind (if ((List.length x369:Int) == 1)=true then Option.bind (ixl x369 0) (fun x390=>Option.bind (rup_sheet_isTrue x295 x390) (fun x391=>some (!x391))) else some false:Option (Bool)) (fun x389=>(if x389=true then Option.bind (ixl x369 0) (fun x392=>some (Sum.inr (mput x295 x392 (w64 ((mget x295 x392) + 1))))) else some (Sum.inr x295)))):Option ((Unit) ⊕ (List (Int × Int)))) (fun y=>match y with | Sum.inl _=>some (Sum.inr ()) | Sum.inr x386=>some (Sum.inl x386)))))):Option ((List (Int × Int)) ⊕ (Unit))) (fun y=>match y with | Sum.inl x350=>some (Step.next (x350,(w64 (x296 + 1)))) | Sum.inr _=>some (Step.done (Sum.inl x295))) else some (Step.done (Sum.inr x295)))
noncomputable def rup_units_m8296_l4 (a0:List (List Int)):(List (Int × Int))→Option (Step (List (Int × Int)) (List (Int × Int) × Bool)):=fun x210=>Option.bind (rup_sheet_open x210 a0) (fun _=>Option.bind (loopC (rup_units_m8296_l3 a0) (x210,0)) (fun y=>match y with | Sum.inl x324=>some (Step.done (x324,true)) | Sum.inr x325=>(if ((List.length x325:Int) == (List.length x210:Int))=true then some (Step.done (x325,false)) else some (Step.next x325))))
abbrev rup_units_m8296_T (a0:List (List Int)) (a1:List Int) (r:List (Int × Int) × Bool):CS:=⟨[V 4 (.mp 1),V 5 (bv r.2)],[(0,.rows 1 (List.map cI a1)),(1,.map (oM r.1))],2⟩
noncomputable def rup_units_m8296 (a0:List (List Int)) (a1:List Int):Option (List (Int × Int) × Bool):=Option.bind (loopC (rup_units_m8296_l1 a1) (([]:List (Int × Int)),0)) (fun y=>match y with | Sum.inl x145=>some (x145,true) | Sum.inr x146=>Option.bind (loopC (rup_units_m8296_l4 a0) x146) (fun (x268,x269)=>some (x268,x269)))
theorem rup_units_m8296_ok (a0:List (List Int)) (a1:List Int):CtM E0 16 [.fsl 1 (List.map c_L3 a0),.osl 0 0 (List.length a1) 1] [(0,.rows 1 (List.map cI a1))] 1 (rup_units_m8296 a0 a1) (fun r:List (Int × Int) × Bool=>.tup [.mp 1,bv r.2]) (fun r:List (Int × Int) × Bool=>[(0,.rows 1 (List.map cI a1)),(1,.map (oM r.1))]) 2:=ctm_intro (N:=66) (L:=rup_units_m8296_c) rup_units_m8296_k rfl (Nat.le_of_ble_eq_true rfl) (fun F hF=>by
 unfold rup_units_m8296
 refine jS ⟨[V 0 (.fsl 1 (List.map c_L3 a0)),V 1 (.osl 0 0 (List.length a1) 1)],[(0,.rows 1 (List.map cI a1))],1⟩ ?_
 refine jc_scope ?_
 refine jS ⟨[V 0 (.fsl 1 (List.map c_L3 a0)),V 1 (.osl 0 0 (List.length a1) 1),V 6 (pt 2 1)],[(0,.rows 1 (List.map cI a1)),(1,.map (oM ([]:List (Int × Int)))),W 2 1 [.mp 1]],3⟩ ?_
 refine jc_seq ?_
 refine jS ⟨[V 0 (.fsl 1 (List.map c_L3 a0)),V 6 (pt 2 1),V 13 (.osl 0 0 (List.length a1) 1),V 14 (iv (List.length a1:Int)),V 15 (iv 0)],[(0,.rows 1 (List.map cI a1)),(1,.map (oM ([]:List (Int × Int)))),W 2 1 [.mp 1]],3⟩ ?_
 refine jc_block ?_
 refine jc_bind (fun y=>match y with | Sum.inl x145=>⟨[V 4 (.mp 1),V 5 (bv true)],[(0,.rows 1 (List.map cI a1)),(1,.map (oM x145))],2⟩ | Sum.inr x146=>⟨[V 0 (.fsl 1 (List.map c_L3 a0)),V 6 (pt 1 1)],[(0,.rows 1 (List.map cI a1)),W 1 1 [.mp 2],(2,.map (oM x146))],3⟩) (fun y=>match y with | Sum.inl x145=>.ret | Sum.inr x146=>(.exit 0)) (jc_loop (fun (x137,x138)=>⟨[V 0 (.fsl 1 (List.map c_L3 a0)),V 6 (pt 1 1),V 13 (.osl 0 0 (List.length a1) 1),V 14 (iv (List.length a1:Int)),V 15 (iv x138)],[(0,.rows 1 (List.map cI a1)),W 1 1 [.mp 2],(2,.map (oM x137))],3⟩) (wkR [(0,some 0),(1,some 2),(2,some 1)] (fix_of hF (k:=1) rfl) (pc (hL 0 (noid_map ni_I _)) (pc (hC 2) (pc (hM 1) allp_nil)))) ?_) ?_
 ·rintro⟨x137,x138⟩
  unfold rup_units_m8296_l1
  refine jS ⟨[V 0 (.fsl 1 (List.map c_L3 a0)),V 6 (pt 1 1),V 13 (.osl 0 0 (List.length a1) 1),V 14 (iv (List.length a1:Int)),V 15 (iv x138),V 16 (bv (decide (x138 < (List.length a1:Int))))],[(0,.rows 1 (List.map cI a1)),W 1 1 [.mp 2],(2,.map (oM x137))],3⟩ ?_
  refine jc_seq ?_
  refine jIf ?_ ?_
  ·refine jc_skip ?_
   refine jx_seqN ?_
   refine jc_seq ?_
   refine jc_bind (fun y=>match y with | Sum.inl x150=>⟨[V 0 (.fsl 1 (List.map c_L3 a0)),V 6 (pt 1 1),V 13 (.osl 0 0 (List.length a1) 1),V 14 (iv (List.length a1:Int)),V 15 (iv x138)],[(0,.rows 1 (List.map cI a1)),W 1 1 [.mp 2],(2,.map (oM x150))],3⟩ | Sum.inr _=>⟨[V 4 (.mp 1),V 5 (bv true)],[(0,.rows 1 (List.map cI a1)),(1,.map (oM x137))],2⟩) (fun y=>match y with | Sum.inl x150=>.normal | Sum.inr _=>.ret) ?_ ?_
   ·refine jc_block ?_
    refine jR ?_
    refine jr_part (i:=0) (mo:=ixl a1 x138) rfl rfl rfl rfl (fun _ hc=>aop_ixo0 (sz:=1) (e:=3) (kk:=.i64) (id:=0) (by kernel_rfl) (by kernel_rfl) (by kernel_rfl) (by kernel_rfl) hc) (fun _=>rfl) ?_
    intro x151 h151
    refine jr_one (i:=1) (v:=iv x151) rfl rfl rfl rfl (aop_ldo (l:=a1) (c:=cI) (id:=0) (k:=(Int.toNat x138)) (sz:=1) (off:=0) (a:=x151) (by kernel_rfl) (by kernel_rfl) (ixl_lt h151).2.2 (by kernel_rfl)) rfl ?_
    refine jG 2 1 ⟨[V 0 (.fsl 1 (List.map c_L3 a0)),V 6 (pt 1 1),V 8 (iv x151),V 13 (.osl 0 0 (List.length a1) 1),V 14 (iv (List.length a1:Int)),V 15 (iv x138)],[(0,.rows 1 (List.map cI a1)),W 1 1 [.mp 2],(2,.map (oM x137))],3⟩ ?_
    refine jN ?_
    refine jc_seq ?_
    refine jR ?_
    refine jG 0 1 ⟨[V 0 (.fsl 1 (List.map c_L3 a0)),V 6 (pt 1 1),V 8 (iv x151),V 13 (.osl 0 0 (List.length a1) 1),V 14 (iv (List.length a1:Int)),V 15 (iv x138),V 19 (iv x151)],[(0,.rows 1 (List.map cI a1)),W 1 1 [.mp 2],(2,.map (oM x137))],3⟩ ?_
    refine jK 1 (rup_literal_ok x151) ?_
    intro x152 h152
    refine jG 2 1 ⟨[V 0 (.fsl 1 (List.map c_L3 a0)),V 6 (pt 1 1),V 8 (iv x151),V 13 (.osl 0 0 (List.length a1) 1),V 14 (iv (List.length a1:Int)),V 15 (iv x138),V 21 (bv (!x152))],[(0,.rows 1 (List.map cI a1)),W 1 1 [.mp 2],(2,.map (oM x137))],3⟩ ?_
    refine jN ?_
    refine jIf ?_ ?_
    ·refine jc_exit ?_
     refine jx_seqE ?_
     refine jx_blkE ?_
     exact jx_mid rfl (wkR [(0,some 0),(1,some 1),(2,some 2)] (fix_of hF (k:=1) rfl) (pc (hL 0 (noid_map ni_I _)) (pc (hC 1) (pc (hM 2) allp_nil))))
    refine jc_skip ?_
    refine jx_seqN ?_
    refine jc_seq ?_
    refine jR ?_
    refine jG 0 3 ⟨[V 0 (.fsl 1 (List.map c_L3 a0)),V 6 (pt 1 1),V 8 (iv x151),V 13 (.osl 0 0 (List.length a1) 1),V 14 (iv (List.length a1:Int)),V 15 (iv x138),V 22 (.mp 2),V 24 (iv (w64 (0 - x151)))],[(0,.rows 1 (List.map cI a1)),W 1 1 [.mp 2],(2,.map (oM x137))],3⟩ ?_
    refine jr_callF (i:=3) rfl rfl rfl rfl (vs:=[.mp 2,iv (w64 (0 - x151))]) (by kernel_rfl) (snapL_cons (snapc_mp (by kernel_rfl)) (snapL_cons rfl (snapL_nil _))) (all2_cons (fle_refl _) (all2_cons (fle_refl _) all2_nil)) (rup_sheet_isTrue_ok x137 (w64 (0 - x151))) (fun _=>rfl) (fun _=>rfl) ?_
    intro x153 h153
    refine jN ?_
    refine jIf ?_ ?_
    ·refine jS ⟨[V 4 (.mp 2),V 5 (bv true)],[(0,.rows 1 (List.map cI a1)),(2,.map (oM x137))],3⟩ ?_
     refine jc_ret ?_
     refine jx_seqR ?_
     refine jx_blkR ?_
     exact jx_mid rfl (wkR [(0,some 0),(1,some 2)] (fix_of hF (k:=1) rfl) (pc (hL 0 (noid_map ni_I _)) (pc (hM 2) allp_nil)))
    refine jc_skip ?_
    refine jx_seqN ?_
    refine jc_reg ?_
    refine jG 0 2 ⟨[V 0 (.fsl 1 (List.map c_L3 a0)),V 6 (pt 1 1),V 13 (.osl 0 0 (List.length a1) 1),V 14 (iv (List.length a1:Int)),V 15 (iv x138),V 27 (.mp 2),V 28 (iv x151)],[(0,.rows 1 (List.map cI a1)),W 1 1 [.mp 2],(2,.map (oM x137))],3⟩ ?_
    refine jr_one (i:=2) (v:=iv (mget x137 x151)) (us:=[]) rfl rfl rfl rfl (aop_look (l:=x137) (id:=2) (kk:=x151) (kt:=3) (et:=3) (by kernel_rfl) (by kernel_rfl) (by kernel_rfl) (by kernel_rfl) (by kernel_rfl) (by kernel_rfl)) rfl ?_
    refine jG 3 1 ⟨[V 0 (.fsl 1 (List.map c_L3 a0)),V 6 (pt 1 1),V 13 (.osl 0 0 (List.length a1) 1),V 14 (iv (List.length a1:Int)),V 15 (iv x138),V 27 (.mp 2),V 28 (iv x151),V 30 (iv (w64 ((mget x137 x151) + 1)))],[(0,.rows 1 (List.map cI a1)),W 1 1 [.mp 2],(2,.map (oM x137))],3⟩ ?_
    refine jr_sto (i:=4) [0,6,13,14,15] [0,1,2] (st1:=⟨[V 0 (.fsl 1 (List.map c_L3 a0)),V 6 (pt 1 1),V 13 (.osl 0 0 (List.length a1) 1),V 14 (iv (List.length a1:Int)),V 15 (iv x138)],[(0,.rows 1 (List.map cI a1)),W 1 1 [.mp 2],(2,.map (oM (mput x137 x151 (w64 ((mget x137 x151) + 1)))))],3⟩) rfl rfl rfl rfl (aop_mput (l:=x137) (id:=2) (kk:=x151) (v:=(w64 ((mget x137 x151) + 1))) (kt:=3) (et:=3) (by kernel_rfl) (by kernel_rfl) (by kernel_rfl) (by kernel_rfl) (by kernel_rfl) (by kernel_rfl)) (by kernel_rfl) ?_
    refine jr_nil rfl ?_
    refine jx_blkN ?_
    exact jx_mid rfl (wkR [(0,some 0),(1,some 1),(2,some 2)] (fix_of hF (k:=1) rfl) (pc (hL 0 (noid_map ni_I _)) (pc (hC 1) (pc (hM 2) allp_nil))))
   rintro (x150 | _)
   ·refine jx_seqN ?_
    refine jT ⟨[V 0 (.fsl 1 (List.map c_L3 a0)),V 6 (pt 1 1),V 13 (.osl 0 0 (List.length a1) 1),V 14 (iv (List.length a1:Int)),V 15 (iv (w64 (x138 + 1)))],[(0,.rows 1 (List.map cI a1)),W 1 1 [.mp 2],(2,.map (oM x150))],3⟩ ?_
    exact jx_next (wkR [(0,some 0),(1,some 1),(2,some 2)] (fix_of hF (k:=1) rfl) (pc (hL 0 (noid_map ni_I _)) (pc (hC 1) (pc (hM 2) allp_nil))))
   refine jx_seqR ?_
   exact jx_done rfl nofun (wkR [(0,some 0),(1,some 1)] (fix_of hF (k:=1) rfl) (pc (hL 0 (noid_map ni_I _)) (pc (hM 1) allp_nil)))
  refine jc_exit ?_
  refine jx_seqE ?_
  exact jx_done rfl nofun (wkR [(0,some 0),(1,some 1),(2,some 2)] (fix_of hF (k:=1) rfl) (pc (hL 0 (noid_map ni_I _)) (pc (hC 1) (pc (hM 2) allp_nil))))
 rintro (x145 | x146)
 ·refine jx_blkR ?_
  refine jx_seqR ?_
  refine jx_scopeR ?_
  exact jx_retM (rup_units_m8296_T a0 a1 (x145,true)) (.inr rfl) (wkR [(0,some 0),(1,some 1)] (fix_of hF (k:=1) rfl) (pc (hL 0 (noid_map ni_I _)) (pc (hM 1) allp_nil)))
 refine jx_blkE ?_
 refine jx_seqN ?_
 refine jS ⟨[V 0 (.fsl 1 (List.map c_L3 a0)),V 6 (pt 1 1),V 9 (pt 3 1)],[(0,.rows 1 (List.map cI a1)),W 1 1 [.mp 2],(2,.map (oM x146)),W 3 1 [bv false]],4⟩ ?_
 refine jc_seq ?_
 refine jc_label ?_
 refine jx_seqN ?_
 refine jc_seq ?_
 refine jc_block ?_
 refine jc_bind (fun (x268,x269)=>⟨[V 6 (pt 1 1),V 9 (pt 3 1)],[(0,.rows 1 (List.map cI a1)),W 1 1 [.mp 2],(2,.map (oM x268)),W 3 1 [bv x269]],4⟩) (fun (x268,x269)=>(.exit 2)) (jc_loop (fun x210=>⟨[V 0 (.fsl 1 (List.map c_L3 a0)),V 6 (pt 1 1),V 9 (pt 3 1)],[(0,.rows 1 (List.map cI a1)),W 1 1 [.mp 2],(2,.map (oM x210)),W 3 1 [bv false]],4⟩) (wkR [(0,some 0),(1,some 1),(2,some 2),(3,some 3)] (fix_of hF (k:=1) rfl) (pc (hL 0 (noid_map ni_I _)) (pc (hC 1) (pc (hM 2) (pc (hC 3) allp_nil))))) ?_) ?_
 ·intro x210
  unfold rup_units_m8296_l4
  refine jc_block ?_
  refine jR ?_
  refine jG 0 1 ⟨[V 0 (.fsl 1 (List.map c_L3 a0)),V 6 (pt 1 1),V 9 (pt 3 1),V 32 (.mp 2)],[(0,.rows 1 (List.map cI a1)),W 1 1 [.mp 2],(2,.map (oM x210)),W 3 1 [bv false]],4⟩ ?_
  refine jr_one (i:=1) (v:=iv (List.length x210:Int)) (us:=[]) rfl rfl rfl rfl (aop_lenm (l:=x210) (id:=2) (kt:=3) (et:=3) (by kernel_rfl) (by kernel_rfl) (by kernel_rfl) (by kernel_rfl)) rfl ?_
  refine jG 2 1 ⟨[V 0 (.fsl 1 (List.map c_L3 a0)),V 6 (pt 1 1),V 9 (pt 3 1),V 10 (iv (List.length x210:Int))],[(0,.rows 1 (List.map cI a1)),W 1 1 [.mp 2],(2,.map (oM x210)),W 3 1 [bv false]],4⟩ ?_
  refine jN ?_
  refine jc_seq ?_
  refine jR ?_
  refine jG 0 2 ⟨[V 0 (.fsl 1 (List.map c_L3 a0)),V 6 (pt 1 1),V 9 (pt 3 1),V 10 (iv (List.length x210:Int)),V 34 (.mp 2),V 35 (.fsl 1 (List.map c_L3 a0))],[(0,.rows 1 (List.map cI a1)),W 1 1 [.mp 2],(2,.map (oM x210)),W 3 1 [bv false]],4⟩ ?_
  refine jr_callM 2 [(0,some 2)] [(2,some 0),(4,some 1),(5,some 2)] (fun r:Unit=>[(0,.rows 1 (List.map cI a1)),W 1 1 [.mp 2],(2,.map (oM x210)),W 3 1 [bv false],W 4 1 [.fsl 1 (List.map c_L3 a0)],W 5 1 [.mp 2]]) (fun r:Unit=>.fn 37 [pt 4 1,pt 5 1]) 6 (rup_sheet_open_ok x210 a0) (pc (hM 2) allp_nil) (fun r=>(pc (.inl ⟨rfl,rfl⟩) (pc (.inl ⟨rfl,rfl⟩) (pc (.inr (hM 0)) (pc (.inl ⟨rfl,rfl⟩) (pc (.inr (hC 1)) (pc (.inr (hC 2)) allp_nil))))))) ?_
  rintro⟨⟩ hm22
  refine jN ?_
  refine jc_block ?_
  refine jc_keep [0,6,9,10,36] [0,1,2,3,4,5] (st1:=⟨[V 0 (.fsl 1 (List.map c_L3 a0)),V 6 (pt 1 1),V 9 (pt 3 1),V 10 (iv (List.length x210:Int)),V 36 (.fn 37 [pt 4 1,pt 5 1])],[(0,.rows 1 (List.map cI a1)),W 1 1 [.mp 2],(2,.map (oM x210)),W 3 1 [bv false],W 4 1 [.fsl 1 (List.map c_L3 a0)],W 5 1 [.mp 2]],6⟩) (by kernel_rfl) ?_
  refine jc_rng (g:=37) (caps:=[pt 4 1,pt 5 1]) (by kernel_rfl) rup_sheet_open_1_it_k (Nat.le_of_ble_eq_true rfl) ?_
  intro F17 hc17
  refine jR ?_
  refine jG 0 3 ⟨[V 0 (.yld 6),V 2 (pt 5 1),V 9 (.fsl 1 (List.map c_L3 a0)),V 10 (iv (List.length (List.map c_L3 a0):Int)),V 11 (iv 0)],[(0,.rows 1 (List.map cI a1)),W 1 1 [.mp 2],(2,.map (oM x210)),W 3 1 [bv false],W 4 1 [.fsl 1 (List.map c_L3 a0)],W 5 1 [.mp 2],(6,rup_units_m8296_lp17 a0 x210 .ready none)],7⟩ ?_
  simp only[List.length_map]
  refine jN ?_
  refine jc_block ?_
  refine jc_bind (fun y=>match y with | Sum.inl x324=>⟨[],[(0,.rows 1 (List.map cI a1)),W 1 1 [.mp 2],(2,.map (oM x324)),W 3 1 [bv true],W 4 1 [.fsl 1 (List.map c_L3 a0)],W 5 1 [.mp 2],(6,rup_units_m8296_lp17 a0 x210 .done (some (.exit 2)))],7⟩ | Sum.inr x325=>⟨[],[(0,.rows 1 (List.map cI a1)),W 1 1 [.mp 2],(2,.map (oM x325)),W 3 1 [bv false],W 4 1 [.fsl 1 (List.map c_L3 a0)],W 5 1 [.mp 2],(6,rup_units_m8296_lp17 a0 x210 .ready none)],7⟩) (fun y=>match y with | Sum.inl x324=>.ret | Sum.inr x325=>(.exit 0)) (jc_loop (fun (x295,x296)=>⟨[V 0 (.yld 6),V 2 (pt 5 1),V 9 (.fsl 1 (List.map c_L3 a0)),V 10 (iv (List.length a0:Int)),V 11 (iv x296)],[(0,.rows 1 (List.map cI a1)),W 1 1 [.mp 2],(2,.map (oM x295)),W 3 1 [bv false],W 4 1 [.fsl 1 (List.map c_L3 a0)],W 5 1 [.mp 2],(6,rup_units_m8296_lp17 a0 x210 .ready none)],7⟩) (wkR [(0,some 0),(1,some 1),(2,some 2),(3,some 3),(4,some 4),(5,some 5),(6,some 6)] (fix_of hc17.2.2 (k:=7) rfl) (pc (hL 0 (noid_map ni_I _)) (pc (hC 1) (pc (hM 2) (pc (hC 3) (pc (hC 4) (pc (hC 5) (pc (.inr (.inr (.inl ⟨6,_,_,rfl,rfl,rfl,by kernel_rfl⟩))) allp_nil)))))))) ?_) ?_
  ·rintro⟨x295,x296⟩
   unfold rup_units_m8296_l3
   refine jS ⟨[V 0 (.yld 6),V 2 (pt 5 1),V 9 (.fsl 1 (List.map c_L3 a0)),V 10 (iv (List.length a0:Int)),V 11 (iv x296),V 12 (bv (decide (x296 < (List.length a0:Int))))],[(0,.rows 1 (List.map cI a1)),W 1 1 [.mp 2],(2,.map (oM x295)),W 3 1 [bv false],W 4 1 [.fsl 1 (List.map c_L3 a0)],W 5 1 [.mp 2],(6,rup_units_m8296_lp17 a0 x210 .ready none)],7⟩ ?_
   refine jc_seq ?_
   refine jIf ?_ ?_
   ·refine jc_skip ?_
    refine jx_seqN ?_
    refine jc_seq ?_
    refine jc_bind (fun y=>match y with | Sum.inl x350=>⟨[V 0 (.yld 6),V 2 (pt 5 1),V 9 (.fsl 1 (List.map c_L3 a0)),V 10 (iv (List.length a0:Int)),V 11 (iv x296)],[(0,.rows 1 (List.map cI a1)),W 1 1 [.mp 2],(2,.map (oM x350)),W 3 1 [bv false],W 4 1 [.fsl 1 (List.map c_L3 a0)],W 5 1 [.mp 2],(6,rup_units_m8296_lp17 a0 x210 .ready none)],7⟩ | Sum.inr _=>⟨[],[(0,.rows 1 (List.map cI a1)),W 1 1 [.mp 2],(2,.map (oM x295)),W 3 1 [bv true],W 4 1 [.fsl 1 (List.map c_L3 a0)],W 5 1 [.mp 2],(6,rup_units_m8296_lp17 a0 x210 .done (some (.exit 2)))],7⟩) (fun y=>match y with | Sum.inl x350=>.normal | Sum.inr _=>.ret) ?_ ?_
    ·refine jc_block ?_
     refine jR ?_
     refine jr_part (i:=0) (mo:=ixl a0 x296) rfl rfl rfl rfl (fun _ hc=>aop_ixf (c:=c_L3) (sz:=1) (e:=23) (kk:=.i64) (by kernel_rfl) (by kernel_rfl) (by kernel_rfl) (by kernel_rfl) hc) (fun _=>rfl) ?_
     intro x351 h351
     refine jG 1 2 ⟨[V 0 (.yld 6),V 2 (pt 5 1),V 5 (.fsl 1 (List.map cI x351)),V 9 (.fsl 1 (List.map c_L3 a0)),V 10 (iv (List.length a0:Int)),V 11 (iv x296)],[(0,.rows 1 (List.map cI a1)),W 1 1 [.mp 2],(2,.map (oM x295)),W 3 1 [bv false],W 4 1 [.fsl 1 (List.map c_L3 a0)],W 5 1 [.mp 2],(6,rup_units_m8296_lp17 a0 x210 .ready none)],7⟩ ?_
     refine jN ?_
     refine jc_seq ?_
     refine jR ?_
     refine jG 0 2 ⟨[V 0 (.yld 6),V 2 (pt 5 1),V 5 (.fsl 1 (List.map cI x351)),V 9 (.fsl 1 (List.map c_L3 a0)),V 10 (iv (List.length a0:Int)),V 11 (iv x296),V 15 (.fsl 1 (List.map cI x351)),V 16 (.fn 39 [pt 5 1])],[(0,.rows 1 (List.map cI a1)),W 1 1 [.mp 2],(2,.map (oM x295)),W 3 1 [bv false],W 4 1 [.fsl 1 (List.map c_L3 a0)],W 5 1 [.mp 2],(6,rup_units_m8296_lp17 a0 x210 .ready none)],7⟩ ?_
     refine jr_callF (i:=2) rfl rfl rfl rfl (vs:=[.fsl 1 (List.map cI x351),.fn 39 [pt 5 1]]) (by kernel_rfl) (snapL_cons rfl (snapL_cons (snapc_fn (snapL_cons (snapc_ptr (row:=[.mp 2]) (by kernel_rfl) (snapL_cons (snapc_mp (by kernel_rfl)) (snapL_nil _))) (snapL_nil _))) (snapL_nil _))) (all2_cons (fle_refl _) (all2_cons (fle_refl _) all2_nil)) (slices_ContainsFunc_int_int_se3d8_ok x351 x295) (fun _=>rfl) (fun _=>rfl) ?_
     intro x352 h352
     refine jN ?_
     refine jIf ?_ ?_
     ·refine jc_exit ?_
      refine jx_seqE ?_
      refine jx_blkE ?_
      exact jx_mid rfl (wkR [(0,some 0),(1,some 1),(2,some 2),(3,some 3),(4,some 4),(5,some 5),(6,some 6)] (fix_of hc17.2.2 (k:=7) rfl) (pc (hL 0 (noid_map ni_I _)) (pc (hC 1) (pc (hM 2) (pc (hC 3) (pc (hC 4) (pc (hC 5) (pc (.inr (.inr (.inl ⟨6,_,_,rfl,rfl,rfl,by kernel_rfl⟩))) allp_nil))))))))
     refine jc_skip ?_
     refine jx_seqN ?_
     refine jS ⟨[V 0 (.yld 6),V 2 (pt 5 1),V 5 (.fsl 1 (List.map cI x351)),V 6 (nilS),V 9 (.fsl 1 (List.map c_L3 a0)),V 10 (iv (List.length a0:Int)),V 11 (iv x296)],[(0,.rows 1 (List.map cI a1)),W 1 1 [.mp 2],(2,.map (oM x295)),W 3 1 [bv false],W 4 1 [.fsl 1 (List.map c_L3 a0)],W 5 1 [.mp 2],(6,rup_units_m8296_lp17 a0 x210 .ready none)],7⟩ ?_
     refine jc_seq ?_
     refine jR ?_
     refine jG 0 3 ⟨[V 0 (.yld 6),V 2 (pt 5 1),V 6 (nilS),V 9 (.fsl 1 (List.map c_L3 a0)),V 10 (iv (List.length a0:Int)),V 11 (iv x296),V 18 (.fsl 1 (List.map cI x351)),V 19 (iv (List.length (List.map cI x351):Int)),V 20 (iv 0)],[(0,.rows 1 (List.map cI a1)),W 1 1 [.mp 2],(2,.map (oM x295)),W 3 1 [bv false],W 4 1 [.fsl 1 (List.map c_L3 a0)],W 5 1 [.mp 2],(6,rup_units_m8296_lp17 a0 x210 .ready none)],7⟩ ?_
     simp only[List.length_map]
     refine jN ?_
     refine jc_block ?_
     refine jc_bind (fun x369=>⟨[V 0 (.yld 6),V 2 (pt 5 1),V 6 (.osl 7 0 (List.length x369) 1),V 9 (.fsl 1 (List.map c_L3 a0)),V 10 (iv (List.length a0:Int)),V 11 (iv x296)],[(0,.rows 1 (List.map cI a1)),W 1 1 [.mp 2],(2,.map (oM x295)),W 3 1 [bv false],W 4 1 [.fsl 1 (List.map c_L3 a0)],W 5 1 [.mp 2],(6,rup_units_m8296_lp17 a0 x210 .ready none),(7,.rows 1 (List.map cI x369))],8⟩) (fun x369=>(.exit 2)) (jc_loop (fun (x359,x360)=>⟨[V 0 (.yld 6),V 2 (pt 5 1),V 6 (.osl 7 0 (List.length x359) 1),V 9 (.fsl 1 (List.map c_L3 a0)),V 10 (iv (List.length a0:Int)),V 11 (iv x296),V 18 (.fsl 1 (List.map cI x351)),V 19 (iv (List.length x351:Int)),V 20 (iv x360)],[(0,.rows 1 (List.map cI a1)),W 1 1 [.mp 2],(2,.map (oM x295)),W 3 1 [bv false],W 4 1 [.fsl 1 (List.map c_L3 a0)],W 5 1 [.mp 2],(6,rup_units_m8296_lp17 a0 x210 .ready none),(7,.rows 1 (List.map cI x359))],8⟩) (wkR [(0,some 0),(1,some 1),(2,some 2),(3,some 3),(4,some 4),(5,some 5),(6,some 6),(7,none)] (fix_of hc17.2.2 (k:=7) rfl) (pc (hL 0 (noid_map ni_I _)) (pc (hC 1) (pc (hM 2) (pc (hC 3) (pc (hC 4) (pc (hC 5) (pc (.inr (.inr (.inl ⟨6,_,_,rfl,rfl,rfl,by kernel_rfl⟩))) (pc hZ allp_nil))))))))) ?_) ?_
     ·rintro⟨x359,x360⟩
      unfold rup_units_m8296_l2
      refine jS ⟨[V 0 (.yld 6),V 2 (pt 5 1),V 6 (.osl 7 0 (List.length x359) 1),V 9 (.fsl 1 (List.map c_L3 a0)),V 10 (iv (List.length a0:Int)),V 11 (iv x296),V 18 (.fsl 1 (List.map cI x351)),V 19 (iv (List.length x351:Int)),V 20 (iv x360),V 21 (bv (decide (x360 < (List.length x351:Int))))],[(0,.rows 1 (List.map cI a1)),W 1 1 [.mp 2],(2,.map (oM x295)),W 3 1 [bv false],W 4 1 [.fsl 1 (List.map c_L3 a0)],W 5 1 [.mp 2],(6,rup_units_m8296_lp17 a0 x210 .ready none),(7,.rows 1 (List.map cI x359))],8⟩ ?_
      refine jc_seq ?_
      refine jIf ?_ ?_
      ·refine jc_skip ?_
       refine jx_seqN ?_
       refine jc_seq ?_
       refine jc_bind (fun x375=>⟨[V 0 (.yld 6),V 2 (pt 5 1),V 6 (.osl 7 0 (List.length x375) 1),V 9 (.fsl 1 (List.map c_L3 a0)),V 10 (iv (List.length a0:Int)),V 11 (iv x296),V 18 (.fsl 1 (List.map cI x351)),V 19 (iv (List.length x351:Int)),V 20 (iv x360)],[(0,.rows 1 (List.map cI a1)),W 1 1 [.mp 2],(2,.map (oM x295)),W 3 1 [bv false],W 4 1 [.fsl 1 (List.map c_L3 a0)],W 5 1 [.mp 2],(6,rup_units_m8296_lp17 a0 x210 .ready none),(7,.rows 1 (List.map cI x375))],8⟩) (fun x375=>.normal) ?_ ?_
       ·refine jc_block ?_
        refine jR ?_
        refine jr_part (i:=0) (mo:=ixl x351 x360) rfl rfl rfl rfl (fun _ hc=>aop_ixf (c:=cI) (sz:=1) (e:=3) (kk:=.i64) (by kernel_rfl) (by kernel_rfl) (by kernel_rfl) (by kernel_rfl) hc) (fun _=>rfl) ?_
        intro x376 h376
        refine jG 1 2 ⟨[V 0 (.yld 6),V 2 (pt 5 1),V 6 (.osl 7 0 (List.length x359) 1),V 8 (iv x376),V 9 (.fsl 1 (List.map c_L3 a0)),V 10 (iv (List.length a0:Int)),V 11 (iv x296),V 18 (.fsl 1 (List.map cI x351)),V 19 (iv (List.length x351:Int)),V 20 (iv x360)],[(0,.rows 1 (List.map cI a1)),W 1 1 [.mp 2],(2,.map (oM x295)),W 3 1 [bv false],W 4 1 [.fsl 1 (List.map c_L3 a0)],W 5 1 [.mp 2],(6,rup_units_m8296_lp17 a0 x210 .ready none),(7,.rows 1 (List.map cI x359))],8⟩ ?_
        refine jN ?_
        refine jR ?_
        refine jG 0 3 ⟨[V 0 (.yld 6),V 2 (pt 5 1),V 6 (.osl 7 0 (List.length x359) 1),V 8 (iv x376),V 9 (.fsl 1 (List.map c_L3 a0)),V 10 (iv (List.length a0:Int)),V 11 (iv x296),V 18 (.fsl 1 (List.map cI x351)),V 19 (iv (List.length x351:Int)),V 20 (iv x360),V 24 (.mp 2),V 26 (iv (w64 (0 - x376)))],[(0,.rows 1 (List.map cI a1)),W 1 1 [.mp 2],(2,.map (oM x295)),W 3 1 [bv false],W 4 1 [.fsl 1 (List.map c_L3 a0)],W 5 1 [.mp 2],(6,rup_units_m8296_lp17 a0 x210 .ready none),(7,.rows 1 (List.map cI x359))],8⟩ ?_
        refine jr_callF (i:=3) rfl rfl rfl rfl (vs:=[.mp 2,iv (w64 (0 - x376))]) (by kernel_rfl) (snapL_cons (snapc_mp (by kernel_rfl)) (snapL_cons rfl (snapL_nil _))) (all2_cons (fle_refl _) (all2_cons (fle_refl _) all2_nil)) (rup_sheet_isTrue_ok x295 (w64 (0 - x376))) (fun _=>rfl) (fun _=>rfl) ?_
        intro x377 h377
        refine jG 4 2 ⟨[V 0 (.yld 6),V 2 (pt 5 1),V 6 (.osl 7 0 (List.length x359) 1),V 8 (iv x376),V 9 (.fsl 1 (List.map c_L3 a0)),V 10 (iv (List.length a0:Int)),V 11 (iv x296),V 18 (.fsl 1 (List.map cI x351)),V 19 (iv (List.length x351:Int)),V 20 (iv x360),V 29 (bv (!x377))],[(0,.rows 1 (List.map cI a1)),W 1 1 [.mp 2],(2,.map (oM x295)),W 3 1 [bv false],W 4 1 [.fsl 1 (List.map c_L3 a0)],W 5 1 [.mp 2],(6,rup_units_m8296_lp17 a0 x210 .ready none),(7,.rows 1 (List.map cI x359))],8⟩ ?_
        refine jr_bind 6 5 (fun x379=>⟨[V 0 (.yld 6),V 2 (pt 5 1),V 6 (.osl 7 0 (List.length x359) 1),V 8 (iv x376),V 9 (.fsl 1 (List.map c_L3 a0)),V 10 (iv (List.length a0:Int)),V 11 (iv x296),V 18 (.fsl 1 (List.map cI x351)),V 19 (iv (List.length x351:Int)),V 20 (iv x360),V 34 (bv x379)],[(0,.rows 1 (List.map cI a1)),W 1 1 [.mp 2],(2,.map (oM x295)),W 3 1 [bv false],W 4 1 [.fsl 1 (List.map c_L3 a0)],W 5 1 [.mp 2],(6,rup_units_m8296_lp17 a0 x210 .ready none),(7,.rows 1 (List.map cI x359))],8⟩) ?_ ?_
        ·refine jSp 29 ?_ ?_
         ·refine jG 0 2 ⟨[V 0 (.yld 6),V 2 (pt 5 1),V 6 (.osl 7 0 (List.length x359) 1),V 8 (iv x376),V 9 (.fsl 1 (List.map c_L3 a0)),V 10 (iv (List.length a0:Int)),V 11 (iv x296),V 18 (.fsl 1 (List.map cI x351)),V 19 (iv (List.length x351:Int)),V 20 (iv x360),(29,.lit true),V 30 (.osl 7 0 (List.length x359) 1),V 31 (iv x376)],[(0,.rows 1 (List.map cI a1)),W 1 1 [.mp 2],(2,.map (oM x295)),W 3 1 [bv false],W 4 1 [.fsl 1 (List.map c_L3 a0)],W 5 1 [.mp 2],(6,rup_units_m8296_lp17 a0 x210 .ready none),(7,.rows 1 (List.map cI x359))],8⟩ ?_
          refine jr_callF (i:=2) rfl rfl rfl rfl (vs:=[.osl 7 0 (List.length x359) 1,iv x376]) (by kernel_rfl) (snapL_cons (snapc_own fz_I (by kernel_rfl)) (snapL_cons rfl (snapL_nil _))) (all2_cons (fle_refl _) (all2_cons (fle_refl _) all2_nil)) (slices_Contains_int_int_ok x359 x376) (fun _=>rfl) (fun _=>rfl) ?_
          intro x380 h380
          refine jG 3 2 ⟨[V 0 (.yld 6),V 2 (pt 5 1),V 6 (.osl 7 0 (List.length x359) 1),V 8 (iv x376),V 9 (.fsl 1 (List.map c_L3 a0)),V 10 (iv (List.length a0:Int)),V 11 (iv x296),V 18 (.fsl 1 (List.map cI x351)),V 19 (iv (List.length x351:Int)),V 20 (iv x360),V 34 (bv (!x380))],[(0,.rows 1 (List.map cI a1)),W 1 1 [.mp 2],(2,.map (oM x295)),W 3 1 [bv false],W 4 1 [.fsl 1 (List.map c_L3 a0)],W 5 1 [.mp 2],(6,rup_units_m8296_lp17 a0 x210 .ready none),(7,.rows 1 (List.map cI x359))],8⟩ ?_
          refine jr_nil rfl ?_
          exact jx_mid rfl (wkR [(0,some 0),(1,some 1),(2,some 2),(3,some 3),(4,some 4),(5,some 5),(6,some 6),(7,some 7)] (fix_of hc17.2.2 (k:=7) rfl) (pc (hL 0 (noid_map ni_I _)) (pc (hC 1) (pc (hM 2) (pc (hC 3) (pc (hC 4) (pc (hC 5) (pc (.inr (.inr (.inl ⟨6,_,_,rfl,rfl,rfl,by kernel_rfl⟩))) (pc (hL 7 (noid_map ni_I _)) allp_nil)))))))))
         refine jG 0 5 ⟨[V 0 (.yld 6),V 2 (pt 5 1),V 6 (.osl 7 0 (List.length x359) 1),V 8 (iv x376),V 9 (.fsl 1 (List.map c_L3 a0)),V 10 (iv (List.length a0:Int)),V 11 (iv x296),V 18 (.fsl 1 (List.map cI x351)),V 19 (iv (List.length x351:Int)),V 20 (iv x360),V 34 (bv false)],[(0,.rows 1 (List.map cI a1)),W 1 1 [.mp 2],(2,.map (oM x295)),W 3 1 [bv false],W 4 1 [.fsl 1 (List.map c_L3 a0)],W 5 1 [.mp 2],(6,rup_units_m8296_lp17 a0 x210 .ready none),(7,.rows 1 (List.map cI x359))],8⟩ ?_
         refine jr_nil rfl ?_
         exact jx_mid rfl (wkR [(0,some 0),(1,some 1),(2,some 2),(3,some 3),(4,some 4),(5,some 5),(6,some 6),(7,some 7)] (fix_of hc17.2.2 (k:=7) rfl) (pc (hL 0 (noid_map ni_I _)) (pc (hC 1) (pc (hM 2) (pc (hC 3) (pc (hC 4) (pc (hC 5) (pc (.inr (.inr (.inl ⟨6,_,_,rfl,rfl,rfl,by kernel_rfl⟩))) (pc (hL 7 (noid_map ni_I _)) allp_nil)))))))))
        intro x379
        refine jN ?_
        refine jIf ?_ ?_
        ·refine jc_reg ?_
         refine jG 0 3 ⟨[V 0 (.yld 6),V 2 (pt 5 1),V 9 (.fsl 1 (List.map c_L3 a0)),V 10 (iv (List.length a0:Int)),V 11 (iv x296),V 18 (.fsl 1 (List.map cI x351)),V 19 (iv (List.length x351:Int)),V 20 (iv x360),V 35 (.osl 7 0 (List.length x359) 1),V 37 (.osl 8 0 (List.length [x376]) 1)],[(0,.rows 1 (List.map cI a1)),W 1 1 [.mp 2],(2,.map (oM x295)),W 3 1 [bv false],W 4 1 [.fsl 1 (List.map c_L3 a0)],W 5 1 [.mp 2],(6,rup_units_m8296_lp17 a0 x210 .ready none),(7,.rows 1 (List.map cI x359)),(8,.rows 1 (List.map cI [x376]))],9⟩ ?_
         refine jr_part (i:=3) (mo:=app 8 x359 [x376]) rfl rfl rfl rfl (fun _ hc=>aop_app (u:=.osl 7 0 (List.length x359) 1) (w:=.osl 8 0 (List.length [x376]) 1) (e:=3) (td:=.slice 3) (by kernel_rfl) (by kernel_rfl) (by kernel_rfl) (by kernel_rfl) (.inl ⟨_,rfl⟩) (appendOf_own (c:=cI) (sz:=1) (b:=8) (id:=7) (by kernel_rfl) (by kernel_rfl) (rows_own (by kernel_rfl)) (List.cons_ne_nil _ _) hc)) (fun _=>rfl) ?_
         intro x381 h381
         refine jG 4 1 ⟨[V 0 (.yld 6),V 2 (pt 5 1),V 6 (.osl 9 0 (List.length x381) 1),V 9 (.fsl 1 (List.map c_L3 a0)),V 10 (iv (List.length a0:Int)),V 11 (iv x296),V 18 (.fsl 1 (List.map cI x351)),V 19 (iv (List.length x351:Int)),V 20 (iv x360)],[(0,.rows 1 (List.map cI a1)),W 1 1 [.mp 2],(2,.map (oM x295)),W 3 1 [bv false],W 4 1 [.fsl 1 (List.map c_L3 a0)],W 5 1 [.mp 2],(6,rup_units_m8296_lp17 a0 x210 .ready none),(9,.rows 1 (List.map cI x381))],10⟩ ?_
         refine jr_nil rfl ?_
         refine jx_blkN ?_
         exact jx_mid rfl (wkR [(0,some 0),(1,some 1),(2,some 2),(3,some 3),(4,some 4),(5,some 5),(6,some 6),(7,some 9)] (fix_of hc17.2.2 (k:=7) rfl) (pc (hL 0 (noid_map ni_I _)) (pc (hC 1) (pc (hM 2) (pc (hC 3) (pc (hC 4) (pc (hC 5) (pc (.inr (.inr (.inl ⟨6,_,_,rfl,rfl,rfl,by kernel_rfl⟩))) (pc (hL 9 (noid_map ni_I _)) allp_nil)))))))))
        refine jc_skip ?_
        refine jx_blkN ?_
        exact jx_mid rfl (wkR [(0,some 0),(1,some 1),(2,some 2),(3,some 3),(4,some 4),(5,some 5),(6,some 6),(7,some 7)] (fix_of hc17.2.2 (k:=7) rfl) (pc (hL 0 (noid_map ni_I _)) (pc (hC 1) (pc (hM 2) (pc (hC 3) (pc (hC 4) (pc (hC 5) (pc (.inr (.inr (.inl ⟨6,_,_,rfl,rfl,rfl,by kernel_rfl⟩))) (pc (hL 7 (noid_map ni_I _)) allp_nil)))))))))
       intro x375
       refine jx_seqN ?_
       refine jT ⟨[V 0 (.yld 6),V 2 (pt 5 1),V 6 (.osl 7 0 (List.length x375) 1),V 9 (.fsl 1 (List.map c_L3 a0)),V 10 (iv (List.length a0:Int)),V 11 (iv x296),V 18 (.fsl 1 (List.map cI x351)),V 19 (iv (List.length x351:Int)),V 20 (iv (w64 (x360 + 1)))],[(0,.rows 1 (List.map cI a1)),W 1 1 [.mp 2],(2,.map (oM x295)),W 3 1 [bv false],W 4 1 [.fsl 1 (List.map c_L3 a0)],W 5 1 [.mp 2],(6,rup_units_m8296_lp17 a0 x210 .ready none),(7,.rows 1 (List.map cI x375))],8⟩ ?_
       exact jx_next (wkR [(0,some 0),(1,some 1),(2,some 2),(3,some 3),(4,some 4),(5,some 5),(6,some 6),(7,some 7)] (fix_of hc17.2.2 (k:=7) rfl) (pc (hL 0 (noid_map ni_I _)) (pc (hC 1) (pc (hM 2) (pc (hC 3) (pc (hC 4) (pc (hC 5) (pc (.inr (.inr (.inl ⟨6,_,_,rfl,rfl,rfl,by kernel_rfl⟩))) (pc (hL 7 (noid_map ni_I _)) allp_nil)))))))))
      refine jc_exit ?_
      refine jx_seqE ?_
      exact jx_done rfl nofun (wkR [(0,some 0),(1,some 1),(2,some 2),(3,some 3),(4,some 4),(5,some 5),(6,some 6),(7,some 7)] (fix_of hc17.2.2 (k:=7) rfl) (pc (hL 0 (noid_map ni_I _)) (pc (hC 1) (pc (hM 2) (pc (hC 3) (pc (hC 4) (pc (hC 5) (pc (.inr (.inr (.inl ⟨6,_,_,rfl,rfl,rfl,by kernel_rfl⟩))) (pc (hL 7 (noid_map ni_I _)) allp_nil)))))))))
     intro x369
     refine jx_blkE ?_
     refine jx_seqN ?_
     refine jR ?_
     refine jG 0 2 ⟨[V 0 (.yld 6),V 2 (pt 5 1),V 9 (.fsl 1 (List.map c_L3 a0)),V 10 (iv (List.length a0:Int)),V 11 (iv x296),V 40 (.yld 6),V 41 (.osl 7 0 (List.length x369) 1)],[(0,.rows 1 (List.map cI a1)),W 1 1 [.mp 2],(2,.map (oM x295)),W 3 1 [bv false],W 4 1 [.fsl 1 (List.map c_L3 a0)],W 5 1 [.mp 2],(6,rup_units_m8296_lp17 a0 x210 .ready none),(7,.rows 1 (List.map cI x369))],8⟩ ?_
     refine jr_yield (i:=2) (l:=6) (Nc:=66) (Kc:=[V 0 (.fsl 1 (List.map c_L3 a0)),V 6 (pt 1 1),V 9 (pt 3 1),V 10 (iv (List.length x210:Int)),V 36 (.fn 37 [pt 4 1,pt 5 1])]) (ps:=[37]) (vs:=[.osl 7 0 (List.length x369) 1]) (fun y=>match y with | Sum.inl _=>⟨[],[(0,.rows 1 (List.map cI a1)),W 1 1 [.mp 2],(2,.map (oM x295)),W 3 1 [bv true],W 4 1 [.fsl 1 (List.map c_L3 a0)],W 5 1 [.mp 2],(6,rup_units_m8296_lp17 a0 x210 .busy none)],8⟩ | Sum.inr x386=>⟨[],[(0,.rows 1 (List.map cI a1)),W 1 1 [.mp 2],(2,.map (oM x386)),W 3 1 [bv false],W 4 1 [.fsl 1 (List.map c_L3 a0)],W 5 1 [.mp 2],(6,rup_units_m8296_lp17 a0 x210 .busy none)],8⟩) (fun y=>match y with | Sum.inl _=>(.exit 2) | Sum.inr x386=>.normal) [0,2,9,10,11,42] [0,1,2,3,4,5,6] (after:=(fun y=>match y with | Sum.inl _=>⟨[V 0 (.yld 6),V 2 (pt 5 1),V 9 (.fsl 1 (List.map c_L3 a0)),V 10 (iv (List.length a0:Int)),V 11 (iv x296),V 42 (bv false)],[(0,.rows 1 (List.map cI a1)),W 1 1 [.mp 2],(2,.map (oM x295)),W 3 1 [bv true],W 4 1 [.fsl 1 (List.map c_L3 a0)],W 5 1 [.mp 2],(6,rup_units_m8296_lp17 a0 x210 .done (some (.exit 2)))],8⟩ | Sum.inr x386=>⟨[V 0 (.yld 6),V 2 (pt 5 1),V 9 (.fsl 1 (List.map c_L3 a0)),V 10 (iv (List.length a0:Int)),V 11 (iv x296),V 42 (bv true)],[(0,.rows 1 (List.map cI a1)),W 1 1 [.mp 2],(2,.map (oM x386)),W 3 1 [bv false],W 4 1 [.fsl 1 (List.map c_L3 a0)],W 5 1 [.mp 2],(6,rup_units_m8296_lp17 a0 x210 .ready none)],8⟩)) rfl rfl rup_units_m8296_y19_aw rup_units_m8296_y19_bw (by kernel_rfl) (by kernel_rfl) (yctx_of hc17 rfl) rfl (by kernel_rfl) rfl ?_ (by rintro (_ | x386) <;> exact⟨none,by kernel_rfl⟩) (by rintro (_ | x386) <;> kernel_rfl) ?_
     ·intro F21 hy21
      refine jT ⟨[V 6 (pt 1 1),V 9 (pt 3 1),V 11 (.osl 7 0 (List.length x369) 1)],[(0,.rows 1 (List.map cI a1)),W 1 1 [.mp 2],(2,.map (oM x295)),W 3 1 [bv false],W 4 1 [.fsl 1 (List.map c_L3 a0)],W 5 1 [.mp 2],(6,rup_units_m8296_lp17 a0 x210 .ready none),(7,.rows 1 (List.map cI x369))],8⟩ ?_
      refine jx_asg hy21 rfl ?_
      refine jc_block ?_
      refine jc_block ?_
      refine jS ⟨[V 6 (pt 1 1),V 9 (pt 3 1),V 11 (.osl 7 0 (List.length x369) 1),V 38 (bv ((List.length x369:Int) == 0))],[(0,.rows 1 (List.map cI a1)),W 1 1 [.mp 2],(2,.map (oM x295)),W 3 1 [bv false],W 4 1 [.fsl 1 (List.map c_L3 a0)],W 5 1 [.mp 2],(6,rup_units_m8296_lp17 a0 x210 .busy none),(7,.rows 1 (List.map cI x369))],8⟩ ?_
      refine jIf ?_ ?_
      ·refine jS ⟨[],[(0,.rows 1 (List.map cI a1)),W 1 1 [.mp 2],(2,.map (oM x295)),W 3 1 [bv true],W 4 1 [.fsl 1 (List.map c_L3 a0)],W 5 1 [.mp 2],(6,rup_units_m8296_lp17 a0 x210 .busy none)],8⟩ ?_
       refine jc_exit ?_
       refine jx_blkX rfl ?_
       refine jx_blkX rfl ?_
       exact jx_mid rfl (wkR [(0,some 0),(1,some 1),(2,some 2),(3,some 3),(4,some 4),(5,some 5),(6,some 6),(7,some 7)] (fix_of hy21.2 (k:=8) rfl) (pc (hL 0 (noid_map ni_I _)) (pc (hC 1) (pc (hM 2) (pc (hC 3) (pc (hC 4) (pc (hC 5) (pc (.inr (.inr (.inl ⟨6,_,_,rfl,rfl,rfl,by kernel_rfl⟩))) allp_nil))))))))
      refine jR ?_
      refine jG 0 4 ⟨[V 6 (pt 1 1),V 11 (.osl 7 0 (List.length x369) 1),V 46 (bv ((List.length x369:Int) == 1))],[(0,.rows 1 (List.map cI a1)),W 1 1 [.mp 2],(2,.map (oM x295)),W 3 1 [bv false],W 4 1 [.fsl 1 (List.map c_L3 a0)],W 5 1 [.mp 2],(6,rup_units_m8296_lp17 a0 x210 .busy none),(7,.rows 1 (List.map cI x369))],8⟩ ?_
      refine jr_bind 4 7 (fun x389=>⟨[V 6 (pt 1 1),V 11 (.osl 7 0 (List.length x369) 1),V 53 (bv x389)],[(0,.rows 1 (List.map cI a1)),W 1 1 [.mp 2],(2,.map (oM x295)),W 3 1 [bv false],W 4 1 [.fsl 1 (List.map c_L3 a0)],W 5 1 [.mp 2],(6,rup_units_m8296_lp17 a0 x210 .busy none),(7,.rows 1 (List.map cI x369))],8⟩) ?_ ?_
      ·refine jSp 46 ?_ ?_
       ·refine jG 0 2 ⟨[V 6 (pt 1 1),V 11 (.osl 7 0 (List.length x369) 1),(46,.lit true),V 47 (.mp 2),V 48 (.osl 7 0 (List.length x369) 1)],[(0,.rows 1 (List.map cI a1)),W 1 1 [.mp 2],(2,.map (oM x295)),W 3 1 [bv false],W 4 1 [.fsl 1 (List.map c_L3 a0)],W 5 1 [.mp 2],(6,rup_units_m8296_lp17 a0 x210 .busy none),(7,.rows 1 (List.map cI x369))],8⟩ ?_
        refine jr_part (i:=2) (mo:=ixl x369 0) rfl rfl rfl rfl (fun _ hc=>aop_ixo0 (sz:=1) (e:=3) (kk:=.i64) (id:=7) (by kernel_rfl) (by kernel_rfl) (by kernel_rfl) (by kernel_rfl) hc) (fun _=>rfl) ?_
        intro x390 h390
        refine jr_one (i:=3) (v:=iv x390) rfl rfl rfl rfl (aop_ldo (l:=x369) (c:=cI) (id:=7) (k:=(Int.toNat 0)) (sz:=1) (off:=0) (a:=x390) (by kernel_rfl) (by kernel_rfl) (ixl_lt h390).2.2 (by kernel_rfl)) rfl ?_
        refine jr_callF (i:=4) rfl rfl rfl rfl (vs:=[.mp 2,iv x390]) (by kernel_rfl) (snapL_cons (snapc_mp (by kernel_rfl)) (snapL_cons rfl (snapL_nil _))) (all2_cons (fle_refl _) (all2_cons (fle_refl _) all2_nil)) (rup_sheet_isTrue_ok x295 x390) (fun _=>rfl) (fun _=>rfl) ?_
        intro x391 h391
        refine jG 5 2 ⟨[V 6 (pt 1 1),V 11 (.osl 7 0 (List.length x369) 1),V 53 (bv (!x391))],[(0,.rows 1 (List.map cI a1)),W 1 1 [.mp 2],(2,.map (oM x295)),W 3 1 [bv false],W 4 1 [.fsl 1 (List.map c_L3 a0)],W 5 1 [.mp 2],(6,rup_units_m8296_lp17 a0 x210 .busy none),(7,.rows 1 (List.map cI x369))],8⟩ ?_
        refine jr_nil rfl ?_
        exact jx_mid rfl (wkR [(0,some 0),(1,some 1),(2,some 2),(3,some 3),(4,some 4),(5,some 5),(6,some 6),(7,some 7)] (fix_of hy21.2 (k:=8) rfl) (pc (hL 0 (noid_map ni_I _)) (pc (hC 1) (pc (hM 2) (pc (hC 3) (pc (hC 4) (pc (hC 5) (pc (.inr (.inr (.inl ⟨6,_,_,rfl,rfl,rfl,by kernel_rfl⟩))) (pc (hL 7 (noid_map ni_I _)) allp_nil)))))))))
       refine jG 0 7 ⟨[V 6 (pt 1 1),V 11 (.osl 7 0 (List.length x369) 1),V 53 (bv false)],[(0,.rows 1 (List.map cI a1)),W 1 1 [.mp 2],(2,.map (oM x295)),W 3 1 [bv false],W 4 1 [.fsl 1 (List.map c_L3 a0)],W 5 1 [.mp 2],(6,rup_units_m8296_lp17 a0 x210 .busy none),(7,.rows 1 (List.map cI x369))],8⟩ ?_
       refine jr_nil rfl ?_
       exact jx_mid rfl (wkR [(0,some 0),(1,some 1),(2,some 2),(3,some 3),(4,some 4),(5,some 5),(6,some 6),(7,some 7)] (fix_of hy21.2 (k:=8) rfl) (pc (hL 0 (noid_map ni_I _)) (pc (hC 1) (pc (hM 2) (pc (hC 3) (pc (hC 4) (pc (hC 5) (pc (.inr (.inr (.inl ⟨6,_,_,rfl,rfl,rfl,by kernel_rfl⟩))) (pc (hL 7 (noid_map ni_I _)) allp_nil)))))))))
      intro x389
      refine jG 11 1 ⟨[V 6 (pt 1 1),V 11 (.osl 7 0 (List.length x369) 1),V 42 (bv x389)],[(0,.rows 1 (List.map cI a1)),W 1 1 [.mp 2],(2,.map (oM x295)),W 3 1 [bv false],W 4 1 [.fsl 1 (List.map c_L3 a0)],W 5 1 [.mp 2],(6,rup_units_m8296_lp17 a0 x210 .busy none),(7,.rows 1 (List.map cI x369))],8⟩ ?_
      refine jN ?_
      refine jIf ?_ ?_
      ·refine jc_reg ?_
       refine jG 0 2 ⟨[V 54 (.mp 2),V 55 (.osl 7 0 (List.length x369) 1)],[(0,.rows 1 (List.map cI a1)),W 1 1 [.mp 2],(2,.map (oM x295)),W 3 1 [bv false],W 4 1 [.fsl 1 (List.map c_L3 a0)],W 5 1 [.mp 2],(6,rup_units_m8296_lp17 a0 x210 .busy none),(7,.rows 1 (List.map cI x369))],8⟩ ?_
       refine jr_part (i:=2) (mo:=ixl x369 0) rfl rfl rfl rfl (fun _ hc=>aop_ixo0 (sz:=1) (e:=3) (kk:=.i64) (id:=7) (by kernel_rfl) (by kernel_rfl) (by kernel_rfl) (by kernel_rfl) hc) (fun _=>rfl) ?_
       intro x392 h392
       refine jr_one (i:=3) (v:=iv x392) rfl rfl rfl rfl (aop_ldo (l:=x369) (c:=cI) (id:=7) (k:=(Int.toNat 0)) (sz:=1) (off:=0) (a:=x392) (by kernel_rfl) (by kernel_rfl) (ixl_lt h392).2.2 (by kernel_rfl)) rfl ?_
       refine jr_one (i:=4) (v:=iv (mget x295 x392)) (us:=[]) rfl rfl rfl rfl (aop_look (l:=x295) (id:=2) (kk:=x392) (kt:=3) (et:=3) (by kernel_rfl) (by kernel_rfl) (by kernel_rfl) (by kernel_rfl) (by kernel_rfl) (by kernel_rfl)) rfl ?_
       refine jG 5 1 ⟨[V 54 (.mp 2),V 57 (iv x392),V 59 (iv (w64 ((mget x295 x392) + 1)))],[(0,.rows 1 (List.map cI a1)),W 1 1 [.mp 2],(2,.map (oM x295)),W 3 1 [bv false],W 4 1 [.fsl 1 (List.map c_L3 a0)],W 5 1 [.mp 2],(6,rup_units_m8296_lp17 a0 x210 .busy none)],8⟩ ?_
       refine jr_sto (i:=6) [] [0,1,2,3,4,5,6] (st1:=⟨[],[(0,.rows 1 (List.map cI a1)),W 1 1 [.mp 2],(2,.map (oM (mput x295 x392 (w64 ((mget x295 x392) + 1))))),W 3 1 [bv false],W 4 1 [.fsl 1 (List.map c_L3 a0)],W 5 1 [.mp 2],(6,rup_units_m8296_lp17 a0 x210 .busy none)],8⟩) rfl rfl rfl rfl (aop_mput (l:=x295) (id:=2) (kk:=x392) (v:=(w64 ((mget x295 x392) + 1))) (kt:=3) (et:=3) (by kernel_rfl) (by kernel_rfl) (by kernel_rfl) (by kernel_rfl) (by kernel_rfl) (by kernel_rfl)) (by kernel_rfl) ?_
       refine jr_nil rfl ?_
       refine jx_blkN ?_
       refine jx_blkN ?_
       exact jx_mid rfl (wkR [(0,some 0),(1,some 1),(2,some 2),(3,some 3),(4,some 4),(5,some 5),(6,some 6),(7,some 7)] (fix_of hy21.2 (k:=8) rfl) (pc (hL 0 (noid_map ni_I _)) (pc (hC 1) (pc (hM 2) (pc (hC 3) (pc (hC 4) (pc (hC 5) (pc (.inr (.inr (.inl ⟨6,_,_,rfl,rfl,rfl,by kernel_rfl⟩))) allp_nil))))))))
      refine jc_skip ?_
      refine jx_blkN ?_
      refine jx_blkN ?_
      exact jx_mid rfl (wkR [(0,some 0),(1,some 1),(2,some 2),(3,some 3),(4,some 4),(5,some 5),(6,some 6),(7,some 7)] (fix_of hy21.2 (k:=8) rfl) (pc (hL 0 (noid_map ni_I _)) (pc (hC 1) (pc (hM 2) (pc (hC 3) (pc (hC 4) (pc (hC 5) (pc (.inr (.inr (.inl ⟨6,_,_,rfl,rfl,rfl,by kernel_rfl⟩))) allp_nil))))))))
     rintro (_ | x386)
     ·refine jG 3 1 ⟨[V 0 (.yld 6),V 2 (pt 5 1),V 9 (.fsl 1 (List.map c_L3 a0)),V 10 (iv (List.length a0:Int)),V 11 (iv x296),V 43 (bv true)],[(0,.rows 1 (List.map cI a1)),W 1 1 [.mp 2],(2,.map (oM x295)),W 3 1 [bv true],W 4 1 [.fsl 1 (List.map c_L3 a0)],W 5 1 [.mp 2],(6,rup_units_m8296_lp17 a0 x210 .done (some (.exit 2)))],8⟩ ?_
      refine jN ?_
      refine jc_condK (c:=true) (by kernel_rfl) ?_
      refine jc_ret ?_
      refine jx_blkR ?_
      exact jx_mid rfl (wkR [(0,some 0),(1,some 1),(2,some 2),(3,some 3),(4,some 4),(5,some 5),(6,some 6)] (fix_of hc17.2.2 (k:=7) rfl) (pc (hL 0 (noid_map ni_I _)) (pc (hC 1) (pc (hM 2) (pc (hC 3) (pc (hC 4) (pc (hC 5) (pc (.inr (.inr (.inl ⟨6,_,_,rfl,rfl,rfl,by kernel_rfl⟩))) allp_nil))))))))
     refine jG 3 1 ⟨[V 0 (.yld 6),V 2 (pt 5 1),V 9 (.fsl 1 (List.map c_L3 a0)),V 10 (iv (List.length a0:Int)),V 11 (iv x296),V 43 (bv false)],[(0,.rows 1 (List.map cI a1)),W 1 1 [.mp 2],(2,.map (oM x386)),W 3 1 [bv false],W 4 1 [.fsl 1 (List.map c_L3 a0)],W 5 1 [.mp 2],(6,rup_units_m8296_lp17 a0 x210 .ready none)],8⟩ ?_
     refine jN ?_
     refine jc_condK (c:=false) (by kernel_rfl) ?_
     refine jc_skip ?_
     refine jx_blkN ?_
     exact jx_mid rfl (wkR [(0,some 0),(1,some 1),(2,some 2),(3,some 3),(4,some 4),(5,some 5),(6,some 6)] (fix_of hc17.2.2 (k:=7) rfl) (pc (hL 0 (noid_map ni_I _)) (pc (hC 1) (pc (hM 2) (pc (hC 3) (pc (hC 4) (pc (hC 5) (pc (.inr (.inr (.inl ⟨6,_,_,rfl,rfl,rfl,by kernel_rfl⟩))) allp_nil))))))))
    rintro (x350 | _)
    ·refine jx_seqN ?_
     refine jT ⟨[V 0 (.yld 6),V 2 (pt 5 1),V 9 (.fsl 1 (List.map c_L3 a0)),V 10 (iv (List.length a0:Int)),V 11 (iv (w64 (x296 + 1)))],[(0,.rows 1 (List.map cI a1)),W 1 1 [.mp 2],(2,.map (oM x350)),W 3 1 [bv false],W 4 1 [.fsl 1 (List.map c_L3 a0)],W 5 1 [.mp 2],(6,rup_units_m8296_lp17 a0 x210 .ready none)],7⟩ ?_
     exact jx_next (wkR [(0,some 0),(1,some 1),(2,some 2),(3,some 3),(4,some 4),(5,some 5),(6,some 6)] (fix_of hc17.2.2 (k:=7) rfl) (pc (hL 0 (noid_map ni_I _)) (pc (hC 1) (pc (hM 2) (pc (hC 3) (pc (hC 4) (pc (hC 5) (pc (.inr (.inr (.inl ⟨6,_,_,rfl,rfl,rfl,by kernel_rfl⟩))) allp_nil))))))))
    refine jx_seqR ?_
    exact jx_done rfl nofun (wkR [(0,some 0),(1,some 1),(2,some 2),(3,some 3),(4,some 4),(5,some 5),(6,some 6)] (fix_of hc17.2.2 (k:=7) rfl) (pc (hL 0 (noid_map ni_I _)) (pc (hC 1) (pc (hM 2) (pc (hC 3) (pc (hC 4) (pc (hC 5) (pc (.inr (.inr (.inl ⟨6,_,_,rfl,rfl,rfl,by kernel_rfl⟩))) allp_nil))))))))
   refine jc_exit ?_
   refine jx_seqE ?_
   exact jx_done rfl nofun (wkR [(0,some 0),(1,some 1),(2,some 2),(3,some 3),(4,some 4),(5,some 5),(6,some 6)] (fix_of hc17.2.2 (k:=7) rfl) (pc (hL 0 (noid_map ni_I _)) (pc (hC 1) (pc (hM 2) (pc (hC 3) (pc (hC 4) (pc (hC 5) (pc (.inr (.inr (.inl ⟨6,_,_,rfl,rfl,rfl,by kernel_rfl⟩))) allp_nil))))))))
  rintro (x324 | x325)
  ·refine jx_blkR ?_
   refine jx_rng hc17 (.inr rfl) rfl nofun rfl ?_
   refine jx_blkX rfl ?_
   refine jx_seqE ?_
   refine jx_blkX rfl ?_
   exact jx_done rfl nofun (wkR [(0,some 0),(1,some 1),(2,some 2),(3,some 3)] (fix_of hF (k:=1) rfl) (pc (hL 0 (noid_map ni_I _)) (pc (hC 1) (pc (hM 2) (pc (hC 3) allp_nil)))))
  refine jx_blkE ?_
  refine jx_rng hc17 (.inl rfl) rfl nofun rfl ?_
  refine jx_blkN ?_
  refine jx_seqN ?_
  refine jR ?_
  refine jG 0 1 ⟨[V 0 (.fsl 1 (List.map c_L3 a0)),V 6 (pt 1 1),V 9 (pt 3 1),V 10 (iv (List.length x210:Int)),V 60 (.mp 2)],[(0,.rows 1 (List.map cI a1)),W 1 1 [.mp 2],(2,.map (oM x325)),W 3 1 [bv false]],7⟩ ?_
  refine jr_one (i:=1) (v:=iv (List.length x325:Int)) (us:=[]) rfl rfl rfl rfl (aop_lenm (l:=x325) (id:=2) (kt:=3) (et:=3) (by kernel_rfl) (by kernel_rfl) (by kernel_rfl) (by kernel_rfl)) rfl ?_
  refine jG 2 2 ⟨[V 0 (.fsl 1 (List.map c_L3 a0)),V 6 (pt 1 1),V 9 (pt 3 1),V 63 (bv ((List.length x325:Int) == (List.length x210:Int)))],[(0,.rows 1 (List.map cI a1)),W 1 1 [.mp 2],(2,.map (oM x325)),W 3 1 [bv false]],7⟩ ?_
  refine jN ?_
  refine jIf ?_ ?_
  ·refine jc_exit ?_
   refine jx_blkX rfl ?_
   exact jx_done rfl nofun (wkR [(0,some 0),(1,some 1),(2,some 2),(3,some 3)] (fix_of hF (k:=1) rfl) (pc (hL 0 (noid_map ni_I _)) (pc (hC 1) (pc (hM 2) (pc (hC 3) allp_nil)))))
  refine jc_skip ?_
  refine jx_blkN ?_
  exact jx_next (wkR [(0,some 0),(1,some 1),(2,some 2),(3,some 3)] (fix_of hF (k:=1) rfl) (pc (hL 0 (noid_map ni_I _)) (pc (hC 1) (pc (hM 2) (pc (hC 3) allp_nil)))))
 rintro⟨x268,x269⟩
 refine jx_blkE ?_
 refine jx_seqN ?_
 refine jS ⟨[V 4 (.mp 2),V 5 (bv x269)],[(0,.rows 1 (List.map cI a1)),(2,.map (oM x268))],4⟩ ?_
 refine jc_ret ?_
 refine jx_scopeR ?_
 exact jx_retM (rup_units_m8296_T a0 a1 (x268,x269)) (.inr rfl) (wkR [(0,some 0),(1,some 2)] (fix_of hF (k:=1) rfl) (pc (hL 0 (noid_map ni_I _)) (pc (hM 2) allp_nil))))
theorem rup_units_m8296_okE (a0:List (List Int)) (a1:List Int):CtM E 16 [.fsl 1 (List.map c_L3 a0),.osl 0 0 (List.length a1) 1] [(0,.rows 1 (List.map cI a1))] 1 (rup_units_m8296 a0 a1) (fun r:List (Int × Int) × Bool=>.tup [.mp 1,bv r.2]) (fun r:List (Int × Int) × Bool=>[(0,.rows 1 (List.map cI a1)),(1,.map (oM r.1))]) 2:=CtM.lift (E:=E) (E0:=E0) rfl rfl rfl rfl (rup_units_m8296_ok a0 a1)
abbrev rup_Step_r1:List LO:=[lo 4 (.assign (.const (.bool false))) 4]
abbrev rup_Step_r2:List LO:=[lo 5 (.assign (.const (.slice none 0 0))) 23]
abbrev rup_Step_r3:List LO:=[lm 10 1 23,lo 11 (.call ⟨.builtin .len,#[.tmp 10],#[23]⟩) 3,lo 12 (.move (.const (.int .i64 0))) 3]
abbrev rup_Step_r4:List LO:=[lo 13 (.binOp .lss 3 (.tmp 12) (.tmp 11) 3) 0]
abbrev rup_Step_r5:List LO:=[lo 14 (.indexAddr 23 (.tmp 10) (.tmp 12)) 0,lo 15 (.load 3 (.tmp 14)) 3,lo 7 (.assign (.tmp 15)) 3]
abbrev rup_Step_r6:List LO:=[lm 16 7 3,lo 17 (.call ⟨.value (.func 22),#[.tmp 16],#[3]⟩) 4,lo 18 (.unOp .not 4 (.tmp 17)) 4]
abbrev rup_Step_r7:List LO:=[lo 4 (.assign (.const (.bool false))) 4]
abbrev rup_Step_r8:List LO:=[lm 19 5 23,lm 20 7 3,lo 21 (.unOp .neg 3 (.tmp 20)) 3,lo 22 (.buildSlice 23 1 #[(0,.tmp 21)]) 23,lo 23 (.call ⟨.builtin .append,#[.tmp 19,.tmp 22],#[23,23]⟩) 23,lo 5 (.assign (.tmp 23)) 23]
abbrev rup_Step_r9:List LO:=[lo 24 (.binOp .add 3 (.tmp 12) (.const (.int .i64 1)) 3) 3,lm 12 24 3]
abbrev rup_Step_r10:List LO:=[lm 26 0 22,lm 27 5 23,lo 28 (.call ⟨.value (.func 16),#[.tmp 26,.tmp 27],#[22,23]⟩) 35,lm 25 28 35,lo 29 (.extract (.tmp 25) 0) 34,lo 30 (.extract (.tmp 25) 1) 4,lo 8 (.assign (.tmp 29)) 34,lo 9 (.assign (.tmp 30)) 4]
abbrev rup_Step_r11:List LO:=[lm 31 9 4,lo 4 (.assign (.tmp 31)) 4]
abbrev rup_Step_c:LC:=.seq (.reg false rup_Step_r1) (.seq (.reg false rup_Step_r2) (.seq (.seq (.reg false rup_Step_r3) (.block 0 (.loop (.seq (.reg false rup_Step_r4) (.seq (.cond (.tmp 13) .skip (.exit 0)) (.seq (.block 1 (.seq (.reg false rup_Step_r5) (.seq (.seq (.reg false rup_Step_r6) (.cond (.tmp 18) (.seq (.reg false rup_Step_r7) .ret) .skip)) (.reg false rup_Step_r8)))) (.reg false rup_Step_r9))))))) (.seq (.reg false rup_Step_r10) (.seq (.reg false rup_Step_r11) .ret))))
theorem rup_Step_k:FnOk E 9 32 [.tmp 4] rup_Step_c:=⟨⟨Go.Proofs.Tryz.f9,by kernel_rfl,by kernel_rfl,by kernel_rfl,by kernel_rfl,by kernel_rfl⟩,rfl,rfl⟩
noncomputable def rup_Step_l1 (a1:(List Int)):(List Int × Int)→Option (Step (List Int × Int) ((Unit) ⊕ (List Int))):=fun (x4,x5)=>(if (decide (x5 < (List.length a1:Int)))=true then Option.bind (ixl a1 x5) (fun x12=>Option.bind (rup_literal x12) (fun x13=>(if (!x13)=true then some (Step.done (Sum.inl ())) else Option.bind (app 8 x4 [(w64 (0 - x12))]) (fun x14=>some (Step.next (x14,(w64 (x5 + 1)))))))) else some (Step.done (Sum.inr x4)))
noncomputable def rup_Step (a0:(List (List Int))) (a1:(List Int)):Option (Bool):=Option.bind (loopC (rup_Step_l1 a1) ([],0)) (fun y=>match y with | Sum.inl _=>some false | Sum.inr x11=>Option.bind (rup_units_m8296 a0 x11) (fun (x15,x16)=>some x16))
theorem rup_Step_ok (a0:(List (List Int))) (a1:(List Int)):Ct E 9 [.fsl 1 (List.map c_L3 a0),.fsl 1 (List.map cI a1)] (rup_Step a0 a1) (fun r:Bool=>bv r):=ct_intro (N:=32) (L:=rup_Step_c) rup_Step_k rfl (Nat.le_of_ble_eq_true rfl) (by kernel_rfl) (by
 unfold rup_Step
 refine jS ⟨[V 0 (.fsl 1 (List.map c_L3 a0)),V 1 (.fsl 1 (List.map cI a1))],[],0⟩ ?_
 refine jS ⟨[V 0 (.fsl 1 (List.map c_L3 a0)),V 1 (.fsl 1 (List.map cI a1)),V 5 (nilS)],[],0⟩ ?_
 refine jc_seq ?_
 refine jR ?_
 refine jG 0 3 ⟨[V 0 (.fsl 1 (List.map c_L3 a0)),V 5 (nilS),V 10 (.fsl 1 (List.map cI a1)),V 11 (iv (List.length (List.map cI a1):Int)),V 12 (iv 0)],[],0⟩ ?_
 simp only[List.length_map]
 refine jN ?_
 refine jc_block ?_
 refine jc_bind (fun y=>match y with | Sum.inl _=>⟨[V 4 (bv false)],[],0⟩ | Sum.inr x11=>⟨[V 0 (.fsl 1 (List.map c_L3 a0)),V 5 (.osl 0 0 (List.length x11) 1)],[(0,.rows 1 (List.map cI x11))],1⟩) (fun y=>match y with | Sum.inl _=>.ret | Sum.inr x11=>(.exit 0)) (jc_loop (fun (x4,x5)=>⟨[V 0 (.fsl 1 (List.map c_L3 a0)),V 5 (.osl 0 0 (List.length x4) 1),V 10 (.fsl 1 (List.map cI a1)),V 11 (iv (List.length a1:Int)),V 12 (iv x5)],[(0,.rows 1 (List.map cI x4))],1⟩) (wkR [(0,none)] (fix_nil _) (pc hZ allp_nil)) ?_) ?_
 ·rintro⟨x4,x5⟩
  unfold rup_Step_l1
  refine jS ⟨[V 0 (.fsl 1 (List.map c_L3 a0)),V 5 (.osl 0 0 (List.length x4) 1),V 10 (.fsl 1 (List.map cI a1)),V 11 (iv (List.length a1:Int)),V 12 (iv x5),V 13 (bv (decide (x5 < (List.length a1:Int))))],[(0,.rows 1 (List.map cI x4))],1⟩ ?_
  refine jc_seq ?_
  refine jIf ?_ ?_
  ·refine jc_skip ?_
   refine jx_seqN ?_
   refine jc_seq ?_
   refine jc_block ?_
   refine jR ?_
   refine jr_part (i:=0) (mo:=ixl a1 x5) rfl rfl rfl rfl (fun _ hc=>aop_ixf (c:=cI) (sz:=1) (e:=3) (kk:=.i64) (by kernel_rfl) (by kernel_rfl) (by kernel_rfl) (by kernel_rfl) hc) (fun _=>rfl) ?_
   intro x12 h12
   refine jG 1 2 ⟨[V 0 (.fsl 1 (List.map c_L3 a0)),V 5 (.osl 0 0 (List.length x4) 1),V 7 (iv x12),V 10 (.fsl 1 (List.map cI a1)),V 11 (iv (List.length a1:Int)),V 12 (iv x5)],[(0,.rows 1 (List.map cI x4))],1⟩ ?_
   refine jN ?_
   refine jc_seq ?_
   refine jR ?_
   refine jG 0 1 ⟨[V 0 (.fsl 1 (List.map c_L3 a0)),V 5 (.osl 0 0 (List.length x4) 1),V 7 (iv x12),V 10 (.fsl 1 (List.map cI a1)),V 11 (iv (List.length a1:Int)),V 12 (iv x5),V 16 (iv x12)],[(0,.rows 1 (List.map cI x4))],1⟩ ?_
   refine jK 1 (rup_literal_okE x12) ?_
   intro x13 h13
   refine jG 2 1 ⟨[V 0 (.fsl 1 (List.map c_L3 a0)),V 5 (.osl 0 0 (List.length x4) 1),V 7 (iv x12),V 10 (.fsl 1 (List.map cI a1)),V 11 (iv (List.length a1:Int)),V 12 (iv x5),V 18 (bv (!x13))],[(0,.rows 1 (List.map cI x4))],1⟩ ?_
   refine jN ?_
   refine jIf ?_ ?_
   ·refine jS ⟨[V 4 (bv false)],[],1⟩ ?_
    refine jc_ret ?_
    refine jx_seqR ?_
    refine jx_blkR ?_
    refine jx_seqR ?_
    exact jx_done rfl nofun (wkR [] (fix_nil _) allp_nil)
   refine jc_skip ?_
   refine jx_seqN ?_
   refine jc_reg ?_
   refine jG 0 4 ⟨[V 0 (.fsl 1 (List.map c_L3 a0)),V 10 (.fsl 1 (List.map cI a1)),V 11 (iv (List.length a1:Int)),V 12 (iv x5),V 19 (.osl 0 0 (List.length x4) 1),V 22 (.osl 1 0 (List.length [(w64 (0 - x12))]) 1)],[(0,.rows 1 (List.map cI x4)),(1,.rows 1 (List.map cI [(w64 (0 - x12))]))],2⟩ ?_
   refine jr_part (i:=4) (mo:=app 8 x4 [(w64 (0 - x12))]) rfl rfl rfl rfl (fun _ hc=>aop_app (u:=.osl 0 0 (List.length x4) 1) (w:=.osl 1 0 (List.length [(w64 (0 - x12))]) 1) (e:=3) (td:=.slice 3) (by kernel_rfl) (by kernel_rfl) (by kernel_rfl) (by kernel_rfl) (.inl ⟨_,rfl⟩) (appendOf_own (c:=cI) (sz:=1) (b:=8) (id:=0) (by kernel_rfl) (by kernel_rfl) (rows_own (by kernel_rfl)) (List.cons_ne_nil _ _) hc)) (fun _=>rfl) ?_
   intro x14 h14
   refine jG 5 1 ⟨[V 0 (.fsl 1 (List.map c_L3 a0)),V 5 (.osl 2 0 (List.length x14) 1),V 10 (.fsl 1 (List.map cI a1)),V 11 (iv (List.length a1:Int)),V 12 (iv x5)],[(2,.rows 1 (List.map cI x14))],3⟩ ?_
   refine jr_nil rfl ?_
   refine jx_blkN ?_
   refine jx_seqN ?_
   refine jT ⟨[V 0 (.fsl 1 (List.map c_L3 a0)),V 5 (.osl 2 0 (List.length x14) 1),V 10 (.fsl 1 (List.map cI a1)),V 11 (iv (List.length a1:Int)),V 12 (iv (w64 (x5 + 1)))],[(2,.rows 1 (List.map cI x14))],3⟩ ?_
   exact jx_next (wkR [(0,some 2)] (fix_nil _) (pc (hL 2 (noid_map ni_I _)) allp_nil))
  refine jc_exit ?_
  refine jx_seqE ?_
  exact jx_done rfl nofun (wkR [(0,some 0)] (fix_nil _) (pc (hL 0 (noid_map ni_I _)) allp_nil))
 rintro (_ | x11)
 ·refine jx_blkR ?_
  refine jx_seqR ?_
  exact jx_retF (.inr rfl) (v:=bv false) (by kernel_rfl) rfl (fle_refl _)
 refine jx_blkE ?_
 refine jx_seqN ?_
 refine jR ?_
 refine jG 0 2 ⟨[V 26 (.fsl 1 (List.map c_L3 a0)),V 27 (.osl 0 0 (List.length x11) 1)],[(0,.rows 1 (List.map cI x11))],1⟩ ?_
 refine jr_callM 2 [(0,some 0)] [(0,some 0),(1,some 1)] (fun r:List (Int × Int) × Bool=>[(0,.rows 1 (List.map cI x11)),(1,.map (oM r.1))]) (fun r:List (Int × Int) × Bool=>.tup [.mp 1,bv r.2]) 2 (rup_units_m8296_okE a0 x11) (pc (hL 0 (noid_map ni_I _)) allp_nil) (fun r=>(pc (.inr (hL 0 (noid_map ni_I _))) (pc (.inr (hM 1)) allp_nil))) ?_
 rintro⟨x15,x16⟩ hm1
 refine jG 3 5 ⟨[V 9 (bv x16)],[],2⟩ ?_
 refine jN ?_
 refine jS ⟨[V 4 (bv x16)],[],2⟩ ?_
 refine jc_ret ?_
 exact jx_retF (.inr rfl) (v:=bv x16) (by kernel_rfl) rfl (fle_refl _))
abbrev law29_RupMore_r1:List LO:=[lo 6 (.assign (.const (.bool false))) 4]
abbrev law29_RupMore_r2:List LO:=[lm 19 0 22,lo 20 (.call ⟨.value (.func 5),#[.tmp 19],#[22]⟩) 22,lm 21 2 23,lm 22 2 23,lo 23 (.call ⟨.builtin .len,#[.tmp 22],#[23]⟩) 3,lo 24 (.call ⟨.builtin .min,#[.tmp 23,.const (.int .i64 30)],#[3,3]⟩) 3,lo 25 (.slice 23 (.tmp 21) none (some (.tmp 24)) none) 23,lo 7 (.assign (.tmp 20)) 22,lo 8 (.assign (.tmp 25)) 23]
abbrev law29_RupMore_r3:List LO:=[lo 26 (.buildSlice 22 0 #[]) 22,lm 27 7 22,lo 28 (.call ⟨.builtin .append,#[.tmp 26,.tmp 27],#[22,22]⟩) 22,lm 29 1 22,lo 30 (.call ⟨.value (.func 5),#[.tmp 29],#[22]⟩) 22,lo 31 (.call ⟨.builtin .append,#[.tmp 28,.tmp 30],#[22,22]⟩) 22,lo 9 (.assign (.tmp 31)) 22]
abbrev law29_RupMore_r4:List LO:=[lm 33 7 22,lm 34 8 23,lo 35 (.call ⟨.value (.func 6),#[.tmp 33,.tmp 34],#[22,23]⟩) 25,lm 32 35 25,lo 36 (.extract (.tmp 32) 0) 23,lo 37 (.extract (.tmp 32) 1) 4,lo 10 (.assign (.tmp 36)) 23,lo 11 (.assign (.tmp 37)) 4]
abbrev law29_RupMore_r5:List LO:=[lm 39 9 22,lm 40 8 23,lo 41 (.call ⟨.value (.func 6),#[.tmp 39,.tmp 40],#[22,23]⟩) 25,lm 38 41 25,lo 42 (.extract (.tmp 38) 0) 23,lo 43 (.extract (.tmp 38) 1) 4,lo 12 (.assign (.tmp 42)) 23,lo 13 (.assign (.tmp 43)) 4]
abbrev law29_RupMore_r6:List LO:=[lm 44 11 4,lm 45 44 4,lmg 46 13 4 45 true,lg 47 (.unOp .not 4 (.tmp 46)) 4 45 true,lo 48 (.pick (.tmp 45) (.tmp 47) (.const (.bool false))) 4,lm 49 48 4,lmg 50 7 22 49 false,lmg 51 8 23 49 false,lg 52 (.call ⟨.value (.func 9),#[.tmp 50,.tmp 51],#[22,23]⟩) 4 49 false,lmg 53 52 4 49 false,lmg 54 9 22 53 true,lmg 55 8 23 53 true,lg 56 (.call ⟨.value (.func 9),#[.tmp 54,.tmp 55],#[22,23]⟩) 4 53 true,lg 57 (.unOp .not 4 (.tmp 56)) 4 53 true,lg 58 (.pick (.tmp 53) (.tmp 57) (.const (.bool false))) 4 49 false,lo 59 (.pick (.tmp 49) (.const (.bool true)) (.tmp 58)) 4]
abbrev law29_RupMore_r7:List LO:=[lo 6 (.assign (.const (.bool false))) 4]
abbrev law29_RupMore_r8:List LO:=[lm 60 10 23,lo 61 (.call ⟨.builtin .len,#[.tmp 60],#[23]⟩) 3,lo 62 (.move (.const (.int .i64 0))) 3]
abbrev law29_RupMore_r9:List LO:=[lo 63 (.binOp .lss 3 (.tmp 62) (.tmp 61) 3) 0]
abbrev law29_RupMore_r10:List LO:=[lo 64 (.indexAddr 23 (.tmp 60) (.tmp 62)) 0,lo 65 (.load 3 (.tmp 64)) 3,lo 15 (.assign (.tmp 65)) 3]
abbrev law29_RupMore_r11:List LO:=[lm 66 13 4,lo 16 (.assign (.tmp 66)) 4]
abbrev law29_RupMore_r12:List LO:=[lm 67 12 23,lo 68 (.call ⟨.builtin .len,#[.tmp 67],#[23]⟩) 3,lo 69 (.move (.const (.int .i64 0))) 3]
abbrev law29_RupMore_r13:List LO:=[lo 70 (.binOp .lss 3 (.tmp 69) (.tmp 68) 3) 0]
abbrev law29_RupMore_r14:List LO:=[lo 71 (.indexAddr 23 (.tmp 67) (.tmp 69)) 0,lo 72 (.load 3 (.tmp 71)) 3,lo 18 (.assign (.tmp 72)) 3]
abbrev law29_RupMore_r15:List LO:=[lm 73 16 4,lm 74 73 4,lmg 75 15 3 74 false,lmg 76 18 3 74 false,lg 77 (.binOp .eql 3 (.tmp 75) (.tmp 76) 3) 4 74 false,lo 78 (.pick (.tmp 74) (.const (.bool true)) (.tmp 77)) 4,lo 16 (.assign (.tmp 78)) 4]
abbrev law29_RupMore_r16:List LO:=[lo 79 (.binOp .add 3 (.tmp 69) (.const (.int .i64 1)) 3) 3,lm 69 79 3]
abbrev law29_RupMore_r17:List LO:=[lm 80 16 4,lo 81 (.unOp .not 4 (.tmp 80)) 4]
abbrev law29_RupMore_r18:List LO:=[lo 6 (.assign (.const (.bool false))) 4]
abbrev law29_RupMore_r19:List LO:=[lo 82 (.binOp .add 3 (.tmp 62) (.const (.int .i64 1)) 3) 3,lm 62 82 3]
abbrev law29_RupMore_r20:List LO:=[lo 83 (.call ⟨.value (.func 15),#[],#[]⟩) 4,lo 6 (.assign (.tmp 83)) 4]
abbrev law29_RupMore_c:LC:=.seq (.reg false law29_RupMore_r1) (.seq (.reg true law29_RupMore_r2) (.seq (.reg false law29_RupMore_r3) (.seq (.reg false law29_RupMore_r4) (.seq (.reg false law29_RupMore_r5) (.seq (.seq (.reg false law29_RupMore_r6) (.cond (.tmp 59) (.seq (.reg false law29_RupMore_r7) .ret) .skip)) (.seq (.seq (.reg false law29_RupMore_r8) (.block 0 (.loop (.seq (.reg false law29_RupMore_r9) (.seq (.cond (.tmp 63) .skip (.exit 0)) (.seq (.block 1 (.seq (.reg false law29_RupMore_r10) (.seq (.reg false law29_RupMore_r11) (.seq (.seq (.reg false law29_RupMore_r12) (.block 2 (.loop (.seq (.reg false law29_RupMore_r13) (.seq (.cond (.tmp 70) .skip (.exit 2)) (.seq (.block 3 (.seq (.reg false law29_RupMore_r14) (.reg false law29_RupMore_r15))) (.reg false law29_RupMore_r16))))))) (.seq (.reg false law29_RupMore_r17) (.cond (.tmp 81) (.seq (.reg false law29_RupMore_r18) .ret) .skip)))))) (.reg false law29_RupMore_r19))))))) (.seq (.reg false law29_RupMore_r20) .ret)))))))
theorem law29_RupMore_k:FnOk E 4 84 [.tmp 6] law29_RupMore_c:=⟨⟨Go.Proofs.Tryz.f4,by kernel_rfl,by kernel_rfl,by kernel_rfl,by kernel_rfl,by kernel_rfl⟩,rfl,rfl⟩
noncomputable def law29_RupMore_l1 (x8:List Int) (x36:Int):(Bool × Int)→Option (Step (Bool × Int) (Bool)):=fun (x38,x39)=>(if (decide (x39 < (List.length x8:Int)))=true then Option.bind (ixl x8 x39) (fun x44=>some (Step.next ((x38 || (x36 == x44)),(w64 (x39 + 1))))) else some (Step.done x38))
noncomputable def law29_RupMore_l2 (x6:List Int) (x8:List Int) (x9:Bool):Int→Option (Step (Int) ((Unit) ⊕ (Unit))):=fun x26=>(if (decide (x26 < (List.length x6:Int)))=true then Option.bind (ixl x6 x26) (fun x36=>Option.bind (loopC (law29_RupMore_l1 x8 x36) (x9,0)) (fun x43=>(if (!x43)=true then some (Step.done (Sum.inl ())) else some (Step.next (w64 (x26 + 1)))))) else some (Step.done (Sum.inr ())))
noncomputable def law29_RupMore (a0:(List (List Int))) (a1:(List (List Int))) (a2:(List Int)):Option (Bool):=Option.bind (law29_few a0) (fun x1=>Option.bind (subl a2 0 (if 30 < (List.length a2:Int) then 30 else (List.length a2:Int))) (fun x2=>Option.bind (app 24 ([]:List (List Int)) x1) (fun x3=>Option.bind (law29_few a1) (fun x4=>Option.bind (app 24 x3 x4) (fun x5=>Option.bind (rup_Units x1 x2) (fun (x6,x7)=>Option.bind (rup_Units_m2d81 x5 x2) (fun (x8,x9)=>Option.bind (if (x7 && (!x9))=true then some true else Option.bind (rup_Step x1 x2) (fun x14=>Option.bind (if x14=true then Option.bind (rup_Step x5 x2) (fun x17=>some (!x17)) else some false:Option (Bool)) (fun x16=>some (false || x16))):Option (Bool)) (fun x13=>(if x13=true then some false else Option.bind (loopC (law29_RupMore_l2 x6 x8 x9) 0) (fun y=>match y with | Sum.inl _=>some false | Sum.inr _=>Option.bind (law29_awake) (fun x45=>some x45)))))))))))
theorem law29_RupMore_ok (a0:(List (List Int))) (a1:(List (List Int))) (a2:(List Int)):Ct E 4 [.fsl 1 (List.map c_L3 a0),.fsl 1 (List.map c_L3 a1),.fsl 1 (List.map cI a2)] (law29_RupMore a0 a1 a2) (fun r:Bool=>bv r):=ct_intro (N:=84) (L:=law29_RupMore_c) law29_RupMore_k rfl (Nat.le_of_ble_eq_true rfl) (by kernel_rfl) (by
 unfold law29_RupMore
 refine jS ⟨[V 0 (.fsl 1 (List.map c_L3 a0)),V 1 (.fsl 1 (List.map c_L3 a1)),V 2 (.fsl 1 (List.map cI a2))],[],0⟩ ?_
 refine jR ?_
 refine jG 0 1 ⟨[V 1 (.fsl 1 (List.map c_L3 a1)),V 2 (.fsl 1 (List.map cI a2)),V 19 (.fsl 1 (List.map c_L3 a0))],[],0⟩ ?_
 refine jK 1 (law29_few_ok a0) ?_
 intro x1 h1
 refine jG 2 4 ⟨[V 1 (.fsl 1 (List.map c_L3 a1)),V 20 (.fsl 1 (List.map c_L3 x1)),V 21 (.fsl 1 (List.map cI a2)),V 24 (iv (if 30 < (List.length (List.map cI a2):Int) then 30 else (List.length (List.map cI a2):Int)))],[],0⟩ ?_
 simp only[List.length_map]
 refine jr_part (i:=6) (mo:=subl a2 0 (if 30 < (List.length a2:Int) then 30 else (List.length a2:Int))) rfl rfl rfl rfl (fun _ hc=>aop_subf (c:=cI) (sz:=1) (e:=3) (by kernel_rfl) (by kernel_rfl) (by kernel_rfl) (by kernel_rfl) (by kernel_rfl) hc) (fun _=>rfl) ?_
 intro x2 h2
 refine jG 7 2 ⟨[V 1 (.fsl 1 (List.map c_L3 a1)),V 7 (.fsl 1 (List.map c_L3 x1)),V 8 (.fsl 1 (List.map cI x2))],[],0⟩ ?_
 refine jN ?_
 refine jR ?_
 refine jG 0 2 ⟨[V 1 (.fsl 1 (List.map c_L3 a1)),V 7 (.fsl 1 (List.map c_L3 x1)),V 8 (.fsl 1 (List.map cI x2)),V 26 (.osl 0 0 (List.length ([]:List (List Int))) 1),V 27 (.fsl 1 (List.map c_L3 x1))],[(0,.rows 1 (List.map c_L3 ([]:List (List Int))))],1⟩ ?_
 refine jr_two (i:=2) (C:=x1=[]) (st1:=fun x3=>⟨[V 1 (.fsl 1 (List.map c_L3 a1)),V 7 (.fsl 1 (List.map c_L3 x1)),V 8 (.fsl 1 (List.map cI x2)),V 28 (.osl 1 0 (List.length x3) 1)],[(1,.rows 1 (List.map c_L3 x3))],2⟩) rfl rfl rfl rfl (fun q _ hc=>aop_app (u:=.osl 0 0 (List.length ([]:List (List Int))) 1) (w:=.fsl 1 (List.map c_L3 x1)) (e:=23) (td:=.slice 23) (by kernel_rfl) (by kernel_rfl) (by kernel_rfl) (by kernel_rfl) (.inl ⟨_,rfl⟩) (appendOf_own (c:=c_L3) (sz:=1) (b:=24) (id:=0) (by kernel_rfl) (by kernel_rfl) rows_fsl q hc)) (fun q _ hc=>aop_app (u:=.osl 0 0 (List.length ([]:List (List Int))) 1) (w:=.fsl 1 (List.map c_L3 x1)) (e:=23) (td:=.slice 23) (by kernel_rfl) (by kernel_rfl) (by kernel_rfl) (by kernel_rfl) (.inl ⟨_,rfl⟩) (appendOf_same (c:=c_L3) (sz:=1) (b:=24) (m:=x1) (by kernel_rfl) (.inr (.inr ⟨_,_,_,_,rfl⟩)) rows_fsl q)) (fun _=>rfl) (fun _=>rfl) (fun _=>wkR [(1,some 1)] (fix_nil _) (pc (hL 1 (noid_map ni_L3 _)) allp_nil)) (fun q _ hc=>by cases app_same q hc; exact wkR [(1,some 0)] (fix_nil _) (pc (hL 0 (noid_map ni_L3 _)) allp_nil)) ?_
 intro x3 h3
 refine jG 3 1 ⟨[V 7 (.fsl 1 (List.map c_L3 x1)),V 8 (.fsl 1 (List.map cI x2)),V 28 (.osl 1 0 (List.length x3) 1),V 29 (.fsl 1 (List.map c_L3 a1))],[(1,.rows 1 (List.map c_L3 x3))],2⟩ ?_
 refine jK 4 (law29_few_ok a1) ?_
 intro x4 h4
 refine jr_two (i:=5) (C:=x4=[]) (st1:=fun x5=>⟨[V 7 (.fsl 1 (List.map c_L3 x1)),V 8 (.fsl 1 (List.map cI x2)),V 31 (.osl 2 0 (List.length x5) 1)],[(2,.rows 1 (List.map c_L3 x5))],3⟩) rfl rfl rfl rfl (fun q _ hc=>aop_app (u:=.osl 1 0 (List.length x3) 1) (w:=.fsl 1 (List.map c_L3 x4)) (e:=23) (td:=.slice 23) (by kernel_rfl) (by kernel_rfl) (by kernel_rfl) (by kernel_rfl) (.inl ⟨_,rfl⟩) (appendOf_own (c:=c_L3) (sz:=1) (b:=24) (id:=1) (by kernel_rfl) (by kernel_rfl) rows_fsl q hc)) (fun q _ hc=>aop_app (u:=.osl 1 0 (List.length x3) 1) (w:=.fsl 1 (List.map c_L3 x4)) (e:=23) (td:=.slice 23) (by kernel_rfl) (by kernel_rfl) (by kernel_rfl) (by kernel_rfl) (.inl ⟨_,rfl⟩) (appendOf_same (c:=c_L3) (sz:=1) (b:=24) (m:=x4) (by kernel_rfl) (.inr (.inr ⟨_,_,_,_,rfl⟩)) rows_fsl q)) (fun _=>rfl) (fun _=>rfl) (fun _=>wkR [(2,some 2)] (fix_nil _) (pc (hL 2 (noid_map ni_L3 _)) allp_nil)) (fun q _ hc=>by cases app_same q hc; exact wkR [(2,some 1)] (fix_nil _) (pc (hL 1 (noid_map ni_L3 _)) allp_nil)) ?_
 intro x5 h5
 refine jG 6 1 ⟨[V 7 (.fsl 1 (List.map c_L3 x1)),V 8 (.fsl 1 (List.map cI x2)),V 9 (.osl 2 0 (List.length x5) 1)],[(2,.rows 1 (List.map c_L3 x5))],3⟩ ?_
 refine jN ?_
 refine jR ?_
 refine jG 0 2 ⟨[V 7 (.fsl 1 (List.map c_L3 x1)),V 8 (.fsl 1 (List.map cI x2)),V 9 (.osl 2 0 (List.length x5) 1),V 33 (.fsl 1 (List.map c_L3 x1)),V 34 (.fsl 1 (List.map cI x2))],[(2,.rows 1 (List.map c_L3 x5))],3⟩ ?_
 refine jr_callM 2 [] [(4,some 1)] (fun r:List Int × Bool=>[(2,.rows 1 (List.map c_L3 x5)),(4,.rows 1 (List.map cI r.1))]) (fun r:List Int × Bool=>.tup [.osl 4 0 (List.length r.1) 1,bv r.2]) 5 (rup_Units_ok x1 x2) allp_nil (fun r=>(pc (.inl ⟨rfl,rfl⟩) (pc (.inr (hL 1 (noid_map ni_I _))) allp_nil))) ?_
 rintro⟨x6,x7⟩ hm2
 refine jG 3 5 ⟨[V 7 (.fsl 1 (List.map c_L3 x1)),V 8 (.fsl 1 (List.map cI x2)),V 9 (.osl 2 0 (List.length x5) 1),V 10 (.osl 4 0 (List.length x6) 1),V 11 (bv x7)],[(2,.rows 1 (List.map c_L3 x5)),(4,.rows 1 (List.map cI x6))],5⟩ ?_
 refine jN ?_
 refine jR ?_
 refine jG 0 2 ⟨[V 7 (.fsl 1 (List.map c_L3 x1)),V 8 (.fsl 1 (List.map cI x2)),V 9 (.osl 2 0 (List.length x5) 1),V 10 (.osl 4 0 (List.length x6) 1),V 11 (bv x7),V 39 (.osl 2 0 (List.length x5) 1),V 40 (.fsl 1 (List.map cI x2))],[(2,.rows 1 (List.map c_L3 x5)),(4,.rows 1 (List.map cI x6))],5⟩ ?_
 refine jr_callM 2 [(0,some 2)] [(2,some 0),(6,some 2)] (fun r:List Int × Bool=>[(2,.rows 1 (List.map c_L3 x5)),(4,.rows 1 (List.map cI x6)),(6,.rows 1 (List.map cI r.1))]) (fun r:List Int × Bool=>.tup [.osl 6 0 (List.length r.1) 1,bv r.2]) 7 (rup_Units_m2d81_ok x5 x2) (pc (hL 2 (noid_map ni_L3 _)) allp_nil) (fun r=>(pc (.inr (hL 0 (noid_map ni_L3 _))) (pc (.inl ⟨rfl,rfl⟩) (pc (.inr (hL 2 (noid_map ni_I _))) allp_nil)))) ?_
 rintro⟨x8,x9⟩ hm1
 refine jG 3 5 ⟨[V 7 (.fsl 1 (List.map c_L3 x1)),V 8 (.fsl 1 (List.map cI x2)),V 9 (.osl 2 0 (List.length x5) 1),V 10 (.osl 4 0 (List.length x6) 1),V 11 (bv x7),V 12 (.osl 6 0 (List.length x8) 1),V 13 (bv x9)],[(2,.rows 1 (List.map c_L3 x5)),(4,.rows 1 (List.map cI x6)),(6,.rows 1 (List.map cI x8))],7⟩ ?_
 refine jN ?_
 refine jc_seq ?_
 refine jR ?_
 refine jG 0 6 ⟨[V 7 (.fsl 1 (List.map c_L3 x1)),V 8 (.fsl 1 (List.map cI x2)),V 9 (.osl 2 0 (List.length x5) 1),V 10 (.osl 4 0 (List.length x6) 1),V 12 (.osl 6 0 (List.length x8) 1),V 13 (bv x9),V 49 (bv (x7 && (!x9)))],[(2,.rows 1 (List.map c_L3 x5)),(4,.rows 1 (List.map cI x6)),(6,.rows 1 (List.map cI x8))],7⟩ ?_
 refine jr_bind 6 10 (fun x13=>⟨[V 10 (.osl 0 0 (List.length x6) 1),V 12 (.osl 1 0 (List.length x8) 1),V 13 (bv x9),V 59 (bv x13)],[(0,.rows 1 (List.map cI x6)),(1,.rows 1 (List.map cI x8))],2⟩) ?_ ?_
 ·refine jSp 49 ?_ ?_
  ·refine jG 0 10 ⟨[V 10 (.osl 4 0 (List.length x6) 1),V 12 (.osl 6 0 (List.length x8) 1),V 13 (bv x9),V 59 (bv true)],[(4,.rows 1 (List.map cI x6)),(6,.rows 1 (List.map cI x8))],7⟩ ?_
   refine jr_nil rfl ?_
   exact jx_mid rfl (wkR [(0,some 4),(1,some 6)] (fix_nil _) (pc (hL 4 (noid_map ni_I _)) (pc (hL 6 (noid_map ni_I _)) allp_nil)))
  refine jG 0 2 ⟨[V 8 (.fsl 1 (List.map cI x2)),V 9 (.osl 2 0 (List.length x5) 1),V 10 (.osl 4 0 (List.length x6) 1),V 12 (.osl 6 0 (List.length x8) 1),V 13 (bv x9),(49,.lit false),V 50 (.fsl 1 (List.map c_L3 x1)),V 51 (.fsl 1 (List.map cI x2))],[(2,.rows 1 (List.map c_L3 x5)),(4,.rows 1 (List.map cI x6)),(6,.rows 1 (List.map cI x8))],7⟩ ?_
  refine jK 2 (rup_Step_ok x1 x2) ?_
  intro x14 h14
  refine jG 3 1 ⟨[V 8 (.fsl 1 (List.map cI x2)),V 9 (.osl 2 0 (List.length x5) 1),V 10 (.osl 4 0 (List.length x6) 1),V 12 (.osl 6 0 (List.length x8) 1),V 13 (bv x9),(49,.lit false),V 53 (bv x14)],[(2,.rows 1 (List.map c_L3 x5)),(4,.rows 1 (List.map cI x6)),(6,.rows 1 (List.map cI x8))],7⟩ ?_
  refine jr_bind 4 5 (fun x16=>⟨[V 10 (.osl 0 0 (List.length x6) 1),V 12 (.osl 1 0 (List.length x8) 1),V 13 (bv x9),V 49 (bv false),V 58 (bv x16)],[(0,.rows 1 (List.map cI x6)),(1,.rows 1 (List.map cI x8))],2⟩) ?_ ?_
  ·refine jSp 53 ?_ ?_
   ·refine jG 0 2 ⟨[V 10 (.osl 4 0 (List.length x6) 1),V 12 (.osl 6 0 (List.length x8) 1),V 13 (bv x9),(49,.lit false),(53,.lit true),V 54 (.osl 2 0 (List.length x5) 1),V 55 (.fsl 1 (List.map cI x2))],[(2,.rows 1 (List.map c_L3 x5)),(4,.rows 1 (List.map cI x6)),(6,.rows 1 (List.map cI x8))],7⟩ ?_
    refine jr_callF (i:=2) rfl rfl rfl rfl (vs:=[.osl 2 0 (List.length x5) 1,.fsl 1 (List.map cI x2)]) (by kernel_rfl) (snapL_cons (snapc_own fz_L3 (by kernel_rfl)) (snapL_cons rfl (snapL_nil _))) (all2_cons (fle_refl _) (all2_cons (fle_refl _) all2_nil)) (rup_Step_ok x5 x2) (fun _=>rfl) (fun _=>rfl) ?_
    intro x17 h17
    refine jG 3 2 ⟨[V 10 (.osl 4 0 (List.length x6) 1),V 12 (.osl 6 0 (List.length x8) 1),V 13 (bv x9),(49,.lit false),V 58 (bv (!x17))],[(4,.rows 1 (List.map cI x6)),(6,.rows 1 (List.map cI x8))],7⟩ ?_
    refine jr_nil rfl ?_
    exact jx_mid rfl (wkR [(0,some 4),(1,some 6)] (fix_nil _) (pc (hL 4 (noid_map ni_I _)) (pc (hL 6 (noid_map ni_I _)) allp_nil)))
   refine jG 0 5 ⟨[V 10 (.osl 4 0 (List.length x6) 1),V 12 (.osl 6 0 (List.length x8) 1),V 13 (bv x9),(49,.lit false),V 58 (bv false)],[(4,.rows 1 (List.map cI x6)),(6,.rows 1 (List.map cI x8))],7⟩ ?_
   refine jr_nil rfl ?_
   exact jx_mid rfl (wkR [(0,some 4),(1,some 6)] (fix_nil _) (pc (hL 4 (noid_map ni_I _)) (pc (hL 6 (noid_map ni_I _)) allp_nil)))
  intro x16
  refine jG 9 1 ⟨[V 10 (.osl 0 0 (List.length x6) 1),V 12 (.osl 1 0 (List.length x8) 1),V 13 (bv x9),V 59 (bv (false || x16))],[(0,.rows 1 (List.map cI x6)),(1,.rows 1 (List.map cI x8))],2⟩ ?_
  refine jr_nil rfl ?_
  exact jx_mid rfl (wkR [(0,some 0),(1,some 1)] (fix_nil _) (pc (hL 0 (noid_map ni_I _)) (pc (hL 1 (noid_map ni_I _)) allp_nil)))
 intro x13
 refine jN ?_
 refine jIf ?_ ?_
 ·refine jS ⟨[V 6 (bv false)],[],2⟩ ?_
  refine jc_ret ?_
  refine jx_seqR ?_
  exact jx_retF (.inr rfl) (v:=bv false) (by kernel_rfl) rfl (fle_refl _)
 refine jc_skip ?_
 refine jx_seqN ?_
 refine jc_seq ?_
 refine jS ⟨[V 12 (.osl 1 0 (List.length x8) 1),V 13 (bv x9),V 60 (.osl 0 0 (List.length x6) 1),V 61 (iv (List.length x6:Int)),V 62 (iv 0)],[(0,.rows 1 (List.map cI x6)),(1,.rows 1 (List.map cI x8))],2⟩ ?_
 refine jc_block ?_
 refine jc_bind (fun y=>match y with | Sum.inl _=>⟨[V 6 (bv false)],[],0⟩ | Sum.inr _=>⟨[],[],0⟩) (fun y=>match y with | Sum.inl _=>.ret | Sum.inr _=>(.exit 0)) (jc_loop (fun x26=>⟨[V 12 (.osl 0 0 (List.length x8) 1),V 13 (bv x9),V 60 (.osl 1 0 (List.length x6) 1),V 61 (iv (List.length x6:Int)),V 62 (iv x26)],[(0,.rows 1 (List.map cI x8)),(1,.rows 1 (List.map cI x6))],2⟩) (wkR [(0,some 1),(1,some 0)] (fix_nil _) (pc (hL 1 (noid_map ni_I _)) (pc (hL 0 (noid_map ni_I _)) allp_nil))) ?_) ?_
 ·intro x26
  unfold law29_RupMore_l2
  refine jS ⟨[V 12 (.osl 0 0 (List.length x8) 1),V 13 (bv x9),V 60 (.osl 1 0 (List.length x6) 1),V 61 (iv (List.length x6:Int)),V 62 (iv x26),V 63 (bv (decide (x26 < (List.length x6:Int))))],[(0,.rows 1 (List.map cI x8)),(1,.rows 1 (List.map cI x6))],2⟩ ?_
  refine jc_seq ?_
  refine jIf ?_ ?_
  ·refine jc_skip ?_
   refine jx_seqN ?_
   refine jc_seq ?_
   refine jc_block ?_
   refine jR ?_
   refine jr_part (i:=0) (mo:=ixl x6 x26) rfl rfl rfl rfl (fun _ hc=>aop_ixo0 (sz:=1) (e:=3) (kk:=.i64) (id:=1) (by kernel_rfl) (by kernel_rfl) (by kernel_rfl) (by kernel_rfl) hc) (fun _=>rfl) ?_
   intro x36 h36
   refine jr_one (i:=1) (v:=iv x36) rfl rfl rfl rfl (aop_ldo (l:=x6) (c:=cI) (id:=1) (k:=(Int.toNat x26)) (sz:=1) (off:=0) (a:=x36) (by kernel_rfl) (by kernel_rfl) (ixl_lt h36).2.2 (by kernel_rfl)) rfl ?_
   refine jG 2 1 ⟨[V 12 (.osl 0 0 (List.length x8) 1),V 13 (bv x9),V 15 (iv x36),V 60 (.osl 1 0 (List.length x6) 1),V 61 (iv (List.length x6:Int)),V 62 (iv x26)],[(0,.rows 1 (List.map cI x8)),(1,.rows 1 (List.map cI x6))],2⟩ ?_
   refine jN ?_
   refine jS ⟨[V 12 (.osl 0 0 (List.length x8) 1),V 13 (bv x9),V 15 (iv x36),V 16 (bv x9),V 60 (.osl 1 0 (List.length x6) 1),V 61 (iv (List.length x6:Int)),V 62 (iv x26)],[(0,.rows 1 (List.map cI x8)),(1,.rows 1 (List.map cI x6))],2⟩ ?_
   refine jc_seq ?_
   refine jS ⟨[V 12 (.osl 0 0 (List.length x8) 1),V 13 (bv x9),V 15 (iv x36),V 16 (bv x9),V 60 (.osl 1 0 (List.length x6) 1),V 61 (iv (List.length x6:Int)),V 62 (iv x26),V 67 (.osl 0 0 (List.length x8) 1),V 68 (iv (List.length x8:Int)),V 69 (iv 0)],[(0,.rows 1 (List.map cI x8)),(1,.rows 1 (List.map cI x6))],2⟩ ?_
   refine jc_block ?_
   refine jc_bind (fun x43=>⟨[V 12 (.osl 0 0 (List.length x8) 1),V 13 (bv x9),V 16 (bv x43),V 60 (.osl 1 0 (List.length x6) 1),V 61 (iv (List.length x6:Int)),V 62 (iv x26)],[(0,.rows 1 (List.map cI x8)),(1,.rows 1 (List.map cI x6))],2⟩) (fun x43=>(.exit 2)) (jc_loop (fun (x38,x39)=>⟨[V 12 (.osl 0 0 (List.length x8) 1),V 13 (bv x9),V 15 (iv x36),V 16 (bv x38),V 60 (.osl 1 0 (List.length x6) 1),V 61 (iv (List.length x6:Int)),V 62 (iv x26),V 67 (.osl 0 0 (List.length x8) 1),V 68 (iv (List.length x8:Int)),V 69 (iv x39)],[(0,.rows 1 (List.map cI x8)),(1,.rows 1 (List.map cI x6))],2⟩) (wkR [(0,some 0),(1,some 1)] (fix_nil _) (pc (hL 0 (noid_map ni_I _)) (pc (hL 1 (noid_map ni_I _)) allp_nil))) ?_) ?_
   ·rintro⟨x38,x39⟩
    unfold law29_RupMore_l1
    refine jS ⟨[V 12 (.osl 0 0 (List.length x8) 1),V 13 (bv x9),V 15 (iv x36),V 16 (bv x38),V 60 (.osl 1 0 (List.length x6) 1),V 61 (iv (List.length x6:Int)),V 62 (iv x26),V 67 (.osl 0 0 (List.length x8) 1),V 68 (iv (List.length x8:Int)),V 69 (iv x39),V 70 (bv (decide (x39 < (List.length x8:Int))))],[(0,.rows 1 (List.map cI x8)),(1,.rows 1 (List.map cI x6))],2⟩ ?_
    refine jc_seq ?_
    refine jIf ?_ ?_
    ·refine jc_skip ?_
     refine jx_seqN ?_
     refine jc_seq ?_
     refine jc_block ?_
     refine jR ?_
     refine jr_part (i:=0) (mo:=ixl x8 x39) rfl rfl rfl rfl (fun _ hc=>aop_ixo0 (sz:=1) (e:=3) (kk:=.i64) (id:=0) (by kernel_rfl) (by kernel_rfl) (by kernel_rfl) (by kernel_rfl) hc) (fun _=>rfl) ?_
     intro x44 h44
     refine jr_one (i:=1) (v:=iv x44) rfl rfl rfl rfl (aop_ldo (l:=x8) (c:=cI) (id:=0) (k:=(Int.toNat x39)) (sz:=1) (off:=0) (a:=x44) (by kernel_rfl) (by kernel_rfl) (ixl_lt h44).2.2 (by kernel_rfl)) rfl ?_
     refine jG 2 1 ⟨[V 12 (.osl 0 0 (List.length x8) 1),V 13 (bv x9),V 15 (iv x36),V 16 (bv x38),V 18 (iv x44),V 60 (.osl 1 0 (List.length x6) 1),V 61 (iv (List.length x6:Int)),V 62 (iv x26),V 67 (.osl 0 0 (List.length x8) 1),V 68 (iv (List.length x8:Int)),V 69 (iv x39)],[(0,.rows 1 (List.map cI x8)),(1,.rows 1 (List.map cI x6))],2⟩ ?_
     refine jN ?_
     refine jT ⟨[V 12 (.osl 0 0 (List.length x8) 1),V 13 (bv x9),V 15 (iv x36),V 16 (bv (x38 || (x36 == x44))),V 60 (.osl 1 0 (List.length x6) 1),V 61 (iv (List.length x6:Int)),V 62 (iv x26),V 67 (.osl 0 0 (List.length x8) 1),V 68 (iv (List.length x8:Int)),V 69 (iv x39)],[(0,.rows 1 (List.map cI x8)),(1,.rows 1 (List.map cI x6))],2⟩ ?_
     refine jx_blkN ?_
     refine jx_seqN ?_
     refine jT ⟨[V 12 (.osl 0 0 (List.length x8) 1),V 13 (bv x9),V 15 (iv x36),V 16 (bv (x38 || (x36 == x44))),V 60 (.osl 1 0 (List.length x6) 1),V 61 (iv (List.length x6:Int)),V 62 (iv x26),V 67 (.osl 0 0 (List.length x8) 1),V 68 (iv (List.length x8:Int)),V 69 (iv (w64 (x39 + 1)))],[(0,.rows 1 (List.map cI x8)),(1,.rows 1 (List.map cI x6))],2⟩ ?_
     exact jx_next (wkR [(0,some 0),(1,some 1)] (fix_nil _) (pc (hL 0 (noid_map ni_I _)) (pc (hL 1 (noid_map ni_I _)) allp_nil)))
    refine jc_exit ?_
    refine jx_seqE ?_
    exact jx_done rfl nofun (wkR [(0,some 0),(1,some 1)] (fix_nil _) (pc (hL 0 (noid_map ni_I _)) (pc (hL 1 (noid_map ni_I _)) allp_nil)))
   intro x43
   refine jx_blkE ?_
   refine jx_seqN ?_
   refine jS ⟨[V 12 (.osl 0 0 (List.length x8) 1),V 13 (bv x9),V 60 (.osl 1 0 (List.length x6) 1),V 61 (iv (List.length x6:Int)),V 62 (iv x26),V 81 (bv (!x43))],[(0,.rows 1 (List.map cI x8)),(1,.rows 1 (List.map cI x6))],2⟩ ?_
   refine jIf ?_ ?_
   ·refine jS ⟨[V 6 (bv false)],[],2⟩ ?_
    refine jc_ret ?_
    refine jx_blkR ?_
    refine jx_seqR ?_
    exact jx_done rfl nofun (wkR [] (fix_nil _) allp_nil)
   refine jc_skip ?_
   refine jx_blkN ?_
   refine jx_seqN ?_
   refine jT ⟨[V 12 (.osl 0 0 (List.length x8) 1),V 13 (bv x9),V 60 (.osl 1 0 (List.length x6) 1),V 61 (iv (List.length x6:Int)),V 62 (iv (w64 (x26 + 1)))],[(0,.rows 1 (List.map cI x8)),(1,.rows 1 (List.map cI x6))],2⟩ ?_
   exact jx_next (wkR [(0,some 0),(1,some 1)] (fix_nil _) (pc (hL 0 (noid_map ni_I _)) (pc (hL 1 (noid_map ni_I _)) allp_nil)))
  refine jc_exit ?_
  refine jx_seqE ?_
  exact jx_done rfl nofun (wkR [] (fix_nil _) allp_nil)
 rintro (_ | _)
 ·refine jx_blkR ?_
  refine jx_seqR ?_
  exact jx_retF (.inr rfl) (v:=bv false) (by kernel_rfl) rfl (fle_refl _)
 refine jx_blkE ?_
 refine jx_seqN ?_
 refine jR ?_
 refine jK 0 (law29_awake_ok) ?_
 intro x45 h45
 refine jG 1 1 ⟨[V 6 (bv x45)],[],0⟩ ?_
 refine jN ?_
 refine jc_ret ?_
 exact jx_retF (.inr rfl) (v:=bv x45) (by kernel_rfl) rfl (fle_refl _))
end Go.Vm

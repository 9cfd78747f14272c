/- The law RupSound, a part of its proof: what the functions that it reaches compute. -/
import Derived.Test.YtgkpnkfbhhfonaaDoorDx7d2469ff
import Derived.Test.YtgkpnkfbhhfonaaDoorW29RupSound
set_option linter.unusedVariables false
set_option linter.unusedSimpArgs false
set_option linter.unusedVariables false
namespace Go.Vm
open Go
abbrev c_L3 (x:List Int):List AV:=[.fsl 1 (List.map cI x)]
theorem ni_L3 (x:List Int):NoIds (c_L3 x):=noids_cons (noid_fsl _ _) noids_nil
theorem fz_L3 (x:List Int):Frz (c_L3 x):=frz_fsl frz_nil
set_option maxRecDepth 100000
set_option maxHeartbeats 0
set_option linter.unusedSimpArgs false
abbrev slices_Index_int_int_r1:List LO:=[lo 4 (.assign (.const (.int .i64 0))) 3]
abbrev slices_Index_int_int_r2:List LO:=[lm 6 0 29,lo 7 (.call ⟨.builtin .len,#[.tmp 6],#[29]⟩) 3,lo 8 (.move (.const (.int .i64 0))) 3]
abbrev slices_Index_int_int_r3:List LO:=[lo 9 (.binOp .lss 3 (.tmp 8) (.tmp 7) 3) 0]
abbrev slices_Index_int_int_r4:List LO:=[lm 10 8 3,lo 5 (.assign (.tmp 10)) 3]
abbrev slices_Index_int_int_r5:List LO:=[lm 11 1 3,lm 12 0 29,lm 13 5 3,lo 14 (.indexAddr 29 (.tmp 12) (.tmp 13)) 0,lo 15 (.load 3 (.tmp 14)) 3,lo 16 (.binOp .eql 3 (.tmp 11) (.tmp 15) 3) 4]
abbrev slices_Index_int_int_r6:List LO:=[lm 17 5 3,lo 4 (.assign (.tmp 17)) 3]
abbrev slices_Index_int_int_r7:List LO:=[lo 18 (.binOp .add 3 (.tmp 8) (.const (.int .i64 1)) 3) 3,lm 8 18 3]
abbrev slices_Index_int_int_r8:List LO:=[lo 4 (.assign (.const (.int .i64 (-1)))) 3]
abbrev slices_Index_int_int_c:LC:=.seq (.reg false slices_Index_int_int_r1) (.seq (.seq (.reg false slices_Index_int_int_r2) (.block 0 (.loop (.seq (.reg false slices_Index_int_int_r3) (.seq (.cond (.tmp 9) .skip (.exit 0)) (.seq (.block 1 (.seq (.reg false slices_Index_int_int_r4) (.seq (.reg false slices_Index_int_int_r5) (.cond (.tmp 16) (.seq (.reg false slices_Index_int_int_r6) .ret) .skip)))) (.reg false slices_Index_int_int_r7))))))) (.seq (.reg false slices_Index_int_int_r8) .ret))
theorem slices_Index_int_int_k:FnOk E 68 19 [.tmp 4] slices_Index_int_int_c:=⟨⟨Go.Proofs.Tryd.f68,by kernel_rfl,by kernel_rfl,by kernel_rfl,by kernel_rfl,by kernel_rfl⟩,rfl,rfl⟩
noncomputable def slices_Index_int_int_l1 (a0:(List Int)) (a1:Int):Int→Option (Step (Int) ((Int) ⊕ (Unit))):=fun x2=>(if (decide (x2 < (List.length a0:Int)))=true then Option.bind (ixl a0 x2) (fun x6=>(if (a1 == x6)=true then some (Step.done (Sum.inl x2)) else some (Step.next (w64 (x2 + 1))))) else some (Step.done (Sum.inr ())))
noncomputable def slices_Index_int_int (a0:(List Int)) (a1:Int):Option (Int):=Option.bind (loopC (slices_Index_int_int_l1 a0 a1) 0) (fun y=>match y with | Sum.inl x5=>some x5 | Sum.inr _=>some (-1))
theorem slices_Index_int_int_ok (a0:(List Int)) (a1:Int):Ct E 68 [.fsl 1 (List.map cI a0),iv a1] (slices_Index_int_int a0 a1) (fun r:Int=>iv r):=ct_intro (N:=19) (L:=slices_Index_int_int_c) slices_Index_int_int_k rfl (Nat.le_of_ble_eq_true rfl) (by kernel_rfl) (by
 unfold slices_Index_int_int
 refine jS ⟨[V 0 (.fsl 1 (List.map cI a0)),V 1 (iv a1)],[],0⟩ ?_
 refine jc_seq ?_
 refine jR ?_
 refine jG 0 3 ⟨[V 0 (.fsl 1 (List.map cI a0)),V 1 (iv a1),V 7 (iv (List.length (List.map cI a0):Int)),V 8 (iv 0)],[],0⟩ ?_
 simp only[List.length_map]
 refine jN ?_
 refine jc_block ?_
 refine jc_bind (fun y=>match y with | Sum.inl x5=>⟨[V 4 (iv x5)],[],0⟩ | Sum.inr _=>⟨[],[],0⟩) (fun y=>match y with | Sum.inl x5=>.ret | Sum.inr _=>(.exit 0)) (jc_loop (fun x2=>⟨[V 0 (.fsl 1 (List.map cI a0)),V 1 (iv a1),V 7 (iv (List.length a0:Int)),V 8 (iv x2)],[],0⟩) (wkR [] (fix_nil _) allp_nil) ?_) ?_
 ·intro x2
  unfold slices_Index_int_int_l1
  refine jS ⟨[V 0 (.fsl 1 (List.map cI a0)),V 1 (iv a1),V 7 (iv (List.length a0:Int)),V 8 (iv x2),V 9 (bv (decide (x2 < (List.length a0:Int))))],[],0⟩ ?_
  refine jc_seq ?_
  refine jIf ?_ ?_
  ·refine jc_skip ?_
   refine jx_seqN ?_
   refine jc_seq ?_
   refine jc_block ?_
   refine jS ⟨[V 0 (.fsl 1 (List.map cI a0)),V 1 (iv a1),V 5 (iv x2),V 7 (iv (List.length a0:Int)),V 8 (iv x2)],[],0⟩ ?_
   refine jR ?_
   refine jG 0 3 ⟨[V 0 (.fsl 1 (List.map cI a0)),V 1 (iv a1),V 5 (iv x2),V 7 (iv (List.length a0:Int)),V 8 (iv x2),V 11 (iv a1),V 12 (.fsl 1 (List.map cI a0)),V 13 (iv x2)],[],0⟩ ?_
   refine jr_part (i:=3) (mo:=ixl a0 x2) rfl rfl rfl rfl (fun _ hc=>aop_ixf (c:=cI) (sz:=1) (e:=3) (kk:=.i64) (by kernel_rfl) (by kernel_rfl) (by kernel_rfl) (by kernel_rfl) hc) (fun _=>rfl) ?_
   intro x6 h6
   refine jG 4 2 ⟨[V 0 (.fsl 1 (List.map cI a0)),V 1 (iv a1),V 5 (iv x2),V 7 (iv (List.length a0:Int)),V 8 (iv x2),V 16 (bv (a1 == x6))],[],0⟩ ?_
   refine jN ?_
   refine jIf ?_ ?_
   ·refine jS ⟨[V 4 (iv x2)],[],0⟩ ?_
    refine jc_ret ?_
    refine jx_blkR ?_
    refine jx_seqR ?_
    exact jx_done rfl nofun (wkR [] (fix_nil _) allp_nil)
   refine jc_skip ?_
   refine jx_blkN ?_
   refine jx_seqN ?_
   refine jT ⟨[V 0 (.fsl 1 (List.map cI a0)),V 1 (iv a1),V 7 (iv (List.length a0:Int)),V 8 (iv (w64 (x2 + 1)))],[],0⟩ ?_
   exact jx_next (wkR [] (fix_nil _) allp_nil)
  refine jc_exit ?_
  refine jx_seqE ?_
  exact jx_done rfl nofun (wkR [] (fix_nil _) allp_nil)
 rintro (x5 | _)
 ·refine jx_blkR ?_
  refine jx_seqR ?_
  exact jx_retF (.inr rfl) (v:=iv x5) (by kernel_rfl) rfl (fle_refl _)
 refine jx_blkE ?_
 refine jx_seqN ?_
 refine jS ⟨[V 4 (iv (-1))],[],0⟩ ?_
 refine jc_ret ?_
 exact jx_retF (.inr rfl) (v:=iv (-1)) (by kernel_rfl) rfl (fle_refl _))
abbrev slices_Contains_int_int_r1:List LO:=[lo 4 (.assign (.const (.bool false))) 4]
abbrev slices_Contains_int_int_r2:List LO:=[lm 5 0 29,lm 6 1 3,lo 7 (.call ⟨.value (.func 68),#[.tmp 5,.tmp 6],#[29,3]⟩) 3,lo 8 (.binOp .geq 3 (.tmp 7) (.const (.int .i64 0)) 3) 4,lo 4 (.assign (.tmp 8)) 4]
abbrev slices_Contains_int_int_c:LC:=.seq (.reg false slices_Contains_int_int_r1) (.seq (.reg false slices_Contains_int_int_r2) .ret)
theorem slices_Contains_int_int_k:FnOk E 55 9 [.tmp 4] slices_Contains_int_int_c:=⟨⟨Go.Proofs.Tryd.f55,by kernel_rfl,by kernel_rfl,by kernel_rfl,by kernel_rfl,by kernel_rfl⟩,rfl,rfl⟩
noncomputable def slices_Contains_int_int (a0:(List Int)) (a1:Int):Option (Bool):=Option.bind (slices_Index_int_int a0 a1) (fun x1=>some (decide (x1≥0)))
theorem slices_Contains_int_int_ok (a0:(List Int)) (a1:Int):Ct E 55 [.fsl 1 (List.map cI a0),iv a1] (slices_Contains_int_int a0 a1) (fun r:Bool=>bv r):=ct_intro (N:=9) (L:=slices_Contains_int_int_c) slices_Contains_int_int_k rfl (Nat.le_of_ble_eq_true rfl) (by kernel_rfl) (by
 unfold slices_Contains_int_int
 refine jS ⟨[V 0 (.fsl 1 (List.map cI a0)),V 1 (iv a1)],[],0⟩ ?_
 refine jR ?_
 refine jG 0 2 ⟨[V 5 (.fsl 1 (List.map cI a0)),V 6 (iv a1)],[],0⟩ ?_
 refine jK 2 (slices_Index_int_int_ok a0 a1) ?_
 intro x1 h1
 refine jG 3 2 ⟨[V 4 (bv (decide (x1≥0)))],[],0⟩ ?_
 refine jN ?_
 refine jc_ret ?_
 exact jx_retF (.inr rfl) (v:=bv (decide (x1≥0))) (by kernel_rfl) rfl (fle_refl _))
abbrev rup_literal_r1:List LO:=[lo 2 (.assign (.const (.bool false))) 4]
abbrev rup_literal_r2:List LO:=[lm 3 0 3,lo 4 (.binOp .neq 3 (.tmp 3) (.const (.int .i64 0)) 3) 4,lm 5 4 4,lmg 6 0 3 5 true,lg 7 (.binOp .leq 3 (.tmp 6) (.const (.int .i64 4096)) 3) 4 5 true,lo 8 (.pick (.tmp 5) (.tmp 7) (.const (.bool false))) 4,lm 9 8 4,lmg 10 0 3 9 true,lg 11 (.binOp .geq 3 (.tmp 10) (.const (.int .i64 (-4096))) 3) 4 9 true,lo 12 (.pick (.tmp 9) (.tmp 11) (.const (.bool false))) 4,lo 2 (.assign (.tmp 12)) 4]
abbrev rup_literal_c:LC:=.seq (.reg false rup_literal_r1) (.seq (.reg false rup_literal_r2) .ret)
theorem rup_literal_k:FnOk E 24 13 [.tmp 2] rup_literal_c:=⟨⟨Go.Proofs.Tryd.f24,by kernel_rfl,by kernel_rfl,by kernel_rfl,by kernel_rfl,by kernel_rfl⟩,rfl,rfl⟩
noncomputable def rup_literal (a0:Int):Option (Bool):=some (((a0 != 0) && (decide (a0≤4096))) && (decide (a0≥(-4096))))
theorem rup_literal_ok (a0:Int):Ct E 24 [iv a0] (rup_literal a0) (fun r:Bool=>bv r):=ct_intro (N:=13) (L:=rup_literal_c) rup_literal_k rfl (Nat.le_of_ble_eq_true rfl) (by kernel_rfl) (by
 unfold rup_literal
 refine jS ⟨[V 0 (iv a0)],[],0⟩ ?_
 refine jS ⟨[V 2 (bv (((a0 != 0) && (decide (a0≤4096))) && (decide (a0≥(-4096)))))],[],0⟩ ?_
 refine jc_ret ?_
 exact jx_retF (.inr rfl) (v:=bv (((a0 != 0) && (decide (a0≤4096))) && (decide (a0≥(-4096))))) (by kernel_rfl) rfl (fle_refl _))
abbrev rup_sheet_open_1_it_r1:List LO:=[lo 9 (.load 22 (.tmp 1)) 22,lo 10 (.call ⟨.builtin .len,#[.tmp 9],#[22]⟩) 3,lo 11 (.move (.const (.int .i64 0))) 3]
abbrev rup_sheet_open_1_it_r2:List LO:=[lo 12 (.binOp .lss 3 (.tmp 11) (.tmp 10) 3) 0]
abbrev rup_sheet_open_1_it_r3:List LO:=[lo 13 (.indexAddr 22 (.tmp 9) (.tmp 11)) 0,lo 14 (.load 29 (.tmp 13)) 29,lo 5 (.assign (.tmp 14)) 29]
abbrev rup_sheet_open_1_it_r4:List LO:=[lm 15 5 29,lo 16 (.makeFunc (Fn.func 54) #[] #[.tmp 2]) 35,lo 17 (.call ⟨.value (.func 53),#[.tmp 15,.tmp 16],#[29,35]⟩) 4]
abbrev rup_sheet_open_1_it_r5:List LO:=[lo 6 (.assign (.const (.slice none 0 0))) 29]
abbrev rup_sheet_open_1_it_r6:List LO:=[lm 18 5 29,lo 19 (.call ⟨.builtin .len,#[.tmp 18],#[29]⟩) 3,lo 20 (.move (.const (.int .i64 0))) 3]
abbrev rup_sheet_open_1_it_r7:List LO:=[lo 21 (.binOp .lss 3 (.tmp 20) (.tmp 19) 3) 0]
abbrev rup_sheet_open_1_it_r8:List LO:=[lo 22 (.indexAddr 29 (.tmp 18) (.tmp 20)) 0,lo 23 (.load 3 (.tmp 22)) 3,lo 8 (.assign (.tmp 23)) 3]
abbrev rup_sheet_open_1_it_r9:List LO:=[lo 24 (.load 56 (.tmp 2)) 56,lm 25 8 3,lo 26 (.unOp .neg 3 (.tmp 25)) 3,lo 27 (.call ⟨.value (.func 37),#[.tmp 24,.tmp 26],#[56,3]⟩) 4,lo 28 (.unOp .not 4 (.tmp 27)) 4,lm 29 28 4,lmg 30 6 29 29 true,lmg 31 8 3 29 true,lg 32 (.call ⟨.value (.func 55),#[.tmp 30,.tmp 31],#[29,3]⟩) 4 29 true,lg 33 (.unOp .not 4 (.tmp 32)) 4 29 true,lo 34 (.pick (.tmp 29) (.tmp 33) (.const (.bool false))) 4]
abbrev rup_sheet_open_1_it_r10:List LO:=[lm 35 6 29,lm 36 8 3,lo 37 (.buildSlice 29 1 #[(0,.tmp 36)]) 29,lo 38 (.call ⟨.builtin .append,#[.tmp 35,.tmp 37],#[29,29]⟩) 29,lo 6 (.assign (.tmp 38)) 29]
abbrev rup_sheet_open_1_it_r11:List LO:=[lo 39 (.binOp .add 3 (.tmp 20) (.const (.int .i64 1)) 3) 3,lm 20 39 3]
abbrev rup_sheet_open_1_it_r12:List LO:=[lm 40 0 39,lm 41 6 29,lo 42 (.call ⟨.value (.tmp 40),#[.tmp 41],#[29]⟩) 4,lo 43 (.unOp .not 4 (.tmp 42)) 4]
abbrev rup_sheet_open_1_it_r13:List LO:=[lo 44 (.binOp .add 3 (.tmp 11) (.const (.int .i64 1)) 3) 3,lm 11 44 3]
abbrev rup_sheet_open_1_it_c:LC:=.seq (.reg false rup_sheet_open_1_it_r1) (.block 0 (.loop (.seq (.reg false rup_sheet_open_1_it_r2) (.seq (.cond (.tmp 12) .skip (.exit 0)) (.seq (.block 1 (.seq (.reg false rup_sheet_open_1_it_r3) (.seq (.seq (.reg false rup_sheet_open_1_it_r4) (.cond (.tmp 17) (.exit 1) .skip)) (.seq (.reg false rup_sheet_open_1_it_r5) (.seq (.seq (.reg false rup_sheet_open_1_it_r6) (.block 2 (.loop (.seq (.reg false rup_sheet_open_1_it_r7) (.seq (.cond (.tmp 21) .skip (.exit 2)) (.seq (.block 3 (.seq (.reg false rup_sheet_open_1_it_r8) (.seq (.reg false rup_sheet_open_1_it_r9) (.cond (.tmp 34) (.reg false rup_sheet_open_1_it_r10) .skip)))) (.reg false rup_sheet_open_1_it_r11))))))) (.seq (.reg false rup_sheet_open_1_it_r12) (.cond (.tmp 43) .ret .skip))))))) (.reg false rup_sheet_open_1_it_r13))))))
theorem rup_sheet_open_1_it_k:FnOk E 52 45 [] rup_sheet_open_1_it_c:=⟨⟨Go.Proofs.Tryd.f52,by kernel_rfl,by kernel_rfl,by kernel_rfl,by kernel_rfl,by kernel_rfl⟩,rfl,rfl⟩
abbrev rup_sheet_isTrue_r1:List LO:=[lo 4 (.assign (.const (.bool false))) 4]
abbrev rup_sheet_isTrue_r2:List LO:=[lm 5 0 56,lm 6 1 3,lo 7 (.lookup 56 (.tmp 5) (.tmp 6) false) 3,lo 8 (.binOp .gtr 3 (.tmp 7) (.const (.int .i64 0)) 3) 4,lo 4 (.assign (.tmp 8)) 4]
abbrev rup_sheet_isTrue_c:LC:=.seq (.reg false rup_sheet_isTrue_r1) (.seq (.reg false rup_sheet_isTrue_r2) .ret)
theorem rup_sheet_isTrue_k:FnOk E 37 9 [.tmp 4] rup_sheet_isTrue_c:=⟨⟨Go.Proofs.Tryd.f37,by kernel_rfl,by kernel_rfl,by kernel_rfl,by kernel_rfl,by kernel_rfl⟩,rfl,rfl⟩
noncomputable def rup_sheet_isTrue (a0:(List (Int × Int))) (a1:Int):Option (Bool):=some (decide ((mget a0 a1) > 0))
theorem rup_sheet_isTrue_ok (a0:(List (Int × Int))) (a1:Int):Ct E 37 [.fmp (fM a0),iv a1] (rup_sheet_isTrue a0 a1) (fun r:Bool=>bv r):=ct_intro (N:=9) (L:=rup_sheet_isTrue_c) rup_sheet_isTrue_k rfl (Nat.le_of_ble_eq_true rfl) (by kernel_rfl) (by
 unfold rup_sheet_isTrue
 refine jS ⟨[V 0 (.fmp (fM a0)),V 1 (iv a1)],[],0⟩ ?_
 refine jR ?_
 refine jG 0 2 ⟨[V 5 (.fmp (fM a0)),V 6 (iv a1)],[],0⟩ ?_
 refine jr_one (i:=2) (v:=iv (mget a0 a1)) (us:=[]) rfl rfl rfl rfl (aop_lookF (l:=a0) (kk:=a1) (kt:=3) (et:=3) (by kernel_rfl) (by kernel_rfl) (by kernel_rfl) (by kernel_rfl) (by kernel_rfl)) rfl ?_
 refine jG 3 2 ⟨[V 4 (bv (decide ((mget a0 a1) > 0)))],[],0⟩ ?_
 refine jN ?_
 refine jc_ret ?_
 exact jx_retF (.inr rfl) (v:=bv (decide ((mget a0 a1) > 0))) (by kernel_rfl) rfl (fle_refl _))
abbrev rup_sheet_open_r1:List LO:=[lo 2 (.box 56 (.tmp 0)) 0,lo 3 (.box 22 (.tmp 1)) 0,lo 4 (.assign (.const .nilFunc)) 64]
abbrev rup_sheet_open_r2:List LO:=[lo 5 (.makeFunc (Fn.func 52) #[] #[.tmp 3,.tmp 2]) 63,lo 4 (.assign (.tmp 5)) 64]
abbrev rup_sheet_open_c:LC:=.seq (.reg false rup_sheet_open_r1) (.seq (.reg false rup_sheet_open_r2) .ret)
theorem rup_sheet_open_k:FnOk E 38 6 [.tmp 4] rup_sheet_open_c:=⟨⟨Go.Proofs.Tryd.f38,by kernel_rfl,by kernel_rfl,by kernel_rfl,by kernel_rfl,by kernel_rfl⟩,rfl,rfl⟩
abbrev rup_sheet_open_T (a0:List (Int × Int)) (a1:List (List Int)) (r:Unit):CS:=⟨[V 4 (.fn 52 [pt 1 1,pt 2 1])],[(0,.map (oM a0)),W 1 1 [.fsl 1 (List.map c_L3 a1)],W 2 1 [.mp 0]],3⟩
noncomputable def rup_sheet_open (a0:List (Int × Int)) (a1:List (List Int)):Option (Unit):=some ()
theorem rup_sheet_open_ok (a0:List (Int × Int)) (a1:List (List Int)):CtM E 38 [.mp 0,.fsl 1 (List.map c_L3 a1)] [(0,.map (oM a0))] 1 (rup_sheet_open a0 a1) (fun r:Unit=>.fn 52 [pt 1 1,pt 2 1]) (fun r:Unit=>[(0,.map (oM a0)),W 1 1 [.fsl 1 (List.map c_L3 a1)],W 2 1 [.mp 0]]) 3:=ctm_intro (N:=6) (L:=rup_sheet_open_c) rup_sheet_open_k rfl (Nat.le_of_ble_eq_true rfl) (fun F hF=>by
 unfold rup_sheet_open
 refine jS ⟨[V 2 (pt 1 1),V 3 (pt 2 1)],[(0,.map (oM a0)),W 1 1 [.mp 0],W 2 1 [.fsl 1 (List.map c_L3 a1)]],3⟩ ?_
 refine jS ⟨[V 4 (.fn 52 [pt 2 1,pt 1 1])],[(0,.map (oM a0)),W 1 1 [.mp 0],W 2 1 [.fsl 1 (List.map c_L3 a1)]],3⟩ ?_
 refine jc_ret ?_
 exact jx_retM (rup_sheet_open_T a0 a1 ()) (.inr rfl) (wkR [(0,some 0),(1,some 2),(2,some 1)] (fix_of hF (k:=1) rfl) (pc (hM 0) (pc (hC 2) (pc (hC 1) allp_nil)))))
abbrev rup_sheet_open_1_1_s467c_r1:List LO:=[lo 3 (.assign (.const (.bool false))) 4]
abbrev rup_sheet_open_1_1_s467c_r2:List LO:=[lm 4 0 3,lo 5 (.call ⟨.value (.func 24),#[.tmp 4],#[3]⟩) 4,lo 6 (.unOp .not 4 (.tmp 5)) 4,lm 7 6 4,lg 8 (.load 56 (.tmp 1)) 56 7 false,lmg 9 0 3 7 false,lg 10 (.call ⟨.value (.func 37),#[.tmp 8,.tmp 9],#[56,3]⟩) 4 7 false,lo 11 (.pick (.tmp 7) (.const (.bool true)) (.tmp 10)) 4,lo 3 (.assign (.tmp 11)) 4]
abbrev rup_sheet_open_1_1_s467c_c:LC:=.seq (.reg false rup_sheet_open_1_1_s467c_r1) (.seq (.reg false rup_sheet_open_1_1_s467c_r2) .ret)
theorem rup_sheet_open_1_1_s467c_k:FnOk E 54 12 [.tmp 3] rup_sheet_open_1_1_s467c_c:=⟨⟨Go.Proofs.Tryd.f54,by kernel_rfl,by kernel_rfl,by kernel_rfl,by kernel_rfl,by kernel_rfl⟩,rfl,rfl⟩
noncomputable def rup_sheet_open_1_1_s467c (a0:Int) (a1:List (Int × Int)):Option (Bool):=Option.bind (rup_literal a0) (fun x1=>Option.bind (if (!x1)=true then some true else Option.bind (rup_sheet_isTrue a1 a0) (fun x4=>some x4):Option (Bool)) (fun x3=>some x3))
theorem rup_sheet_open_1_1_s467c_ok (a0:Int) (a1:List (Int × Int)):Ct E 54 [iv a0,.fptr [.fmp (fM a1)] 0] (rup_sheet_open_1_1_s467c a0 a1) (fun r:Bool=>bv r):=ct_intro (N:=12) (L:=rup_sheet_open_1_1_s467c_c) rup_sheet_open_1_1_s467c_k rfl (Nat.le_of_ble_eq_true rfl) (by kernel_rfl) (by
 unfold rup_sheet_open_1_1_s467c
 refine jS ⟨[V 0 (iv a0),V 1 (.fptr [.fmp (fM a1)] 0)],[],0⟩ ?_
 refine jR ?_
 refine jG 0 1 ⟨[V 0 (iv a0),V 1 (.fptr [.fmp (fM a1)] 0),V 4 (iv a0)],[],0⟩ ?_
 refine jK 1 (rup_literal_ok a0) ?_
 intro x1 h1
 refine jG 2 2 ⟨[V 0 (iv a0),V 1 (.fptr [.fmp (fM a1)] 0),V 7 (bv (!x1))],[],0⟩ ?_
 refine jr_bind 4 4 (fun x3=>⟨[V 11 (bv x3)],[],0⟩) ?_ ?_
 ·refine jSp 7 ?_ ?_
  ·refine jG 0 4 ⟨[V 11 (bv true)],[],0⟩ ?_
   refine jr_nil rfl ?_
   exact jx_mid rfl (wkR [] (fix_nil _) allp_nil)
  refine jG 0 2 ⟨[(7,.lit false),V 8 (.fmp (fM a1)),V 9 (iv a0)],[],0⟩ ?_
  refine jK 2 (rup_sheet_isTrue_ok a1 a0) ?_
  intro x4 h4
  refine jG 3 1 ⟨[V 11 (bv x4)],[],0⟩ ?_
  refine jr_nil rfl ?_
  exact jx_mid rfl (wkR [] (fix_nil _) allp_nil)
 intro x3
 refine jG 8 1 ⟨[V 3 (bv x3)],[],0⟩ ?_
 refine jN ?_
 refine jc_ret ?_
 exact jx_retF (.inr rfl) (v:=bv x3) (by kernel_rfl) rfl (fle_refl _))
abbrev slices_IndexFunc_int_int_se3d8_r1:List LO:=[lo 4 (.assign (.const (.int .i64 0))) 3]
abbrev slices_IndexFunc_int_int_se3d8_r2:List LO:=[lm 6 0 29,lo 7 (.call ⟨.builtin .len,#[.tmp 6],#[29]⟩) 3,lo 8 (.move (.const (.int .i64 0))) 3]
abbrev slices_IndexFunc_int_int_se3d8_r3:List LO:=[lo 9 (.binOp .lss 3 (.tmp 8) (.tmp 7) 3) 0]
abbrev slices_IndexFunc_int_int_se3d8_r4:List LO:=[lm 10 8 3,lo 5 (.assign (.tmp 10)) 3]
abbrev slices_IndexFunc_int_int_se3d8_r5:List LO:=[lm 11 1 35,lm 12 0 29,lm 13 5 3,lo 14 (.indexAddr 29 (.tmp 12) (.tmp 13)) 0,lo 15 (.load 3 (.tmp 14)) 3,lo 16 (.call ⟨.value (.tmp 11),#[.tmp 15],#[3]⟩) 4]
abbrev slices_IndexFunc_int_int_se3d8_r6:List LO:=[lm 17 5 3,lo 4 (.assign (.tmp 17)) 3]
abbrev slices_IndexFunc_int_int_se3d8_r7:List LO:=[lo 18 (.binOp .add 3 (.tmp 8) (.const (.int .i64 1)) 3) 3,lm 8 18 3]
abbrev slices_IndexFunc_int_int_se3d8_r8:List LO:=[lo 4 (.assign (.const (.int .i64 (-1)))) 3]
abbrev slices_IndexFunc_int_int_se3d8_c:LC:=.seq (.reg false slices_IndexFunc_int_int_se3d8_r1) (.seq (.seq (.reg false slices_IndexFunc_int_int_se3d8_r2) (.block 0 (.loop (.seq (.reg false slices_IndexFunc_int_int_se3d8_r3) (.seq (.cond (.tmp 9) .skip (.exit 0)) (.seq (.block 1 (.seq (.reg false slices_IndexFunc_int_int_se3d8_r4) (.seq (.reg false slices_IndexFunc_int_int_se3d8_r5) (.cond (.tmp 16) (.seq (.reg false slices_IndexFunc_int_int_se3d8_r6) .ret) .skip)))) (.reg false slices_IndexFunc_int_int_se3d8_r7))))))) (.seq (.reg false slices_IndexFunc_int_int_se3d8_r8) .ret))
theorem slices_IndexFunc_int_int_se3d8_k:FnOk E 67 19 [.tmp 4] slices_IndexFunc_int_int_se3d8_c:=⟨⟨Go.Proofs.Tryd.f67,by kernel_rfl,by kernel_rfl,by kernel_rfl,by kernel_rfl,by kernel_rfl⟩,rfl,rfl⟩
noncomputable def slices_IndexFunc_int_int_se3d8_l1 (a0:(List Int)) (a1:List (Int × Int)):Int→Option (Step (Int) ((Int) ⊕ (Unit))):=fun x3=>(if (decide (x3 < (List.length a0:Int)))=true then Option.bind (ixl a0 x3) (fun x8=>Option.bind (rup_sheet_open_1_1_s467c x8 a1) (fun x9=>(if x9=true then some (Step.done (Sum.inl x3)) else some (Step.next (w64 (x3 + 1)))))) else some (Step.done (Sum.inr ())))
noncomputable def slices_IndexFunc_int_int_se3d8 (a0:(List Int)) (a1:List (Int × Int)):Option (Int):=Option.bind (loopC (slices_IndexFunc_int_int_se3d8_l1 a0 a1) 0) (fun y=>match y with | Sum.inl x7=>some x7 | Sum.inr _=>some (-1))
theorem slices_IndexFunc_int_int_se3d8_ok (a0:(List Int)) (a1:List (Int × Int)):Ct E 67 [.fsl 1 (List.map cI a0),.fn 54 [.fptr [.fmp (fM a1)] 0]] (slices_IndexFunc_int_int_se3d8 a0 a1) (fun r:Int=>iv r):=ct_intro (N:=19) (L:=slices_IndexFunc_int_int_se3d8_c) slices_IndexFunc_int_int_se3d8_k rfl (Nat.le_of_ble_eq_true rfl) (by kernel_rfl) (by
 unfold slices_IndexFunc_int_int_se3d8
 refine jS ⟨[V 0 (.fsl 1 (List.map cI a0)),V 1 (.fn 54 [.fptr [.fmp (fM a1)] 0])],[],0⟩ ?_
 refine jc_seq ?_
 refine jR ?_
 refine jG 0 3 ⟨[V 0 (.fsl 1 (List.map cI a0)),V 1 (.fn 54 [.fptr [.fmp (fM a1)] 0]),V 7 (iv (List.length (List.map cI a0):Int)),V 8 (iv 0)],[],0⟩ ?_
 simp only[List.length_map]
 refine jN ?_
 refine jc_block ?_
 refine jc_bind (fun y=>match y with | Sum.inl x7=>⟨[V 4 (iv x7)],[],0⟩ | Sum.inr _=>⟨[],[],0⟩) (fun y=>match y with | Sum.inl x7=>.ret | Sum.inr _=>(.exit 0)) (jc_loop (fun x3=>⟨[V 0 (.fsl 1 (List.map cI a0)),V 1 (.fn 54 [.fptr [.fmp (fM a1)] 0]),V 7 (iv (List.length a0:Int)),V 8 (iv x3)],[],0⟩) (wkR [] (fix_nil _) allp_nil) ?_) ?_
 ·intro x3
  unfold slices_IndexFunc_int_int_se3d8_l1
  refine jS ⟨[V 0 (.fsl 1 (List.map cI a0)),V 1 (.fn 54 [.fptr [.fmp (fM a1)] 0]),V 7 (iv (List.length a0:Int)),V 8 (iv x3),V 9 (bv (decide (x3 < (List.length a0:Int))))],[],0⟩ ?_
  refine jc_seq ?_
  refine jIf ?_ ?_
  ·refine jc_skip ?_
   refine jx_seqN ?_
   refine jc_seq ?_
   refine jc_block ?_
   refine jS ⟨[V 0 (.fsl 1 (List.map cI a0)),V 1 (.fn 54 [.fptr [.fmp (fM a1)] 0]),V 5 (iv x3),V 7 (iv (List.length a0:Int)),V 8 (iv x3)],[],0⟩ ?_
   refine jR ?_
   refine jG 0 3 ⟨[V 0 (.fsl 1 (List.map cI a0)),V 1 (.fn 54 [.fptr [.fmp (fM a1)] 0]),V 5 (iv x3),V 7 (iv (List.length a0:Int)),V 8 (iv x3),V 11 (.fn 54 [.fptr [.fmp (fM a1)] 0]),V 12 (.fsl 1 (List.map cI a0)),V 13 (iv x3)],[],0⟩ ?_
   refine jr_part (i:=3) (mo:=ixl a0 x3) rfl rfl rfl rfl (fun _ hc=>aop_ixf (c:=cI) (sz:=1) (e:=3) (kk:=.i64) (by kernel_rfl) (by kernel_rfl) (by kernel_rfl) (by kernel_rfl) hc) (fun _=>rfl) ?_
   intro x8 h8
   refine jG 4 1 ⟨[V 0 (.fsl 1 (List.map cI a0)),V 1 (.fn 54 [.fptr [.fmp (fM a1)] 0]),V 5 (iv x3),V 7 (iv (List.length a0:Int)),V 8 (iv x3),V 11 (.fn 54 [.fptr [.fmp (fM a1)] 0]),V 15 (iv x8)],[],0⟩ ?_
   refine jr_callV (i:=5) rfl rfl rfl rfl (g:=54) (caps:=[.fptr [.fmp (fM a1)] 0]) (avs:=[iv x8]) (vs:=[iv x8,.fptr [.fmp (fM a1)] 0]) (by kernel_rfl) (by kernel_rfl) rfl (snapL_cons rfl (snapL_cons rfl (snapL_nil _))) (all2_cons (fle_refl _) (all2_cons (fle_refl _) all2_nil)) (rup_sheet_open_1_1_s467c_ok x8 a1) (fun _=>rfl) (fun _=>rfl) ?_
   intro x9 h9
   refine jN ?_
   refine jIf ?_ ?_
   ·refine jS ⟨[V 4 (iv x3)],[],0⟩ ?_
    refine jc_ret ?_
    refine jx_blkR ?_
    refine jx_seqR ?_
    exact jx_done rfl nofun (wkR [] (fix_nil _) allp_nil)
   refine jc_skip ?_
   refine jx_blkN ?_
   refine jx_seqN ?_
   refine jT ⟨[V 0 (.fsl 1 (List.map cI a0)),V 1 (.fn 54 [.fptr [.fmp (fM a1)] 0]),V 7 (iv (List.length a0:Int)),V 8 (iv (w64 (x3 + 1)))],[],0⟩ ?_
   exact jx_next (wkR [] (fix_nil _) allp_nil)
  refine jc_exit ?_
  refine jx_seqE ?_
  exact jx_done rfl nofun (wkR [] (fix_nil _) allp_nil)
 rintro (x7 | _)
 ·refine jx_blkR ?_
  refine jx_seqR ?_
  exact jx_retF (.inr rfl) (v:=iv x7) (by kernel_rfl) rfl (fle_refl _)
 refine jx_blkE ?_
 refine jx_seqN ?_
 refine jS ⟨[V 4 (iv (-1))],[],0⟩ ?_
 refine jc_ret ?_
 exact jx_retF (.inr rfl) (v:=iv (-1)) (by kernel_rfl) rfl (fle_refl _))
abbrev slices_ContainsFunc_int_int_se3d8_r1:List LO:=[lo 4 (.assign (.const (.bool false))) 4]
abbrev slices_ContainsFunc_int_int_se3d8_r2:List LO:=[lm 5 0 29,lm 6 1 35,lo 7 (.call ⟨.value (.func 67),#[.tmp 5,.tmp 6],#[29,35]⟩) 3,lo 8 (.binOp .geq 3 (.tmp 7) (.const (.int .i64 0)) 3) 4,lo 4 (.assign (.tmp 8)) 4]
abbrev slices_ContainsFunc_int_int_se3d8_c:LC:=.seq (.reg false slices_ContainsFunc_int_int_se3d8_r1) (.seq (.reg false slices_ContainsFunc_int_int_se3d8_r2) .ret)
theorem slices_ContainsFunc_int_int_se3d8_k:FnOk E 53 9 [.tmp 4] slices_ContainsFunc_int_int_se3d8_c:=⟨⟨Go.Proofs.Tryd.f53,by kernel_rfl,by kernel_rfl,by kernel_rfl,by kernel_rfl,by kernel_rfl⟩,rfl,rfl⟩
noncomputable def slices_ContainsFunc_int_int_se3d8 (a0:(List Int)) (a1:List (Int × Int)):Option (Bool):=Option.bind (slices_IndexFunc_int_int_se3d8 a0 a1) (fun x1=>some (decide (x1≥0)))
theorem slices_ContainsFunc_int_int_se3d8_ok (a0:(List Int)) (a1:List (Int × Int)):Ct E 53 [.fsl 1 (List.map cI a0),.fn 54 [.fptr [.fmp (fM a1)] 0]] (slices_ContainsFunc_int_int_se3d8 a0 a1) (fun r:Bool=>bv r):=ct_intro (N:=9) (L:=slices_ContainsFunc_int_int_se3d8_c) slices_ContainsFunc_int_int_se3d8_k rfl (Nat.le_of_ble_eq_true rfl) (by kernel_rfl) (by
 unfold slices_ContainsFunc_int_int_se3d8
 refine jS ⟨[V 0 (.fsl 1 (List.map cI a0)),V 1 (.fn 54 [.fptr [.fmp (fM a1)] 0])],[],0⟩ ?_
 refine jR ?_
 refine jG 0 2 ⟨[V 5 (.fsl 1 (List.map cI a0)),V 6 (.fn 54 [.fptr [.fmp (fM a1)] 0])],[],0⟩ ?_
 refine jK 2 (slices_IndexFunc_int_int_se3d8_ok a0 a1) ?_
 intro x1 h1
 refine jG 3 2 ⟨[V 4 (bv (decide (x1≥0)))],[],0⟩ ?_
 refine jN ?_
 refine jc_ret ?_
 exact jx_retF (.inr rfl) (v:=bv (decide (x1≥0))) (by kernel_rfl) rfl (fle_refl _))
abbrev rup_units_r1:List LO:=[lo 4 (.assign (.const (.map none))) 56,lo 5 (.assign (.const (.bool false))) 4]
abbrev rup_units_r2:List LO:=[lo 12 (.makeMap 56 none) 56,lo 6 (.alloc 56) 0,ln (.store 56 (.tmp 6) (.tmp 12)) 0]
abbrev rup_units_r3:List LO:=[lm 13 1 29,lo 14 (.call ⟨.builtin .len,#[.tmp 13],#[29]⟩) 3,lo 15 (.move (.const (.int .i64 0))) 3]
abbrev rup_units_r4:List LO:=[lo 16 (.binOp .lss 3 (.tmp 15) (.tmp 14) 3) 0]
abbrev rup_units_r5:List LO:=[lo 17 (.indexAddr 29 (.tmp 13) (.tmp 15)) 0,lo 18 (.load 3 (.tmp 17)) 3,lo 8 (.assign (.tmp 18)) 3]
abbrev rup_units_r6:List LO:=[lm 19 8 3,lo 20 (.call ⟨.value (.func 24),#[.tmp 19],#[3]⟩) 4,lo 21 (.unOp .not 4 (.tmp 20)) 4]
abbrev rup_units_r7:List LO:=[lo 22 (.load 56 (.tmp 6)) 56,lm 23 8 3,lo 24 (.unOp .neg 3 (.tmp 23)) 3,lo 25 (.call ⟨.value (.func 37),#[.tmp 22,.tmp 24],#[56,3]⟩) 4]
abbrev rup_units_r8:List LO:=[lo 26 (.load 56 (.tmp 6)) 56,lo 4 (.assign (.tmp 26)) 56,lo 5 (.assign (.const (.bool true))) 4]
abbrev rup_units_r9:List LO:=[lo 27 (.load 56 (.tmp 6)) 56,lm 28 8 3,lo 29 (.lookup 56 (.tmp 27) (.tmp 28) false) 3,lo 30 (.binOp .add 3 (.tmp 29) (.const (.int .i64 1)) 3) 3,ln (.mapUpdate 56 (.tmp 27) (.tmp 28) (.tmp 30)) 0]
abbrev rup_units_r10:List LO:=[lo 31 (.binOp .add 3 (.tmp 15) (.const (.int .i64 1)) 3) 3,lm 15 31 3]
abbrev rup_units_r11:List LO:=[lo 9 (.alloc 4) 0,ln (.store 4 (.tmp 9) (.const (.bool false))) 0]
abbrev rup_units_r12:List LO:=[lo 32 (.load 56 (.tmp 6)) 56,lo 33 (.call ⟨.builtin .len,#[.tmp 32],#[56]⟩) 3,lo 10 (.assign (.tmp 33)) 3]
abbrev rup_units_r13:List LO:=[lo 34 (.load 56 (.tmp 6)) 56,lm 35 0 22,lo 36 (.call ⟨.value (.func 38),#[.tmp 34,.tmp 35],#[56,22]⟩) 64]
abbrev rup_units_r14:List LO:=[lo 11 (.assign (.tmp 37)) 29]
abbrev rup_units_r15:List LO:=[lm 39 11 29,lo 40 (.call ⟨.builtin .len,#[.tmp 39],#[29]⟩) 3,lo 41 (.binOp .eql 3 (.tmp 40) (.const (.int .i64 0)) 3) 4,lo 38 (.assign (.tmp 41)) 4]
abbrev rup_units_r16:List LO:=[ln (.store 4 (.tmp 9) (.const (.bool true))) 0]
abbrev rup_units_r17:List LO:=[lm 43 11 29,lo 44 (.call ⟨.builtin .len,#[.tmp 43],#[29]⟩) 3,lo 45 (.binOp .eql 3 (.tmp 44) (.const (.int .i64 1)) 3) 4,lm 46 45 4,lg 47 (.load 56 (.tmp 6)) 56 46 true,lmg 48 11 29 46 true,lg 49 (.indexAddr 29 (.tmp 48) (.const (.int .i64 0))) 0 46 true,lg 50 (.load 3 (.tmp 49)) 3 46 true,lg 51 (.call ⟨.value (.func 37),#[.tmp 47,.tmp 50],#[56,3]⟩) 4 46 true,lg 52 (.unOp .not 4 (.tmp 51)) 4 46 true,lo 53 (.pick (.tmp 46) (.tmp 52) (.const (.bool false))) 4,lo 42 (.assign (.tmp 53)) 4]
abbrev rup_units_r18:List LO:=[lo 54 (.load 56 (.tmp 6)) 56,lm 55 11 29,lo 56 (.indexAddr 29 (.tmp 55) (.const (.int .i64 0))) 0,lo 57 (.load 3 (.tmp 56)) 3,lo 58 (.lookup 56 (.tmp 54) (.tmp 57) false) 3,lo 59 (.binOp .add 3 (.tmp 58) (.const (.int .i64 1)) 3) 3,ln (.mapUpdate 56 (.tmp 54) (.tmp 57) (.tmp 59)) 0]
noncomputable def rup_units_y19_a0:Code:=codeSub (bodyOf Go.Proofs.Tryd.f25) [1,0,1,1,1,1,0,0,0,0,1,0,1,0,0]
theorem rup_units_y19_aw:lower E rup_units_y19_a0=some (.reg false rup_units_r14):=by kernel_rfl
noncomputable def rup_units_y19_b0:Code:=codeSub (bodyOf Go.Proofs.Tryd.f25) [1,0,1,1,1,1,0,0,0,0,1,0,1,0,1]
theorem rup_units_y19_bw:lower E rup_units_y19_b0=some (.block 5 (.block 6 (.seq (.reg false rup_units_r15) (.cond (.tmp 38) (.seq (.reg false rup_units_r16) (.exit 2)) (.seq (.reg true rup_units_r17) (.cond (.tmp 42) (.reg true rup_units_r18) .skip)))))):=by kernel_rfl
abbrev rup_units_r20:List LO:=[lo 60 (.load 56 (.tmp 6)) 56,lo 61 (.call ⟨.builtin .len,#[.tmp 60],#[56]⟩) 3,lm 62 10 3,lo 63 (.binOp .eql 3 (.tmp 61) (.tmp 62) 3) 4]
abbrev rup_units_r21:List LO:=[lo 64 (.load 56 (.tmp 6)) 56,lo 65 (.load 4 (.tmp 9)) 4,lo 4 (.assign (.tmp 64)) 56,lo 5 (.assign (.tmp 65)) 4]
noncomputable abbrev rup_units_c:LC:=.seq (.reg false rup_units_r1) (.scope (.seq (.reg false rup_units_r2) (.seq (.seq (.reg false rup_units_r3) (.block 0 (.loop (.seq (.reg false rup_units_r4) (.seq (.cond (.tmp 16) .skip (.exit 0)) (.seq (.block 1 (.seq (.reg false rup_units_r5) (.seq (.seq (.reg false rup_units_r6) (.cond (.tmp 21) (.exit 1) .skip)) (.seq (.seq (.reg false rup_units_r7) (.cond (.tmp 25) (.seq (.reg false rup_units_r8) .ret) .skip)) (.reg false rup_units_r9))))) (.reg false rup_units_r10))))))) (.seq (.reg false rup_units_r11) (.seq .label (.seq (.block 2 (.loop (.block 3 (.seq (.reg false rup_units_r12) (.seq (.seq (.reg false rup_units_r13) (.block 4 (.rng (.tmp 36) [37] rup_units_y19_a0 rup_units_y19_b0))) (.seq (.reg false rup_units_r20) (.cond (.tmp 63) (.exit 2) .skip))))))) (.seq (.reg true rup_units_r21) .ret)))))))
theorem rup_units_k:FnOk E 25 66 [.tmp 4,.tmp 5] rup_units_c:=⟨⟨Go.Proofs.Tryd.f25,by kernel_rfl,by kernel_rfl,by kernel_rfl,by kernel_rfl,by kernel_rfl⟩,rfl,rfl⟩
noncomputable def rup_units_l1 (a1:List Int):(List (Int × Int) × Int)→Option (Step (List (Int × Int) × Int) ((List (Int × Int)) ⊕ (List (Int × Int)))):=fun (x137,x138)=>(if (decide (x138 < (List.length a1:Int)))=true then Option.bind (Option.bind (ixl a1 x138) (fun x151=>Option.bind (rup_literal x151) (fun x152=>(if (!x152)=true then some (Sum.inl x137) else Option.bind (rup_sheet_isTrue x137 (w64 (0 - x151))) (fun x153=>(if x153=true then some (Sum.inr ()) else some (Sum.inl (mput x137 x151 (w64 ((mget x137 x151) + 1))))))))):Option ((List (Int × Int)) ⊕ (Unit))) (fun y=>match y with | Sum.inl x150=>some (Step.next (x150,(w64 (x138 + 1)))) | Sum.inr _=>some (Step.done (Sum.inl x137))) else some (Step.done (Sum.inr x137)))
noncomputable abbrev rup_units_lp17 (a0:List (List Int)) (x210:List (Int × Int)) (q:LoopState) (p:Option Code):AObj:=.loop { state:=q,pending:=p,tmps:=tl 66 [V 0 (.fsl 1 (List.map c_L3 a0)),V 6 (pt 1 1),V 9 (pt 3 1),V 10 (iv (List.length x210:Int)),V 36 (.fn 52 [pt 4 1,pt 5 1])] none,params:=[37],assign:=rup_units_y19_a0,body:=rup_units_y19_b0 }
noncomputable def rup_units_l2 (x295:List (Int × Int)) (x351:(List Int)):(List Int × Int)→Option (Step (List Int × Int) (List Int)):=fun (x359,x360)=>(if (decide (x360 < (List.length x351:Int)))=true then Option.bind (Option.bind (ixl x351 x360) (fun x376=>Option.bind (rup_sheet_isTrue x295 (w64 (0 - x376))) (fun x377=>Option.bind (if (!x377)=true then Option.bind (slices_Contains_int_int x359 x376) (fun x380=>some (!x380)) else some false:Option (Bool)) (fun x379=>(if x379=true then Option.bind (app 8 x359 [x376]) (fun x381=>some x381) else some x359)))):Option (List Int)) (fun x375=>some (Step.next (x375,(w64 (x360 + 1))))) else some (Step.done x359))
noncomputable def rup_units_l3 (a0:List (List Int)):(List (Int × Int) × Int)→Option (Step (List (Int × Int) × Int) ((List (Int × Int)) ⊕ (List (Int × Int)))):=fun (x295,x296)=>(if (decide (x296 < (List.length a0:Int)))=true then Option.bind (Option.bind (ixl a0 x296) (fun x351=>Option.bind (slices_ContainsFunc_int_int_se3d8 x351 x295) (fun x352=>(if x352=true then some (Sum.inl x295) else Option.bind (loopC (rup_units_l2 x295 x351) ([],0)) (fun x369=>Option.bind ((if ((List.length x369:Int) == 0)=true then some (Sum.inl ()) else Option.bind (if ((List.length x369:Int) == 1)=true then Option.bind (ixl x369 0) (fun x390=>Option.bind (rup_sheet_isTrue x295 x390) (fun x391=>some (!x391))) else some false:Option (Bool)) (fun x389=>(if x389=true then Option.bind (ixl x369 0) (fun x392=>some (Sum.inr (mput x295 x392 (w64 ((mget x295 x392) + 1))))) else some (Sum.inr x295)))):Option ((Unit) ⊕ (List (Int × Int)))) (fun y=>match y with | Sum.inl _=>some (Sum.inr ()) | Sum.inr x386=>some (Sum.inl x386)))))):Option ((List (Int × Int)) ⊕ (Unit))) (fun y=>match y with | Sum.inl x350=>some (Step.next (x350,(w64 (x296 + 1)))) | Sum.inr _=>some (Step.done (Sum.inl x295))) else some (Step.done (Sum.inr x295)))
noncomputable def rup_units_l4 (a0:List (List Int)):(List (Int × Int))→Option (Step (List (Int × Int)) (List (Int × Int) × Bool)):=fun x210=>Option.bind (rup_sheet_open x210 a0) (fun _=>Option.bind (loopC (rup_units_l3 a0) (x210,0)) (fun y=>match y with | Sum.inl x324=>some (Step.done (x324,true)) | Sum.inr x325=>(if ((List.length x325:Int) == (List.length x210:Int))=true then some (Step.done (x325,false)) else some (Step.next x325))))
abbrev rup_units_T (a0:List (List Int)) (a1:List Int) (r:List (Int × Int) × Bool):CS:=⟨[V 4 (.mp 1),V 5 (bv r.2)],[(0,.rows 1 (List.map cI a1)),(1,.map (oM r.1))],2⟩
noncomputable def rup_units (a0:List (List Int)) (a1:List Int):Option (List (Int × Int) × Bool):=Option.bind (loopC (rup_units_l1 a1) (([]:List (Int × Int)),0)) (fun y=>match y with | Sum.inl x145=>some (x145,true) | Sum.inr x146=>Option.bind (loopC (rup_units_l4 a0) x146) (fun (x268,x269)=>some (x268,x269)))
theorem rup_units_ok (a0:List (List Int)) (a1:List Int):CtM E 25 [.fsl 1 (List.map c_L3 a0),.osl 0 0 (List.length a1) 1] [(0,.rows 1 (List.map cI a1))] 1 (rup_units a0 a1) (fun r:List (Int × Int) × Bool=>.tup [.mp 1,bv r.2]) (fun r:List (Int × Int) × Bool=>[(0,.rows 1 (List.map cI a1)),(1,.map (oM r.1))]) 2:=ctm_intro (N:=66) (L:=rup_units_c) rup_units_k rfl (Nat.le_of_ble_eq_true rfl) (fun F hF=>by
 unfold rup_units
 refine jS ⟨[V 0 (.fsl 1 (List.map c_L3 a0)),V 1 (.osl 0 0 (List.length a1) 1)],[(0,.rows 1 (List.map cI a1))],1⟩ ?_
 refine jc_scope ?_
 refine jS ⟨[V 0 (.fsl 1 (List.map c_L3 a0)),V 1 (.osl 0 0 (List.length a1) 1),V 6 (pt 2 1)],[(0,.rows 1 (List.map cI a1)),(1,.map (oM ([]:List (Int × Int)))),W 2 1 [.mp 1]],3⟩ ?_
 refine jc_seq ?_
 refine jS ⟨[V 0 (.fsl 1 (List.map c_L3 a0)),V 6 (pt 2 1),V 13 (.osl 0 0 (List.length a1) 1),V 14 (iv (List.length a1:Int)),V 15 (iv 0)],[(0,.rows 1 (List.map cI a1)),(1,.map (oM ([]:List (Int × Int)))),W 2 1 [.mp 1]],3⟩ ?_
 refine jc_block ?_
 refine jc_bind (fun y=>match y with | Sum.inl x145=>⟨[V 4 (.mp 1),V 5 (bv true)],[(0,.rows 1 (List.map cI a1)),(1,.map (oM x145))],2⟩ | Sum.inr x146=>⟨[V 0 (.fsl 1 (List.map c_L3 a0)),V 6 (pt 1 1)],[(0,.rows 1 (List.map cI a1)),W 1 1 [.mp 2],(2,.map (oM x146))],3⟩) (fun y=>match y with | Sum.inl x145=>.ret | Sum.inr x146=>(.exit 0)) (jc_loop (fun (x137,x138)=>⟨[V 0 (.fsl 1 (List.map c_L3 a0)),V 6 (pt 1 1),V 13 (.osl 0 0 (List.length a1) 1),V 14 (iv (List.length a1:Int)),V 15 (iv x138)],[(0,.rows 1 (List.map cI a1)),W 1 1 [.mp 2],(2,.map (oM x137))],3⟩) (wkR [(0,some 0),(1,some 2),(2,some 1)] (fix_of hF (k:=1) rfl) (pc (hL 0 (noid_map ni_I _)) (pc (hC 2) (pc (hM 1) allp_nil)))) ?_) ?_
 ·rintro⟨x137,x138⟩
  unfold rup_units_l1
  refine jS ⟨[V 0 (.fsl 1 (List.map c_L3 a0)),V 6 (pt 1 1),V 13 (.osl 0 0 (List.length a1) 1),V 14 (iv (List.length a1:Int)),V 15 (iv x138),V 16 (bv (decide (x138 < (List.length a1:Int))))],[(0,.rows 1 (List.map cI a1)),W 1 1 [.mp 2],(2,.map (oM x137))],3⟩ ?_
  refine jc_seq ?_
  refine jIf ?_ ?_
  ·refine jc_skip ?_
   refine jx_seqN ?_
   refine jc_seq ?_
   refine jc_bind (fun y=>match y with | Sum.inl x150=>⟨[V 0 (.fsl 1 (List.map c_L3 a0)),V 6 (pt 1 1),V 13 (.osl 0 0 (List.length a1) 1),V 14 (iv (List.length a1:Int)),V 15 (iv x138)],[(0,.rows 1 (List.map cI a1)),W 1 1 [.mp 2],(2,.map (oM x150))],3⟩ | Sum.inr _=>⟨[V 4 (.mp 1),V 5 (bv true)],[(0,.rows 1 (List.map cI a1)),(1,.map (oM x137))],2⟩) (fun y=>match y with | Sum.inl x150=>.normal | Sum.inr _=>.ret) ?_ ?_
   ·refine jc_block ?_
    refine jR ?_
    refine jr_part (i:=0) (mo:=ixl a1 x138) rfl rfl rfl rfl (fun _ hc=>aop_ixo0 (sz:=1) (e:=3) (kk:=.i64) (id:=0) (by kernel_rfl) (by kernel_rfl) (by kernel_rfl) (by kernel_rfl) hc) (fun _=>rfl) ?_
    intro x151 h151
    refine jr_one (i:=1) (v:=iv x151) rfl rfl rfl rfl (aop_ldo (l:=a1) (c:=cI) (id:=0) (k:=(Int.toNat x138)) (sz:=1) (off:=0) (a:=x151) (by kernel_rfl) (by kernel_rfl) (ixl_lt h151).2.2 (by kernel_rfl)) rfl ?_
    refine jG 2 1 ⟨[V 0 (.fsl 1 (List.map c_L3 a0)),V 6 (pt 1 1),V 8 (iv x151),V 13 (.osl 0 0 (List.length a1) 1),V 14 (iv (List.length a1:Int)),V 15 (iv x138)],[(0,.rows 1 (List.map cI a1)),W 1 1 [.mp 2],(2,.map (oM x137))],3⟩ ?_
    refine jN ?_
    refine jc_seq ?_
    refine jR ?_
    refine jG 0 1 ⟨[V 0 (.fsl 1 (List.map c_L3 a0)),V 6 (pt 1 1),V 8 (iv x151),V 13 (.osl 0 0 (List.length a1) 1),V 14 (iv (List.length a1:Int)),V 15 (iv x138),V 19 (iv x151)],[(0,.rows 1 (List.map cI a1)),W 1 1 [.mp 2],(2,.map (oM x137))],3⟩ ?_
    refine jK 1 (rup_literal_ok x151) ?_
    intro x152 h152
    refine jG 2 1 ⟨[V 0 (.fsl 1 (List.map c_L3 a0)),V 6 (pt 1 1),V 8 (iv x151),V 13 (.osl 0 0 (List.length a1) 1),V 14 (iv (List.length a1:Int)),V 15 (iv x138),V 21 (bv (!x152))],[(0,.rows 1 (List.map cI a1)),W 1 1 [.mp 2],(2,.map (oM x137))],3⟩ ?_
    refine jN ?_
    refine jIf ?_ ?_
    ·refine jc_exit ?_
     refine jx_seqE ?_
     refine jx_blkE ?_
     exact jx_mid rfl (wkR [(0,some 0),(1,some 1),(2,some 2)] (fix_of hF (k:=1) rfl) (pc (hL 0 (noid_map ni_I _)) (pc (hC 1) (pc (hM 2) allp_nil))))
    refine jc_skip ?_
    refine jx_seqN ?_
    refine jc_seq ?_
    refine jR ?_
    refine jG 0 3 ⟨[V 0 (.fsl 1 (List.map c_L3 a0)),V 6 (pt 1 1),V 8 (iv x151),V 13 (.osl 0 0 (List.length a1) 1),V 14 (iv (List.length a1:Int)),V 15 (iv x138),V 22 (.mp 2),V 24 (iv (w64 (0 - x151)))],[(0,.rows 1 (List.map cI a1)),W 1 1 [.mp 2],(2,.map (oM x137))],3⟩ ?_
    refine jr_callF (i:=3) rfl rfl rfl rfl (vs:=[.mp 2,iv (w64 (0 - x151))]) (by kernel_rfl) (snapL_cons (snapc_mp (by kernel_rfl)) (snapL_cons rfl (snapL_nil _))) (all2_cons (fle_refl _) (all2_cons (fle_refl _) all2_nil)) (rup_sheet_isTrue_ok x137 (w64 (0 - x151))) (fun _=>rfl) (fun _=>rfl) ?_
    intro x153 h153
    refine jN ?_
    refine jIf ?_ ?_
    ·refine jS ⟨[V 4 (.mp 2),V 5 (bv true)],[(0,.rows 1 (List.map cI a1)),(2,.map (oM x137))],3⟩ ?_
     refine jc_ret ?_
     refine jx_seqR ?_
     refine jx_blkR ?_
     exact jx_mid rfl (wkR [(0,some 0),(1,some 2)] (fix_of hF (k:=1) rfl) (pc (hL 0 (noid_map ni_I _)) (pc (hM 2) allp_nil)))
    refine jc_skip ?_
    refine jx_seqN ?_
    refine jc_reg ?_
    refine jG 0 2 ⟨[V 0 (.fsl 1 (List.map c_L3 a0)),V 6 (pt 1 1),V 13 (.osl 0 0 (List.length a1) 1),V 14 (iv (List.length a1:Int)),V 15 (iv x138),V 27 (.mp 2),V 28 (iv x151)],[(0,.rows 1 (List.map cI a1)),W 1 1 [.mp 2],(2,.map (oM x137))],3⟩ ?_
    refine jr_one (i:=2) (v:=iv (mget x137 x151)) (us:=[]) rfl rfl rfl rfl (aop_look (l:=x137) (id:=2) (kk:=x151) (kt:=3) (et:=3) (by kernel_rfl) (by kernel_rfl) (by kernel_rfl) (by kernel_rfl) (by kernel_rfl) (by kernel_rfl)) rfl ?_
    refine jG 3 1 ⟨[V 0 (.fsl 1 (List.map c_L3 a0)),V 6 (pt 1 1),V 13 (.osl 0 0 (List.length a1) 1),V 14 (iv (List.length a1:Int)),V 15 (iv x138),V 27 (.mp 2),V 28 (iv x151),V 30 (iv (w64 ((mget x137 x151) + 1)))],[(0,.rows 1 (List.map cI a1)),W 1 1 [.mp 2],(2,.map (oM x137))],3⟩ ?_
    refine jr_sto (i:=4) [0,6,13,14,15] [0,1,2] (st1:=⟨[V 0 (.fsl 1 (List.map c_L3 a0)),V 6 (pt 1 1),V 13 (.osl 0 0 (List.length a1) 1),V 14 (iv (List.length a1:Int)),V 15 (iv x138)],[(0,.rows 1 (List.map cI a1)),W 1 1 [.mp 2],(2,.map (oM (mput x137 x151 (w64 ((mget x137 x151) + 1)))))],3⟩) rfl rfl rfl rfl (aop_mput (l:=x137) (id:=2) (kk:=x151) (v:=(w64 ((mget x137 x151) + 1))) (kt:=3) (et:=3) (by kernel_rfl) (by kernel_rfl) (by kernel_rfl) (by kernel_rfl) (by kernel_rfl) (by kernel_rfl)) (by kernel_rfl) ?_
    refine jr_nil rfl ?_
    refine jx_blkN ?_
    exact jx_mid rfl (wkR [(0,some 0),(1,some 1),(2,some 2)] (fix_of hF (k:=1) rfl) (pc (hL 0 (noid_map ni_I _)) (pc (hC 1) (pc (hM 2) allp_nil))))
   rintro (x150 | _)
   ·refine jx_seqN ?_
    refine jT ⟨[V 0 (.fsl 1 (List.map c_L3 a0)),V 6 (pt 1 1),V 13 (.osl 0 0 (List.length a1) 1),V 14 (iv (List.length a1:Int)),V 15 (iv (w64 (x138 + 1)))],[(0,.rows 1 (List.map cI a1)),W 1 1 [.mp 2],(2,.map (oM x150))],3⟩ ?_
    exact jx_next (wkR [(0,some 0),(1,some 1),(2,some 2)] (fix_of hF (k:=1) rfl) (pc (hL 0 (noid_map ni_I _)) (pc (hC 1) (pc (hM 2) allp_nil))))
   refine jx_seqR ?_
   exact jx_done rfl nofun (wkR [(0,some 0),(1,some 1)] (fix_of hF (k:=1) rfl) (pc (hL 0 (noid_map ni_I _)) (pc (hM 1) allp_nil)))
  refine jc_exit ?_
  refine jx_seqE ?_
  exact jx_done rfl nofun (wkR [(0,some 0),(1,some 1),(2,some 2)] (fix_of hF (k:=1) rfl) (pc (hL 0 (noid_map ni_I _)) (pc (hC 1) (pc (hM 2) allp_nil))))
 rintro (x145 | x146)
 ·refine jx_blkR ?_
  refine jx_seqR ?_
  refine jx_scopeR ?_
  exact jx_retM (rup_units_T a0 a1 (x145,true)) (.inr rfl) (wkR [(0,some 0),(1,some 1)] (fix_of hF (k:=1) rfl) (pc (hL 0 (noid_map ni_I _)) (pc (hM 1) allp_nil)))
 refine jx_blkE ?_
 refine jx_seqN ?_
 refine jS ⟨[V 0 (.fsl 1 (List.map c_L3 a0)),V 6 (pt 1 1),V 9 (pt 3 1)],[(0,.rows 1 (List.map cI a1)),W 1 1 [.mp 2],(2,.map (oM x146)),W 3 1 [bv false]],4⟩ ?_
 refine jc_seq ?_
 refine jc_label ?_
 refine jx_seqN ?_
 refine jc_seq ?_
 refine jc_block ?_
 refine jc_bind (fun (x268,x269)=>⟨[V 6 (pt 1 1),V 9 (pt 3 1)],[(0,.rows 1 (List.map cI a1)),W 1 1 [.mp 2],(2,.map (oM x268)),W 3 1 [bv x269]],4⟩) (fun (x268,x269)=>(.exit 2)) (jc_loop (fun x210=>⟨[V 0 (.fsl 1 (List.map c_L3 a0)),V 6 (pt 1 1),V 9 (pt 3 1)],[(0,.rows 1 (List.map cI a1)),W 1 1 [.mp 2],(2,.map (oM x210)),W 3 1 [bv false]],4⟩) (wkR [(0,some 0),(1,some 1),(2,some 2),(3,some 3)] (fix_of hF (k:=1) rfl) (pc (hL 0 (noid_map ni_I _)) (pc (hC 1) (pc (hM 2) (pc (hC 3) allp_nil))))) ?_) ?_
 ·intro x210
  unfold rup_units_l4
  refine jc_block ?_
  refine jR ?_
  refine jG 0 1 ⟨[V 0 (.fsl 1 (List.map c_L3 a0)),V 6 (pt 1 1),V 9 (pt 3 1),V 32 (.mp 2)],[(0,.rows 1 (List.map cI a1)),W 1 1 [.mp 2],(2,.map (oM x210)),W 3 1 [bv false]],4⟩ ?_
  refine jr_one (i:=1) (v:=iv (List.length x210:Int)) (us:=[]) rfl rfl rfl rfl (aop_lenm (l:=x210) (id:=2) (kt:=3) (et:=3) (by kernel_rfl) (by kernel_rfl) (by kernel_rfl) (by kernel_rfl)) rfl ?_
  refine jG 2 1 ⟨[V 0 (.fsl 1 (List.map c_L3 a0)),V 6 (pt 1 1),V 9 (pt 3 1),V 10 (iv (List.length x210:Int))],[(0,.rows 1 (List.map cI a1)),W 1 1 [.mp 2],(2,.map (oM x210)),W 3 1 [bv false]],4⟩ ?_
  refine jN ?_
  refine jc_seq ?_
  refine jR ?_
  refine jG 0 2 ⟨[V 0 (.fsl 1 (List.map c_L3 a0)),V 6 (pt 1 1),V 9 (pt 3 1),V 10 (iv (List.length x210:Int)),V 34 (.mp 2),V 35 (.fsl 1 (List.map c_L3 a0))],[(0,.rows 1 (List.map cI a1)),W 1 1 [.mp 2],(2,.map (oM x210)),W 3 1 [bv false]],4⟩ ?_
  refine jr_callM 2 [(0,some 2)] [(2,some 0),(4,some 1),(5,some 2)] (fun r:Unit=>[(0,.rows 1 (List.map cI a1)),W 1 1 [.mp 2],(2,.map (oM x210)),W 3 1 [bv false],W 4 1 [.fsl 1 (List.map c_L3 a0)],W 5 1 [.mp 2]]) (fun r:Unit=>.fn 52 [pt 4 1,pt 5 1]) 6 (rup_sheet_open_ok x210 a0) (pc (hM 2) allp_nil) (fun r=>(pc (.inl ⟨rfl,rfl⟩) (pc (.inl ⟨rfl,rfl⟩) (pc (.inr (hM 0)) (pc (.inl ⟨rfl,rfl⟩) (pc (.inr (hC 1)) (pc (.inr (hC 2)) allp_nil))))))) ?_
  rintro⟨⟩ hm22
  refine jN ?_
  refine jc_block ?_
  refine jc_keep [0,6,9,10,36] [0,1,2,3,4,5] (st1:=⟨[V 0 (.fsl 1 (List.map c_L3 a0)),V 6 (pt 1 1),V 9 (pt 3 1),V 10 (iv (List.length x210:Int)),V 36 (.fn 52 [pt 4 1,pt 5 1])],[(0,.rows 1 (List.map cI a1)),W 1 1 [.mp 2],(2,.map (oM x210)),W 3 1 [bv false],W 4 1 [.fsl 1 (List.map c_L3 a0)],W 5 1 [.mp 2]],6⟩) (by kernel_rfl) ?_
  refine jc_rng (g:=52) (caps:=[pt 4 1,pt 5 1]) (by kernel_rfl) rup_sheet_open_1_it_k (Nat.le_of_ble_eq_true rfl) ?_
  intro F17 hc17
  refine jR ?_
  refine jG 0 3 ⟨[V 0 (.yld 6),V 2 (pt 5 1),V 9 (.fsl 1 (List.map c_L3 a0)),V 10 (iv (List.length (List.map c_L3 a0):Int)),V 11 (iv 0)],[(0,.rows 1 (List.map cI a1)),W 1 1 [.mp 2],(2,.map (oM x210)),W 3 1 [bv false],W 4 1 [.fsl 1 (List.map c_L3 a0)],W 5 1 [.mp 2],(6,rup_units_lp17 a0 x210 .ready none)],7⟩ ?_
  simp only[List.length_map]
  refine jN ?_
  refine jc_block ?_
  refine jc_bind (fun y=>match y with | Sum.inl x324=>⟨[],[(0,.rows 1 (List.map cI a1)),W 1 1 [.mp 2],(2,.map (oM x324)),W 3 1 [bv true],W 4 1 [.fsl 1 (List.map c_L3 a0)],W 5 1 [.mp 2],(6,rup_units_lp17 a0 x210 .done (some (.exit 2)))],7⟩ | Sum.inr x325=>⟨[],[(0,.rows 1 (List.map cI a1)),W 1 1 [.mp 2],(2,.map (oM x325)),W 3 1 [bv false],W 4 1 [.fsl 1 (List.map c_L3 a0)],W 5 1 [.mp 2],(6,rup_units_lp17 a0 x210 .ready none)],7⟩) (fun y=>match y with | Sum.inl x324=>.ret | Sum.inr x325=>(.exit 0)) (jc_loop (fun (x295,x296)=>⟨[V 0 (.yld 6),V 2 (pt 5 1),V 9 (.fsl 1 (List.map c_L3 a0)),V 10 (iv (List.length a0:Int)),V 11 (iv x296)],[(0,.rows 1 (List.map cI a1)),W 1 1 [.mp 2],(2,.map (oM x295)),W 3 1 [bv false],W 4 1 [.fsl 1 (List.map c_L3 a0)],W 5 1 [.mp 2],(6,rup_units_lp17 a0 x210 .ready none)],7⟩) (wkR [(0,some 0),(1,some 1),(2,some 2),(3,some 3),(4,some 4),(5,some 5),(6,some 6)] (fix_of hc17.2.2 (k:=7) rfl) (pc (hL 0 (noid_map ni_I _)) (pc (hC 1) (pc (hM 2) (pc (hC 3) (pc (hC 4) (pc (hC 5) (pc (.inr (.inr (.inl ⟨6,_,_,rfl,rfl,rfl,by kernel_rfl⟩))) allp_nil)))))))) ?_) ?_
  ·rintro⟨x295,x296⟩
   unfold rup_units_l3
   refine jS ⟨[V 0 (.yld 6),V 2 (pt 5 1),V 9 (.fsl 1 (List.map c_L3 a0)),V 10 (iv (List.length a0:Int)),V 11 (iv x296),V 12 (bv (decide (x296 < (List.length a0:Int))))],[(0,.rows 1 (List.map cI a1)),W 1 1 [.mp 2],(2,.map (oM x295)),W 3 1 [bv false],W 4 1 [.fsl 1 (List.map c_L3 a0)],W 5 1 [.mp 2],(6,rup_units_lp17 a0 x210 .ready none)],7⟩ ?_
   refine jc_seq ?_
   refine jIf ?_ ?_
   ·refine jc_skip ?_
    refine jx_seqN ?_
    refine jc_seq ?_
    refine jc_bind (fun y=>match y with | Sum.inl x350=>⟨[V 0 (.yld 6),V 2 (pt 5 1),V 9 (.fsl 1 (List.map c_L3 a0)),V 10 (iv (List.length a0:Int)),V 11 (iv x296)],[(0,.rows 1 (List.map cI a1)),W 1 1 [.mp 2],(2,.map (oM x350)),W 3 1 [bv false],W 4 1 [.fsl 1 (List.map c_L3 a0)],W 5 1 [.mp 2],(6,rup_units_lp17 a0 x210 .ready none)],7⟩ | Sum.inr _=>⟨[],[(0,.rows 1 (List.map cI a1)),W 1 1 [.mp 2],(2,.map (oM x295)),W 3 1 [bv true],W 4 1 [.fsl 1 (List.map c_L3 a0)],W 5 1 [.mp 2],(6,rup_units_lp17 a0 x210 .done (some (.exit 2)))],7⟩) (fun y=>match y with | Sum.inl x350=>.normal | Sum.inr _=>.ret) ?_ ?_
    ·refine jc_block ?_
     refine jR ?_
     refine jr_part (i:=0) (mo:=ixl a0 x296) rfl rfl rfl rfl (fun _ hc=>aop_ixf (c:=c_L3) (sz:=1) (e:=29) (kk:=.i64) (by kernel_rfl) (by kernel_rfl) (by kernel_rfl) (by kernel_rfl) hc) (fun _=>rfl) ?_
     intro x351 h351
     refine jG 1 2 ⟨[V 0 (.yld 6),V 2 (pt 5 1),V 5 (.fsl 1 (List.map cI x351)),V 9 (.fsl 1 (List.map c_L3 a0)),V 10 (iv (List.length a0:Int)),V 11 (iv x296)],[(0,.rows 1 (List.map cI a1)),W 1 1 [.mp 2],(2,.map (oM x295)),W 3 1 [bv false],W 4 1 [.fsl 1 (List.map c_L3 a0)],W 5 1 [.mp 2],(6,rup_units_lp17 a0 x210 .ready none)],7⟩ ?_
     refine jN ?_
     refine jc_seq ?_
     refine jR ?_
     refine jG 0 2 ⟨[V 0 (.yld 6),V 2 (pt 5 1),V 5 (.fsl 1 (List.map cI x351)),V 9 (.fsl 1 (List.map c_L3 a0)),V 10 (iv (List.length a0:Int)),V 11 (iv x296),V 15 (.fsl 1 (List.map cI x351)),V 16 (.fn 54 [pt 5 1])],[(0,.rows 1 (List.map cI a1)),W 1 1 [.mp 2],(2,.map (oM x295)),W 3 1 [bv false],W 4 1 [.fsl 1 (List.map c_L3 a0)],W 5 1 [.mp 2],(6,rup_units_lp17 a0 x210 .ready none)],7⟩ ?_
     refine jr_callF (i:=2) rfl rfl rfl rfl (vs:=[.fsl 1 (List.map cI x351),.fn 54 [pt 5 1]]) (by kernel_rfl) (snapL_cons rfl (snapL_cons (snapc_fn (snapL_cons (snapc_ptr (row:=[.mp 2]) (by kernel_rfl) (snapL_cons (snapc_mp (by kernel_rfl)) (snapL_nil _))) (snapL_nil _))) (snapL_nil _))) (all2_cons (fle_refl _) (all2_cons (fle_refl _) all2_nil)) (slices_ContainsFunc_int_int_se3d8_ok x351 x295) (fun _=>rfl) (fun _=>rfl) ?_
     intro x352 h352
     refine jN ?_
     refine jIf ?_ ?_
     ·refine jc_exit ?_
      refine jx_seqE ?_
      refine jx_blkE ?_
      exact jx_mid rfl (wkR [(0,some 0),(1,some 1),(2,some 2),(3,some 3),(4,some 4),(5,some 5),(6,some 6)] (fix_of hc17.2.2 (k:=7) rfl) (pc (hL 0 (noid_map ni_I _)) (pc (hC 1) (pc (hM 2) (pc (hC 3) (pc (hC 4) (pc (hC 5) (pc (.inr (.inr (.inl ⟨6,_,_,rfl,rfl,rfl,by kernel_rfl⟩))) allp_nil))))))))
     refine jc_skip ?_
     refine jx_seqN ?_
     refine jS ⟨[V 0 (.yld 6),V 2 (pt 5 1),V 5 (.fsl 1 (List.map cI x351)),V 6 (nilS),V 9 (.fsl 1 (List.map c_L3 a0)),V 10 (iv (List.length a0:Int)),V 11 (iv x296)],[(0,.rows 1 (List.map cI a1)),W 1 1 [.mp 2],(2,.map (oM x295)),W 3 1 [bv false],W 4 1 [.fsl 1 (List.map c_L3 a0)],W 5 1 [.mp 2],(6,rup_units_lp17 a0 x210 .ready none)],7⟩ ?_
     refine jc_seq ?_
     refine jR ?_
     refine jG 0 3 ⟨[V 0 (.yld 6),V 2 (pt 5 1),V 6 (nilS),V 9 (.fsl 1 (List.map c_L3 a0)),V 10 (iv (List.length a0:Int)),V 11 (iv x296),V 18 (.fsl 1 (List.map cI x351)),V 19 (iv (List.length (List.map cI x351):Int)),V 20 (iv 0)],[(0,.rows 1 (List.map cI a1)),W 1 1 [.mp 2],(2,.map (oM x295)),W 3 1 [bv false],W 4 1 [.fsl 1 (List.map c_L3 a0)],W 5 1 [.mp 2],(6,rup_units_lp17 a0 x210 .ready none)],7⟩ ?_
     simp only[List.length_map]
     refine jN ?_
     refine jc_block ?_
     refine jc_bind (fun x369=>⟨[V 0 (.yld 6),V 2 (pt 5 1),V 6 (.osl 7 0 (List.length x369) 1),V 9 (.fsl 1 (List.map c_L3 a0)),V 10 (iv (List.length a0:Int)),V 11 (iv x296)],[(0,.rows 1 (List.map cI a1)),W 1 1 [.mp 2],(2,.map (oM x295)),W 3 1 [bv false],W 4 1 [.fsl 1 (List.map c_L3 a0)],W 5 1 [.mp 2],(6,rup_units_lp17 a0 x210 .ready none),(7,.rows 1 (List.map cI x369))],8⟩) (fun x369=>(.exit 2)) (jc_loop (fun (x359,x360)=>⟨[V 0 (.yld 6),V 2 (pt 5 1),V 6 (.osl 7 0 (List.length x359) 1),V 9 (.fsl 1 (List.map c_L3 a0)),V 10 (iv (List.length a0:Int)),V 11 (iv x296),V 18 (.fsl 1 (List.map cI x351)),V 19 (iv (List.length x351:Int)),V 20 (iv x360)],[(0,.rows 1 (List.map cI a1)),W 1 1 [.mp 2],(2,.map (oM x295)),W 3 1 [bv false],W 4 1 [.fsl 1 (List.map c_L3 a0)],W 5 1 [.mp 2],(6,rup_units_lp17 a0 x210 .ready none),(7,.rows 1 (List.map cI x359))],8⟩) (wkR [(0,some 0),(1,some 1),(2,some 2),(3,some 3),(4,some 4),(5,some 5),(6,some 6),(7,none)] (fix_of hc17.2.2 (k:=7) rfl) (pc (hL 0 (noid_map ni_I _)) (pc (hC 1) (pc (hM 2) (pc (hC 3) (pc (hC 4) (pc (hC 5) (pc (.inr (.inr (.inl ⟨6,_,_,rfl,rfl,rfl,by kernel_rfl⟩))) (pc hZ allp_nil))))))))) ?_) ?_
     ·rintro⟨x359,x360⟩
      unfold rup_units_l2
      refine jS ⟨[V 0 (.yld 6),V 2 (pt 5 1),V 6 (.osl 7 0 (List.length x359) 1),V 9 (.fsl 1 (List.map c_L3 a0)),V 10 (iv (List.length a0:Int)),V 11 (iv x296),V 18 (.fsl 1 (List.map cI x351)),V 19 (iv (List.length x351:Int)),V 20 (iv x360),V 21 (bv (decide (x360 < (List.length x351:Int))))],[(0,.rows 1 (List.map cI a1)),W 1 1 [.mp 2],(2,.map (oM x295)),W 3 1 [bv false],W 4 1 [.fsl 1 (List.map c_L3 a0)],W 5 1 [.mp 2],(6,rup_units_lp17 a0 x210 .ready none),(7,.rows 1 (List.map cI x359))],8⟩ ?_
      refine jc_seq ?_
      refine jIf ?_ ?_
      ·refine jc_skip ?_
       refine jx_seqN ?_
       refine jc_seq ?_
       refine jc_bind (fun x375=>⟨[V 0 (.yld 6),V 2 (pt 5 1),V 6 (.osl 7 0 (List.length x375) 1),V 9 (.fsl 1 (List.map c_L3 a0)),V 10 (iv (List.length a0:Int)),V 11 (iv x296),V 18 (.fsl 1 (List.map cI x351)),V 19 (iv (List.length x351:Int)),V 20 (iv x360)],[(0,.rows 1 (List.map cI a1)),W 1 1 [.mp 2],(2,.map (oM x295)),W 3 1 [bv false],W 4 1 [.fsl 1 (List.map c_L3 a0)],W 5 1 [.mp 2],(6,rup_units_lp17 a0 x210 .ready none),(7,.rows 1 (List.map cI x375))],8⟩) (fun x375=>.normal) ?_ ?_
       ·refine jc_block ?_
        refine jR ?_
        refine jr_part (i:=0) (mo:=ixl x351 x360) rfl rfl rfl rfl (fun _ hc=>aop_ixf (c:=cI) (sz:=1) (e:=3) (kk:=.i64) (by kernel_rfl) (by kernel_rfl) (by kernel_rfl) (by kernel_rfl) hc) (fun _=>rfl) ?_
        intro x376 h376
        refine jG 1 2 ⟨[V 0 (.yld 6),V 2 (pt 5 1),V 6 (.osl 7 0 (List.length x359) 1),V 8 (iv x376),V 9 (.fsl 1 (List.map c_L3 a0)),V 10 (iv (List.length a0:Int)),V 11 (iv x296),V 18 (.fsl 1 (List.map cI x351)),V 19 (iv (List.length x351:Int)),V 20 (iv x360)],[(0,.rows 1 (List.map cI a1)),W 1 1 [.mp 2],(2,.map (oM x295)),W 3 1 [bv false],W 4 1 [.fsl 1 (List.map c_L3 a0)],W 5 1 [.mp 2],(6,rup_units_lp17 a0 x210 .ready none),(7,.rows 1 (List.map cI x359))],8⟩ ?_
        refine jN ?_
        refine jR ?_
        refine jG 0 3 ⟨[V 0 (.yld 6),V 2 (pt 5 1),V 6 (.osl 7 0 (List.length x359) 1),V 8 (iv x376),V 9 (.fsl 1 (List.map c_L3 a0)),V 10 (iv (List.length a0:Int)),V 11 (iv x296),V 18 (.fsl 1 (List.map cI x351)),V 19 (iv (List.length x351:Int)),V 20 (iv x360),V 24 (.mp 2),V 26 (iv (w64 (0 - x376)))],[(0,.rows 1 (List.map cI a1)),W 1 1 [.mp 2],(2,.map (oM x295)),W 3 1 [bv false],W 4 1 [.fsl 1 (List.map c_L3 a0)],W 5 1 [.mp 2],(6,rup_units_lp17 a0 x210 .ready none),(7,.rows 1 (List.map cI x359))],8⟩ ?_
        refine jr_callF (i:=3) rfl rfl rfl rfl (vs:=[.mp 2,iv (w64 (0 - x376))]) (by kernel_rfl) (snapL_cons (snapc_mp (by kernel_rfl)) (snapL_cons rfl (snapL_nil _))) (all2_cons (fle_refl _) (all2_cons (fle_refl _) all2_nil)) (rup_sheet_isTrue_ok x295 (w64 (0 - x376))) (fun _=>rfl) (fun _=>rfl) ?_
        intro x377 h377
        refine jG 4 2 ⟨[V 0 (.yld 6),V 2 (pt 5 1),V 6 (.osl 7 0 (List.length x359) 1),V 8 (iv x376),V 9 (.fsl 1 (List.map c_L3 a0)),V 10 (iv (List.length a0:Int)),V 11 (iv x296),V 18 (.fsl 1 (List.map cI x351)),V 19 (iv (List.length x351:Int)),V 20 (iv x360),V 29 (bv (!x377))],[(0,.rows 1 (List.map cI a1)),W 1 1 [.mp 2],(2,.map (oM x295)),W 3 1 [bv false],W 4 1 [.fsl 1 (List.map c_L3 a0)],W 5 1 [.mp 2],(6,rup_units_lp17 a0 x210 .ready none),(7,.rows 1 (List.map cI x359))],8⟩ ?_
        refine jr_bind 6 5 (fun x379=>⟨[V 0 (.yld 6),V 2 (pt 5 1),V 6 (.osl 7 0 (List.length x359) 1),V 8 (iv x376),V 9 (.fsl 1 (List.map c_L3 a0)),V 10 (iv (List.length a0:Int)),V 11 (iv x296),V 18 (.fsl 1 (List.map cI x351)),V 19 (iv (List.length x351:Int)),V 20 (iv x360),V 34 (bv x379)],[(0,.rows 1 (List.map cI a1)),W 1 1 [.mp 2],(2,.map (oM x295)),W 3 1 [bv false],W 4 1 [.fsl 1 (List.map c_L3 a0)],W 5 1 [.mp 2],(6,rup_units_lp17 a0 x210 .ready none),(7,.rows 1 (List.map cI x359))],8⟩) ?_ ?_
        ·refine jSp 29 ?_ ?_
         ·refine jG 0 2 ⟨[V 0 (.yld 6),V 2 (pt 5 1),V 6 (.osl 7 0 (List.length x359) 1),V 8 (iv x376),V 9 (.fsl 1 (List.map c_L3 a0)),V 10 (iv (List.length a0:Int)),V 11 (iv x296),V 18 (.fsl 1 (List.map cI x351)),V 19 (iv (List.length x351:Int)),V 20 (iv x360),(29,.lit true),V 30 (.osl 7 0 (List.length x359) 1),V 31 (iv x376)],[(0,.rows 1 (List.map cI a1)),W 1 1 [.mp 2],(2,.map (oM x295)),W 3 1 [bv false],W 4 1 [.fsl 1 (List.map c_L3 a0)],W 5 1 [.mp 2],(6,rup_units_lp17 a0 x210 .ready none),(7,.rows 1 (List.map cI x359))],8⟩ ?_
          refine jr_callF (i:=2) rfl rfl rfl rfl (vs:=[.osl 7 0 (List.length x359) 1,iv x376]) (by kernel_rfl) (snapL_cons (snapc_own fz_I (by kernel_rfl)) (snapL_cons rfl (snapL_nil _))) (all2_cons (fle_refl _) (all2_cons (fle_refl _) all2_nil)) (slices_Contains_int_int_ok x359 x376) (fun _=>rfl) (fun _=>rfl) ?_
          intro x380 h380
          refine jG 3 2 ⟨[V 0 (.yld 6),V 2 (pt 5 1),V 6 (.osl 7 0 (List.length x359) 1),V 8 (iv x376),V 9 (.fsl 1 (List.map c_L3 a0)),V 10 (iv (List.length a0:Int)),V 11 (iv x296),V 18 (.fsl 1 (List.map cI x351)),V 19 (iv (List.length x351:Int)),V 20 (iv x360),V 34 (bv (!x380))],[(0,.rows 1 (List.map cI a1)),W 1 1 [.mp 2],(2,.map (oM x295)),W 3 1 [bv false],W 4 1 [.fsl 1 (List.map c_L3 a0)],W 5 1 [.mp 2],(6,rup_units_lp17 a0 x210 .ready none),(7,.rows 1 (List.map cI x359))],8⟩ ?_
          refine jr_nil rfl ?_
          exact jx_mid rfl (wkR [(0,some 0),(1,some 1),(2,some 2),(3,some 3),(4,some 4),(5,some 5),(6,some 6),(7,some 7)] (fix_of hc17.2.2 (k:=7) rfl) (pc (hL 0 (noid_map ni_I _)) (pc (hC 1) (pc (hM 2) (pc (hC 3) (pc (hC 4) (pc (hC 5) (pc (.inr (.inr (.inl ⟨6,_,_,rfl,rfl,rfl,by kernel_rfl⟩))) (pc (hL 7 (noid_map ni_I _)) allp_nil)))))))))
         refine jG 0 5 ⟨[V 0 (.yld 6),V 2 (pt 5 1),V 6 (.osl 7 0 (List.length x359) 1),V 8 (iv x376),V 9 (.fsl 1 (List.map c_L3 a0)),V 10 (iv (List.length a0:Int)),V 11 (iv x296),V 18 (.fsl 1 (List.map cI x351)),V 19 (iv (List.length x351:Int)),V 20 (iv x360),V 34 (bv false)],[(0,.rows 1 (List.map cI a1)),W 1 1 [.mp 2],(2,.map (oM x295)),W 3 1 [bv false],W 4 1 [.fsl 1 (List.map c_L3 a0)],W 5 1 [.mp 2],(6,rup_units_lp17 a0 x210 .ready none),(7,.rows 1 (List.map cI x359))],8⟩ ?_
         refine jr_nil rfl ?_
         exact jx_mid rfl (wkR [(0,some 0),(1,some 1),(2,some 2),(3,some 3),(4,some 4),(5,some 5),(6,some 6),(7,some 7)] (fix_of hc17.2.2 (k:=7) rfl) (pc (hL 0 (noid_map ni_I _)) (pc (hC 1) (pc (hM 2) (pc (hC 3) (pc (hC 4) (pc (hC 5) (pc (.inr (.inr (.inl ⟨6,_,_,rfl,rfl,rfl,by kernel_rfl⟩))) (pc (hL 7 (noid_map ni_I _)) allp_nil)))))))))
        intro x379
        refine jN ?_
        refine jIf ?_ ?_
        ·refine jc_reg ?_
         refine jG 0 3 ⟨[V 0 (.yld 6),V 2 (pt 5 1),V 9 (.fsl 1 (List.map c_L3 a0)),V 10 (iv (List.length a0:Int)),V 11 (iv x296),V 18 (.fsl 1 (List.map cI x351)),V 19 (iv (List.length x351:Int)),V 20 (iv x360),V 35 (.osl 7 0 (List.length x359) 1),V 37 (.osl 8 0 (List.length [x376]) 1)],[(0,.rows 1 (List.map cI a1)),W 1 1 [.mp 2],(2,.map (oM x295)),W 3 1 [bv false],W 4 1 [.fsl 1 (List.map c_L3 a0)],W 5 1 [.mp 2],(6,rup_units_lp17 a0 x210 .ready none),(7,.rows 1 (List.map cI x359)),(8,.rows 1 (List.map cI [x376]))],9⟩ ?_
         refine jr_part (i:=3) (mo:=app 8 x359 [x376]) rfl rfl rfl rfl (fun _ hc=>aop_app (u:=.osl 7 0 (List.length x359) 1) (w:=.osl 8 0 (List.length [x376]) 1) (e:=3) (td:=.slice 3) (by kernel_rfl) (by kernel_rfl) (by kernel_rfl) (by kernel_rfl) (.inl ⟨_,rfl⟩) (appendOf_own (c:=cI) (sz:=1) (b:=8) (id:=7) (by kernel_rfl) (by kernel_rfl) (rows_own (by kernel_rfl)) (List.cons_ne_nil _ _) hc)) (fun _=>rfl) ?_
         intro x381 h381
         refine jG 4 1 ⟨[V 0 (.yld 6),V 2 (pt 5 1),V 6 (.osl 9 0 (List.length x381) 1),V 9 (.fsl 1 (List.map c_L3 a0)),V 10 (iv (List.length a0:Int)),V 11 (iv x296),V 18 (.fsl 1 (List.map cI x351)),V 19 (iv (List.length x351:Int)),V 20 (iv x360)],[(0,.rows 1 (List.map cI a1)),W 1 1 [.mp 2],(2,.map (oM x295)),W 3 1 [bv false],W 4 1 [.fsl 1 (List.map c_L3 a0)],W 5 1 [.mp 2],(6,rup_units_lp17 a0 x210 .ready none),(9,.rows 1 (List.map cI x381))],10⟩ ?_
         refine jr_nil rfl ?_
         refine jx_blkN ?_
         exact jx_mid rfl (wkR [(0,some 0),(1,some 1),(2,some 2),(3,some 3),(4,some 4),(5,some 5),(6,some 6),(7,some 9)] (fix_of hc17.2.2 (k:=7) rfl) (pc (hL 0 (noid_map ni_I _)) (pc (hC 1) (pc (hM 2) (pc (hC 3) (pc (hC 4) (pc (hC 5) (pc (.inr (.inr (.inl ⟨6,_,_,rfl,rfl,rfl,by kernel_rfl⟩))) (pc (hL 9 (noid_map ni_I _)) allp_nil)))))))))
        refine jc_skip ?_
        refine jx_blkN ?_
        exact jx_mid rfl (wkR [(0,some 0),(1,some 1),(2,some 2),(3,some 3),(4,some 4),(5,some 5),(6,some 6),(7,some 7)] (fix_of hc17.2.2 (k:=7) rfl) (pc (hL 0 (noid_map ni_I _)) (pc (hC 1) (pc (hM 2) (pc (hC 3) (pc (hC 4) (pc (hC 5) (pc (.inr (.inr (.inl ⟨6,_,_,rfl,rfl,rfl,by kernel_rfl⟩))) (pc (hL 7 (noid_map ni_I _)) allp_nil)))))))))
       intro x375
       refine jx_seqN ?_
       refine jT ⟨[V 0 (.yld 6),V 2 (pt 5 1),V 6 (.osl 7 0 (List.length x375) 1),V 9 (.fsl 1 (List.map c_L3 a0)),V 10 (iv (List.length a0:Int)),V 11 (iv x296),V 18 (.fsl 1 (List.map cI x351)),V 19 (iv (List.length x351:Int)),V 20 (iv (w64 (x360 + 1)))],[(0,.rows 1 (List.map cI a1)),W 1 1 [.mp 2],(2,.map (oM x295)),W 3 1 [bv false],W 4 1 [.fsl 1 (List.map c_L3 a0)],W 5 1 [.mp 2],(6,rup_units_lp17 a0 x210 .ready none),(7,.rows 1 (List.map cI x375))],8⟩ ?_
       exact jx_next (wkR [(0,some 0),(1,some 1),(2,some 2),(3,some 3),(4,some 4),(5,some 5),(6,some 6),(7,some 7)] (fix_of hc17.2.2 (k:=7) rfl) (pc (hL 0 (noid_map ni_I _)) (pc (hC 1) (pc (hM 2) (pc (hC 3) (pc (hC 4) (pc (hC 5) (pc (.inr (.inr (.inl ⟨6,_,_,rfl,rfl,rfl,by kernel_rfl⟩))) (pc (hL 7 (noid_map ni_I _)) allp_nil)))))))))
      refine jc_exit ?_
      refine jx_seqE ?_
      exact jx_done rfl nofun (wkR [(0,some 0),(1,some 1),(2,some 2),(3,some 3),(4,some 4),(5,some 5),(6,some 6),(7,some 7)] (fix_of hc17.2.2 (k:=7) rfl) (pc (hL 0 (noid_map ni_I _)) (pc (hC 1) (pc (hM 2) (pc (hC 3) (pc (hC 4) (pc (hC 5) (pc (.inr (.inr (.inl ⟨6,_,_,rfl,rfl,rfl,by kernel_rfl⟩))) (pc (hL 7 (noid_map ni_I _)) allp_nil)))))))))
     intro x369
     refine jx_blkE ?_
     refine jx_seqN ?_
     refine jR ?_
     refine jG 0 2 ⟨[V 0 (.yld 6),V 2 (pt 5 1),V 9 (.fsl 1 (List.map c_L3 a0)),V 10 (iv (List.length a0:Int)),V 11 (iv x296),V 40 (.yld 6),V 41 (.osl 7 0 (List.length x369) 1)],[(0,.rows 1 (List.map cI a1)),W 1 1 [.mp 2],(2,.map (oM x295)),W 3 1 [bv false],W 4 1 [.fsl 1 (List.map c_L3 a0)],W 5 1 [.mp 2],(6,rup_units_lp17 a0 x210 .ready none),(7,.rows 1 (List.map cI x369))],8⟩ ?_
     refine jr_yield (i:=2) (l:=6) (Nc:=66) (Kc:=[V 0 (.fsl 1 (List.map c_L3 a0)),V 6 (pt 1 1),V 9 (pt 3 1),V 10 (iv (List.length x210:Int)),V 36 (.fn 52 [pt 4 1,pt 5 1])]) (ps:=[37]) (vs:=[.osl 7 0 (List.length x369) 1]) (fun y=>match y with | Sum.inl _=>⟨[],[(0,.rows 1 (List.map cI a1)),W 1 1 [.mp 2],(2,.map (oM x295)),W 3 1 [bv true],W 4 1 [.fsl 1 (List.map c_L3 a0)],W 5 1 [.mp 2],(6,rup_units_lp17 a0 x210 .busy none)],8⟩ | Sum.inr x386=>⟨[],[(0,.rows 1 (List.map cI a1)),W 1 1 [.mp 2],(2,.map (oM x386)),W 3 1 [bv false],W 4 1 [.fsl 1 (List.map c_L3 a0)],W 5 1 [.mp 2],(6,rup_units_lp17 a0 x210 .busy none)],8⟩) (fun y=>match y with | Sum.inl _=>(.exit 2) | Sum.inr x386=>.normal) [0,2,9,10,11,42] [0,1,2,3,4,5,6] (after:=(fun y=>match y with | Sum.inl _=>⟨[V 0 (.yld 6),V 2 (pt 5 1),V 9 (.fsl 1 (List.map c_L3 a0)),V 10 (iv (List.length a0:Int)),V 11 (iv x296),V 42 (bv false)],[(0,.rows 1 (List.map cI a1)),W 1 1 [.mp 2],(2,.map (oM x295)),W 3 1 [bv true],W 4 1 [.fsl 1 (List.map c_L3 a0)],W 5 1 [.mp 2],(6,rup_units_lp17 a0 x210 .done (some (.exit 2)))],8⟩ | Sum.inr x386=>⟨[V 0 (.yld 6),V 2 (pt 5 1),V 9 (.fsl 1 (List.map c_L3 a0)),V 10 (iv (List.length a0:Int)),V 11 (iv x296),V 42 (bv true)],[(0,.rows 1 (List.map cI a1)),W 1 1 [.mp 2],(2,.map (oM x386)),W 3 1 [bv false],W 4 1 [.fsl 1 (List.map c_L3 a0)],W 5 1 [.mp 2],(6,rup_units_lp17 a0 x210 .ready none)],8⟩)) rfl rfl rup_units_y19_aw rup_units_y19_bw (by kernel_rfl) (by kernel_rfl) (yctx_of hc17 rfl) rfl (by kernel_rfl) rfl ?_ (by rintro (_ | x386) <;> exact⟨none,by kernel_rfl⟩) (by rintro (_ | x386) <;> kernel_rfl) ?_
     ·intro F21 hy21
      refine jT ⟨[V 6 (pt 1 1),V 9 (pt 3 1),V 11 (.osl 7 0 (List.length x369) 1)],[(0,.rows 1 (List.map cI a1)),W 1 1 [.mp 2],(2,.map (oM x295)),W 3 1 [bv false],W 4 1 [.fsl 1 (List.map c_L3 a0)],W 5 1 [.mp 2],(6,rup_units_lp17 a0 x210 .ready none),(7,.rows 1 (List.map cI x369))],8⟩ ?_
      refine jx_asg hy21 rfl ?_
      refine jc_block ?_
      refine jc_block ?_
      refine jS ⟨[V 6 (pt 1 1),V 9 (pt 3 1),V 11 (.osl 7 0 (List.length x369) 1),V 38 (bv ((List.length x369:Int) == 0))],[(0,.rows 1 (List.map cI a1)),W 1 1 [.mp 2],(2,.map (oM x295)),W 3 1 [bv false],W 4 1 [.fsl 1 (List.map c_L3 a0)],W 5 1 [.mp 2],(6,rup_units_lp17 a0 x210 .busy none),(7,.rows 1 (List.map cI x369))],8⟩ ?_
      refine jIf ?_ ?_
      ·refine jS ⟨[],[(0,.rows 1 (List.map cI a1)),W 1 1 [.mp 2],(2,.map (oM x295)),W 3 1 [bv true],W 4 1 [.fsl 1 (List.map c_L3 a0)],W 5 1 [.mp 2],(6,rup_units_lp17 a0 x210 .busy none)],8⟩ ?_
       refine jc_exit ?_
       refine jx_blkX rfl ?_
       refine jx_blkX rfl ?_
       exact jx_mid rfl (wkR [(0,some 0),(1,some 1),(2,some 2),(3,some 3),(4,some 4),(5,some 5),(6,some 6),(7,some 7)] (fix_of hy21.2 (k:=8) rfl) (pc (hL 0 (noid_map ni_I _)) (pc (hC 1) (pc (hM 2) (pc (hC 3) (pc (hC 4) (pc (hC 5) (pc (.inr (.inr (.inl ⟨6,_,_,rfl,rfl,rfl,by kernel_rfl⟩))) allp_nil))))))))
      refine jR ?_
      refine jG 0 4 ⟨[V 6 (pt 1 1),V 11 (.osl 7 0 (List.length x369) 1),V 46 (bv ((List.length x369:Int) == 1))],[(0,.rows 1 (List.map cI a1)),W 1 1 [.mp 2],(2,.map (oM x295)),W 3 1 [bv false],W 4 1 [.fsl 1 (List.map c_L3 a0)],W 5 1 [.mp 2],(6,rup_units_lp17 a0 x210 .busy none),(7,.rows 1 (List.map cI x369))],8⟩ ?_
      refine jr_bind 4 7 (fun x389=>⟨[V 6 (pt 1 1),V 11 (.osl 7 0 (List.length x369) 1),V 53 (bv x389)],[(0,.rows 1 (List.map cI a1)),W 1 1 [.mp 2],(2,.map (oM x295)),W 3 1 [bv false],W 4 1 [.fsl 1 (List.map c_L3 a0)],W 5 1 [.mp 2],(6,rup_units_lp17 a0 x210 .busy none),(7,.rows 1 (List.map cI x369))],8⟩) ?_ ?_
      ·refine jSp 46 ?_ ?_
       ·refine jG 0 2 ⟨[V 6 (pt 1 1),V 11 (.osl 7 0 (List.length x369) 1),(46,.lit true),V 47 (.mp 2),V 48 (.osl 7 0 (List.length x369) 1)],[(0,.rows 1 (List.map cI a1)),W 1 1 [.mp 2],(2,.map (oM x295)),W 3 1 [bv false],W 4 1 [.fsl 1 (List.map c_L3 a0)],W 5 1 [.mp 2],(6,rup_units_lp17 a0 x210 .busy none),(7,.rows 1 (List.map cI x369))],8⟩ ?_
        refine jr_part (i:=2) (mo:=ixl x369 0) rfl rfl rfl rfl (fun _ hc=>aop_ixo0 (sz:=1) (e:=3) (kk:=.i64) (id:=7) (by kernel_rfl) (by kernel_rfl) (by kernel_rfl) (by kernel_rfl) hc) (fun _=>rfl) ?_
        intro x390 h390
        refine jr_one (i:=3) (v:=iv x390) rfl rfl rfl rfl (aop_ldo (l:=x369) (c:=cI) (id:=7) (k:=(Int.toNat 0)) (sz:=1) (off:=0) (a:=x390) (by kernel_rfl) (by kernel_rfl) (ixl_lt h390).2.2 (by kernel_rfl)) rfl ?_
        refine jr_callF (i:=4) rfl rfl rfl rfl (vs:=[.mp 2,iv x390]) (by kernel_rfl) (snapL_cons (snapc_mp (by kernel_rfl)) (snapL_cons rfl (snapL_nil _))) (all2_cons (fle_refl _) (all2_cons (fle_refl _) all2_nil)) (rup_sheet_isTrue_ok x295 x390) (fun _=>rfl) (fun _=>rfl) ?_
        intro x391 h391
        refine jG 5 2 ⟨[V 6 (pt 1 1),V 11 (.osl 7 0 (List.length x369) 1),V 53 (bv (!x391))],[(0,.rows 1 (List.map cI a1)),W 1 1 [.mp 2],(2,.map (oM x295)),W 3 1 [bv false],W 4 1 [.fsl 1 (List.map c_L3 a0)],W 5 1 [.mp 2],(6,rup_units_lp17 a0 x210 .busy none),(7,.rows 1 (List.map cI x369))],8⟩ ?_
        refine jr_nil rfl ?_
        exact jx_mid rfl (wkR [(0,some 0),(1,some 1),(2,some 2),(3,some 3),(4,some 4),(5,some 5),(6,some 6),(7,some 7)] (fix_of hy21.2 (k:=8) rfl) (pc (hL 0 (noid_map ni_I _)) (pc (hC 1) (pc (hM 2) (pc (hC 3) (pc (hC 4) (pc (hC 5) (pc (.inr (.inr (.inl ⟨6,_,_,rfl,rfl,rfl,by kernel_rfl⟩))) (pc (hL 7 (noid_map ni_I _)) allp_nil)))))))))
       refine jG 0 7 ⟨[V 6 (pt 1 1),V 11 (.osl 7 0 (List.length x369) 1),V 53 (bv false)],[(0,.rows 1 (List.map cI a1)),W 1 1 [.mp 2],(2,.map (oM x295)),W 3 1 [bv false],W 4 1 [.fsl 1 (List.map c_L3 a0)],W 5 1 [.mp 2],(6,rup_units_lp17 a0 x210 .busy none),(7,.rows 1 (List.map cI x369))],8⟩ ?_
       refine jr_nil rfl ?_
       exact jx_mid rfl (wkR [(0,some 0),(1,some 1),(2,some 2),(3,some 3),(4,some 4),(5,some 5),(6,some 6),(7,some 7)] (fix_of hy21.2 (k:=8) rfl) (pc (hL 0 (noid_map ni_I _)) (pc (hC 1) (pc (hM 2) (pc (hC 3) (pc (hC 4) (pc (hC 5) (pc (.inr (.inr (.inl ⟨6,_,_,rfl,rfl,rfl,by kernel_rfl⟩))) (pc (hL 7 (noid_map ni_I _)) allp_nil)))))))))
      intro x389
      refine jG 11 1 ⟨[V 6 (pt 1 1),V 11 (.osl 7 0 (List.length x369) 1),V 42 (bv x389)],[(0,.rows 1 (List.map cI a1)),W 1 1 [.mp 2],(2,.map (oM x295)),W 3 1 [bv false],W 4 1 [.fsl 1 (List.map c_L3 a0)],W 5 1 [.mp 2],(6,rup_units_lp17 a0 x210 .busy none),(7,.rows 1 (List.map cI x369))],8⟩ ?_
      refine jN ?_
      refine jIf ?_ ?_
      ·refine jc_reg ?_
       refine jG 0 2 ⟨[V 54 (.mp 2),V 55 (.osl 7 0 (List.length x369) 1)],[(0,.rows 1 (List.map cI a1)),W 1 1 [.mp 2],(2,.map (oM x295)),W 3 1 [bv false],W 4 1 [.fsl 1 (List.map c_L3 a0)],W 5 1 [.mp 2],(6,rup_units_lp17 a0 x210 .busy none),(7,.rows 1 (List.map cI x369))],8⟩ ?_
       refine jr_part (i:=2) (mo:=ixl x369 0) rfl rfl rfl rfl (fun _ hc=>aop_ixo0 (sz:=1) (e:=3) (kk:=.i64) (id:=7) (by kernel_rfl) (by kernel_rfl) (by kernel_rfl) (by kernel_rfl) hc) (fun _=>rfl) ?_
       intro x392 h392
       refine jr_one (i:=3) (v:=iv x392) rfl rfl rfl rfl (aop_ldo (l:=x369) (c:=cI) (id:=7) (k:=(Int.toNat 0)) (sz:=1) (off:=0) (a:=x392) (by kernel_rfl) (by kernel_rfl) (ixl_lt h392).2.2 (by kernel_rfl)) rfl ?_
       refine jr_one (i:=4) (v:=iv (mget x295 x392)) (us:=[]) rfl rfl rfl rfl (aop_look (l:=x295) (id:=2) (kk:=x392) (kt:=3) (et:=3) (by kernel_rfl) (by kernel_rfl) (by kernel_rfl) (by kernel_rfl) (by kernel_rfl) (by kernel_rfl)) rfl ?_
       refine jG 5 1 ⟨[V 54 (.mp 2),V 57 (iv x392),V 59 (iv (w64 ((mget x295 x392) + 1)))],[(0,.rows 1 (List.map cI a1)),W 1 1 [.mp 2],(2,.map (oM x295)),W 3 1 [bv false],W 4 1 [.fsl 1 (List.map c_L3 a0)],W 5 1 [.mp 2],(6,rup_units_lp17 a0 x210 .busy none)],8⟩ ?_
       refine jr_sto (i:=6) [] [0,1,2,3,4,5,6] (st1:=⟨[],[(0,.rows 1 (List.map cI a1)),W 1 1 [.mp 2],(2,.map (oM (mput x295 x392 (w64 ((mget x295 x392) + 1))))),W 3 1 [bv false],W 4 1 [.fsl 1 (List.map c_L3 a0)],W 5 1 [.mp 2],(6,rup_units_lp17 a0 x210 .busy none)],8⟩) rfl rfl rfl rfl (aop_mput (l:=x295) (id:=2) (kk:=x392) (v:=(w64 ((mget x295 x392) + 1))) (kt:=3) (et:=3) (by kernel_rfl) (by kernel_rfl) (by kernel_rfl) (by kernel_rfl) (by kernel_rfl) (by kernel_rfl)) (by kernel_rfl) ?_
       refine jr_nil rfl ?_
       refine jx_blkN ?_
       refine jx_blkN ?_
       exact jx_mid rfl (wkR [(0,some 0),(1,some 1),(2,some 2),(3,some 3),(4,some 4),(5,some 5),(6,some 6),(7,some 7)] (fix_of hy21.2 (k:=8) rfl) (pc (hL 0 (noid_map ni_I _)) (pc (hC 1) (pc (hM 2) (pc (hC 3) (pc (hC 4) (pc (hC 5) (pc (.inr (.inr (.inl ⟨6,_,_,rfl,rfl,rfl,by kernel_rfl⟩))) allp_nil))))))))
      refine jc_skip ?_
      refine jx_blkN ?_
      refine jx_blkN ?_
      exact jx_mid rfl (wkR [(0,some 0),(1,some 1),(2,some 2),(3,some 3),(4,some 4),(5,some 5),(6,some 6),(7,some 7)] (fix_of hy21.2 (k:=8) rfl) (pc (hL 0 (noid_map ni_I _)) (pc (hC 1) (pc (hM 2) (pc (hC 3) (pc (hC 4) (pc (hC 5) (pc (.inr (.inr (.inl ⟨6,_,_,rfl,rfl,rfl,by kernel_rfl⟩))) allp_nil))))))))
     rintro (_ | x386)
     ·refine jG 3 1 ⟨[V 0 (.yld 6),V 2 (pt 5 1),V 9 (.fsl 1 (List.map c_L3 a0)),V 10 (iv (List.length a0:Int)),V 11 (iv x296),V 43 (bv true)],[(0,.rows 1 (List.map cI a1)),W 1 1 [.mp 2],(2,.map (oM x295)),W 3 1 [bv true],W 4 1 [.fsl 1 (List.map c_L3 a0)],W 5 1 [.mp 2],(6,rup_units_lp17 a0 x210 .done (some (.exit 2)))],8⟩ ?_
      refine jN ?_
      refine jc_condK (c:=true) (by kernel_rfl) ?_
      refine jc_ret ?_
      refine jx_blkR ?_
      exact jx_mid rfl (wkR [(0,some 0),(1,some 1),(2,some 2),(3,some 3),(4,some 4),(5,some 5),(6,some 6)] (fix_of hc17.2.2 (k:=7) rfl) (pc (hL 0 (noid_map ni_I _)) (pc (hC 1) (pc (hM 2) (pc (hC 3) (pc (hC 4) (pc (hC 5) (pc (.inr (.inr (.inl ⟨6,_,_,rfl,rfl,rfl,by kernel_rfl⟩))) allp_nil))))))))
     refine jG 3 1 ⟨[V 0 (.yld 6),V 2 (pt 5 1),V 9 (.fsl 1 (List.map c_L3 a0)),V 10 (iv (List.length a0:Int)),V 11 (iv x296),V 43 (bv false)],[(0,.rows 1 (List.map cI a1)),W 1 1 [.mp 2],(2,.map (oM x386)),W 3 1 [bv false],W 4 1 [.fsl 1 (List.map c_L3 a0)],W 5 1 [.mp 2],(6,rup_units_lp17 a0 x210 .ready none)],8⟩ ?_
     refine jN ?_
     refine jc_condK (c:=false) (by kernel_rfl) ?_
     refine jc_skip ?_
     refine jx_blkN ?_
     exact jx_mid rfl (wkR [(0,some 0),(1,some 1),(2,some 2),(3,some 3),(4,some 4),(5,some 5),(6,some 6)] (fix_of hc17.2.2 (k:=7) rfl) (pc (hL 0 (noid_map ni_I _)) (pc (hC 1) (pc (hM 2) (pc (hC 3) (pc (hC 4) (pc (hC 5) (pc (.inr (.inr (.inl ⟨6,_,_,rfl,rfl,rfl,by kernel_rfl⟩))) allp_nil))))))))
    rintro (x350 | _)
    ·refine jx_seqN ?_
     refine jT ⟨[V 0 (.yld 6),V 2 (pt 5 1),V 9 (.fsl 1 (List.map c_L3 a0)),V 10 (iv (List.length a0:Int)),V 11 (iv (w64 (x296 + 1)))],[(0,.rows 1 (List.map cI a1)),W 1 1 [.mp 2],(2,.map (oM x350)),W 3 1 [bv false],W 4 1 [.fsl 1 (List.map c_L3 a0)],W 5 1 [.mp 2],(6,rup_units_lp17 a0 x210 .ready none)],7⟩ ?_
     exact jx_next (wkR [(0,some 0),(1,some 1),(2,some 2),(3,some 3),(4,some 4),(5,some 5),(6,some 6)] (fix_of hc17.2.2 (k:=7) rfl) (pc (hL 0 (noid_map ni_I _)) (pc (hC 1) (pc (hM 2) (pc (hC 3) (pc (hC 4) (pc (hC 5) (pc (.inr (.inr (.inl ⟨6,_,_,rfl,rfl,rfl,by kernel_rfl⟩))) allp_nil))))))))
    refine jx_seqR ?_
    exact jx_done rfl nofun (wkR [(0,some 0),(1,some 1),(2,some 2),(3,some 3),(4,some 4),(5,some 5),(6,some 6)] (fix_of hc17.2.2 (k:=7) rfl) (pc (hL 0 (noid_map ni_I _)) (pc (hC 1) (pc (hM 2) (pc (hC 3) (pc (hC 4) (pc (hC 5) (pc (.inr (.inr (.inl ⟨6,_,_,rfl,rfl,rfl,by kernel_rfl⟩))) allp_nil))))))))
   refine jc_exit ?_
   refine jx_seqE ?_
   exact jx_done rfl nofun (wkR [(0,some 0),(1,some 1),(2,some 2),(3,some 3),(4,some 4),(5,some 5),(6,some 6)] (fix_of hc17.2.2 (k:=7) rfl) (pc (hL 0 (noid_map ni_I _)) (pc (hC 1) (pc (hM 2) (pc (hC 3) (pc (hC 4) (pc (hC 5) (pc (.inr (.inr (.inl ⟨6,_,_,rfl,rfl,rfl,by kernel_rfl⟩))) allp_nil))))))))
  rintro (x324 | x325)
  ·refine jx_blkR ?_
   refine jx_rng hc17 (.inr rfl) rfl nofun rfl ?_
   refine jx_blkX rfl ?_
   refine jx_seqE ?_
   refine jx_blkX rfl ?_
   exact jx_done rfl nofun (wkR [(0,some 0),(1,some 1),(2,some 2),(3,some 3)] (fix_of hF (k:=1) rfl) (pc (hL 0 (noid_map ni_I _)) (pc (hC 1) (pc (hM 2) (pc (hC 3) allp_nil)))))
  refine jx_blkE ?_
  refine jx_rng hc17 (.inl rfl) rfl nofun rfl ?_
  refine jx_blkN ?_
  refine jx_seqN ?_
  refine jR ?_
  refine jG 0 1 ⟨[V 0 (.fsl 1 (List.map c_L3 a0)),V 6 (pt 1 1),V 9 (pt 3 1),V 10 (iv (List.length x210:Int)),V 60 (.mp 2)],[(0,.rows 1 (List.map cI a1)),W 1 1 [.mp 2],(2,.map (oM x325)),W 3 1 [bv false]],7⟩ ?_
  refine jr_one (i:=1) (v:=iv (List.length x325:Int)) (us:=[]) rfl rfl rfl rfl (aop_lenm (l:=x325) (id:=2) (kt:=3) (et:=3) (by kernel_rfl) (by kernel_rfl) (by kernel_rfl) (by kernel_rfl)) rfl ?_
  refine jG 2 2 ⟨[V 0 (.fsl 1 (List.map c_L3 a0)),V 6 (pt 1 1),V 9 (pt 3 1),V 63 (bv ((List.length x325:Int) == (List.length x210:Int)))],[(0,.rows 1 (List.map cI a1)),W 1 1 [.mp 2],(2,.map (oM x325)),W 3 1 [bv false]],7⟩ ?_
  refine jN ?_
  refine jIf ?_ ?_
  ·refine jc_exit ?_
   refine jx_blkX rfl ?_
   exact jx_done rfl nofun (wkR [(0,some 0),(1,some 1),(2,some 2),(3,some 3)] (fix_of hF (k:=1) rfl) (pc (hL 0 (noid_map ni_I _)) (pc (hC 1) (pc (hM 2) (pc (hC 3) allp_nil)))))
  refine jc_skip ?_
  refine jx_blkN ?_
  exact jx_next (wkR [(0,some 0),(1,some 1),(2,some 2),(3,some 3)] (fix_of hF (k:=1) rfl) (pc (hL 0 (noid_map ni_I _)) (pc (hC 1) (pc (hM 2) (pc (hC 3) allp_nil)))))
 rintro⟨x268,x269⟩
 refine jx_blkE ?_
 refine jx_seqN ?_
 refine jS ⟨[V 4 (.mp 2),V 5 (bv x269)],[(0,.rows 1 (List.map cI a1)),(2,.map (oM x268))],4⟩ ?_
 refine jc_ret ?_
 refine jx_scopeR ?_
 exact jx_retM (rup_units_T a0 a1 (x268,x269)) (.inr rfl) (wkR [(0,some 0),(1,some 2)] (fix_of hF (k:=1) rfl) (pc (hL 0 (noid_map ni_I _)) (pc (hM 2) allp_nil))))
abbrev rup_Step_r1:List LO:=[lo 4 (.assign (.const (.bool false))) 4]
abbrev rup_Step_r2:List LO:=[lo 5 (.assign (.const (.slice none 0 0))) 29]
abbrev rup_Step_r3:List LO:=[lm 10 1 29,lo 11 (.call ⟨.builtin .len,#[.tmp 10],#[29]⟩) 3,lo 12 (.move (.const (.int .i64 0))) 3]
abbrev rup_Step_r4:List LO:=[lo 13 (.binOp .lss 3 (.tmp 12) (.tmp 11) 3) 0]
abbrev rup_Step_r5:List LO:=[lo 14 (.indexAddr 29 (.tmp 10) (.tmp 12)) 0,lo 15 (.load 3 (.tmp 14)) 3,lo 7 (.assign (.tmp 15)) 3]
abbrev rup_Step_r6:List LO:=[lm 16 7 3,lo 17 (.call ⟨.value (.func 24),#[.tmp 16],#[3]⟩) 4,lo 18 (.unOp .not 4 (.tmp 17)) 4]
abbrev rup_Step_r7:List LO:=[lo 4 (.assign (.const (.bool false))) 4]
abbrev rup_Step_r8:List LO:=[lm 19 5 29,lm 20 7 3,lo 21 (.unOp .neg 3 (.tmp 20)) 3,lo 22 (.buildSlice 29 1 #[(0,.tmp 21)]) 29,lo 23 (.call ⟨.builtin .append,#[.tmp 19,.tmp 22],#[29,29]⟩) 29,lo 5 (.assign (.tmp 23)) 29]
abbrev rup_Step_r9:List LO:=[lo 24 (.binOp .add 3 (.tmp 12) (.const (.int .i64 1)) 3) 3,lm 12 24 3]
abbrev rup_Step_r10:List LO:=[lm 26 0 22,lm 27 5 29,lo 28 (.call ⟨.value (.func 25),#[.tmp 26,.tmp 27],#[22,29]⟩) 57,lm 25 28 57,lo 29 (.extract (.tmp 25) 0) 56,lo 30 (.extract (.tmp 25) 1) 4,lo 8 (.assign (.tmp 29)) 56,lo 9 (.assign (.tmp 30)) 4]
abbrev rup_Step_r11:List LO:=[lm 31 9 4,lo 4 (.assign (.tmp 31)) 4]
abbrev rup_Step_c:LC:=.seq (.reg false rup_Step_r1) (.seq (.reg false rup_Step_r2) (.seq (.seq (.reg false rup_Step_r3) (.block 0 (.loop (.seq (.reg false rup_Step_r4) (.seq (.cond (.tmp 13) .skip (.exit 0)) (.seq (.block 1 (.seq (.reg false rup_Step_r5) (.seq (.seq (.reg false rup_Step_r6) (.cond (.tmp 18) (.seq (.reg false rup_Step_r7) .ret) .skip)) (.reg false rup_Step_r8)))) (.reg false rup_Step_r9))))))) (.seq (.reg false rup_Step_r10) (.seq (.reg false rup_Step_r11) .ret))))
theorem rup_Step_k:FnOk E 15 32 [.tmp 4] rup_Step_c:=⟨⟨Go.Proofs.Tryd.f15,by kernel_rfl,by kernel_rfl,by kernel_rfl,by kernel_rfl,by kernel_rfl⟩,rfl,rfl⟩
noncomputable def rup_Step_l1 (a1:(List Int)):(List Int × Int)→Option (Step (List Int × Int) ((Unit) ⊕ (List Int))):=fun (x4,x5)=>(if (decide (x5 < (List.length a1:Int)))=true then Option.bind (ixl a1 x5) (fun x12=>Option.bind (rup_literal x12) (fun x13=>(if (!x13)=true then some (Step.done (Sum.inl ())) else Option.bind (app 8 x4 [(w64 (0 - x12))]) (fun x14=>some (Step.next (x14,(w64 (x5 + 1)))))))) else some (Step.done (Sum.inr x4)))
noncomputable def rup_Step (a0:(List (List Int))) (a1:(List Int)):Option (Bool):=Option.bind (loopC (rup_Step_l1 a1) ([],0)) (fun y=>match y with | Sum.inl _=>some false | Sum.inr x11=>Option.bind (rup_units a0 x11) (fun (x15,x16)=>some x16))
theorem rup_Step_ok (a0:(List (List Int))) (a1:(List Int)):Ct E 15 [.fsl 1 (List.map c_L3 a0),.fsl 1 (List.map cI a1)] (rup_Step a0 a1) (fun r:Bool=>bv r):=ct_intro (N:=32) (L:=rup_Step_c) rup_Step_k rfl (Nat.le_of_ble_eq_true rfl) (by kernel_rfl) (by
 unfold rup_Step
 refine jS ⟨[V 0 (.fsl 1 (List.map c_L3 a0)),V 1 (.fsl 1 (List.map cI a1))],[],0⟩ ?_
 refine jS ⟨[V 0 (.fsl 1 (List.map c_L3 a0)),V 1 (.fsl 1 (List.map cI a1)),V 5 (nilS)],[],0⟩ ?_
 refine jc_seq ?_
 refine jR ?_
 refine jG 0 3 ⟨[V 0 (.fsl 1 (List.map c_L3 a0)),V 5 (nilS),V 10 (.fsl 1 (List.map cI a1)),V 11 (iv (List.length (List.map cI a1):Int)),V 12 (iv 0)],[],0⟩ ?_
 simp only[List.length_map]
 refine jN ?_
 refine jc_block ?_
 refine jc_bind (fun y=>match y with | Sum.inl _=>⟨[V 4 (bv false)],[],0⟩ | Sum.inr x11=>⟨[V 0 (.fsl 1 (List.map c_L3 a0)),V 5 (.osl 0 0 (List.length x11) 1)],[(0,.rows 1 (List.map cI x11))],1⟩) (fun y=>match y with | Sum.inl _=>.ret | Sum.inr x11=>(.exit 0)) (jc_loop (fun (x4,x5)=>⟨[V 0 (.fsl 1 (List.map c_L3 a0)),V 5 (.osl 0 0 (List.length x4) 1),V 10 (.fsl 1 (List.map cI a1)),V 11 (iv (List.length a1:Int)),V 12 (iv x5)],[(0,.rows 1 (List.map cI x4))],1⟩) (wkR [(0,none)] (fix_nil _) (pc hZ allp_nil)) ?_) ?_
 ·rintro⟨x4,x5⟩
  unfold rup_Step_l1
  refine jS ⟨[V 0 (.fsl 1 (List.map c_L3 a0)),V 5 (.osl 0 0 (List.length x4) 1),V 10 (.fsl 1 (List.map cI a1)),V 11 (iv (List.length a1:Int)),V 12 (iv x5),V 13 (bv (decide (x5 < (List.length a1:Int))))],[(0,.rows 1 (List.map cI x4))],1⟩ ?_
  refine jc_seq ?_
  refine jIf ?_ ?_
  ·refine jc_skip ?_
   refine jx_seqN ?_
   refine jc_seq ?_
   refine jc_block ?_
   refine jR ?_
   refine jr_part (i:=0) (mo:=ixl a1 x5) rfl rfl rfl rfl (fun _ hc=>aop_ixf (c:=cI) (sz:=1) (e:=3) (kk:=.i64) (by kernel_rfl) (by kernel_rfl) (by kernel_rfl) (by kernel_rfl) hc) (fun _=>rfl) ?_
   intro x12 h12
   refine jG 1 2 ⟨[V 0 (.fsl 1 (List.map c_L3 a0)),V 5 (.osl 0 0 (List.length x4) 1),V 7 (iv x12),V 10 (.fsl 1 (List.map cI a1)),V 11 (iv (List.length a1:Int)),V 12 (iv x5)],[(0,.rows 1 (List.map cI x4))],1⟩ ?_
   refine jN ?_
   refine jc_seq ?_
   refine jR ?_
   refine jG 0 1 ⟨[V 0 (.fsl 1 (List.map c_L3 a0)),V 5 (.osl 0 0 (List.length x4) 1),V 7 (iv x12),V 10 (.fsl 1 (List.map cI a1)),V 11 (iv (List.length a1:Int)),V 12 (iv x5),V 16 (iv x12)],[(0,.rows 1 (List.map cI x4))],1⟩ ?_
   refine jK 1 (rup_literal_ok x12) ?_
   intro x13 h13
   refine jG 2 1 ⟨[V 0 (.fsl 1 (List.map c_L3 a0)),V 5 (.osl 0 0 (List.length x4) 1),V 7 (iv x12),V 10 (.fsl 1 (List.map cI a1)),V 11 (iv (List.length a1:Int)),V 12 (iv x5),V 18 (bv (!x13))],[(0,.rows 1 (List.map cI x4))],1⟩ ?_
   refine jN ?_
   refine jIf ?_ ?_
   ·refine jS ⟨[V 4 (bv false)],[],1⟩ ?_
    refine jc_ret ?_
    refine jx_seqR ?_
    refine jx_blkR ?_
    refine jx_seqR ?_
    exact jx_done rfl nofun (wkR [] (fix_nil _) allp_nil)
   refine jc_skip ?_
   refine jx_seqN ?_
   refine jc_reg ?_
   refine jG 0 4 ⟨[V 0 (.fsl 1 (List.map c_L3 a0)),V 10 (.fsl 1 (List.map cI a1)),V 11 (iv (List.length a1:Int)),V 12 (iv x5),V 19 (.osl 0 0 (List.length x4) 1),V 22 (.osl 1 0 (List.length [(w64 (0 - x12))]) 1)],[(0,.rows 1 (List.map cI x4)),(1,.rows 1 (List.map cI [(w64 (0 - x12))]))],2⟩ ?_
   refine jr_part (i:=4) (mo:=app 8 x4 [(w64 (0 - x12))]) rfl rfl rfl rfl (fun _ hc=>aop_app (u:=.osl 0 0 (List.length x4) 1) (w:=.osl 1 0 (List.length [(w64 (0 - x12))]) 1) (e:=3) (td:=.slice 3) (by kernel_rfl) (by kernel_rfl) (by kernel_rfl) (by kernel_rfl) (.inl ⟨_,rfl⟩) (appendOf_own (c:=cI) (sz:=1) (b:=8) (id:=0) (by kernel_rfl) (by kernel_rfl) (rows_own (by kernel_rfl)) (List.cons_ne_nil _ _) hc)) (fun _=>rfl) ?_
   intro x14 h14
   refine jG 5 1 ⟨[V 0 (.fsl 1 (List.map c_L3 a0)),V 5 (.osl 2 0 (List.length x14) 1),V 10 (.fsl 1 (List.map cI a1)),V 11 (iv (List.length a1:Int)),V 12 (iv x5)],[(2,.rows 1 (List.map cI x14))],3⟩ ?_
   refine jr_nil rfl ?_
   refine jx_blkN ?_
   refine jx_seqN ?_
   refine jT ⟨[V 0 (.fsl 1 (List.map c_L3 a0)),V 5 (.osl 2 0 (List.length x14) 1),V 10 (.fsl 1 (List.map cI a1)),V 11 (iv (List.length a1:Int)),V 12 (iv (w64 (x5 + 1)))],[(2,.rows 1 (List.map cI x14))],3⟩ ?_
   exact jx_next (wkR [(0,some 2)] (fix_nil _) (pc (hL 2 (noid_map ni_I _)) allp_nil))
  refine jc_exit ?_
  refine jx_seqE ?_
  exact jx_done rfl nofun (wkR [(0,some 0)] (fix_nil _) (pc (hL 0 (noid_map ni_I _)) allp_nil))
 rintro (_ | x11)
 ·refine jx_blkR ?_
  refine jx_seqR ?_
  exact jx_retF (.inr rfl) (v:=bv false) (by kernel_rfl) rfl (fle_refl _)
 refine jx_blkE ?_
 refine jx_seqN ?_
 refine jR ?_
 refine jG 0 2 ⟨[V 26 (.fsl 1 (List.map c_L3 a0)),V 27 (.osl 0 0 (List.length x11) 1)],[(0,.rows 1 (List.map cI x11))],1⟩ ?_
 refine jr_callM 2 [(0,some 0)] [(0,some 0),(1,some 1)] (fun r:List (Int × Int) × Bool=>[(0,.rows 1 (List.map cI x11)),(1,.map (oM r.1))]) (fun r:List (Int × Int) × Bool=>.tup [.mp 1,bv r.2]) 2 (rup_units_ok a0 x11) (pc (hL 0 (noid_map ni_I _)) allp_nil) (fun r=>(pc (.inr (hL 0 (noid_map ni_I _))) (pc (.inr (hM 1)) allp_nil))) ?_
 rintro⟨x15,x16⟩ hm1
 refine jG 3 5 ⟨[V 9 (bv x16)],[],2⟩ ?_
 refine jN ?_
 refine jS ⟨[V 4 (bv x16)],[],2⟩ ?_
 refine jc_ret ?_
 exact jx_retF (.inr rfl) (v:=bv x16) (by kernel_rfl) rfl (fle_refl _))
abbrev slices_Clone_int_int_r1:List LO:=[lo 2 (.assign (.const (.slice none 0 0))) 22]
abbrev slices_Clone_int_int_r2:List LO:=[lm 3 0 22,lo 4 (.binOp .eql 22 (.tmp 3) (.const (.slice none 0 0)) 22) 4]
abbrev slices_Clone_int_int_r3:List LO:=[lo 2 (.assign (.const (.slice none 0 0))) 22]
abbrev slices_Clone_int_int_r4:List LO:=[lo 5 (.buildSlice 22 0 #[]) 22,lm 6 0 22,lo 7 (.call ⟨.builtin .append,#[.tmp 5,.tmp 6],#[22,22]⟩) 22,lo 2 (.assign (.tmp 7)) 22]
abbrev slices_Clone_int_int_c:LC:=.seq (.reg false slices_Clone_int_int_r1) (.seq (.seq (.reg false slices_Clone_int_int_r2) (.cond (.tmp 4) (.seq (.reg false slices_Clone_int_int_r3) .ret) .skip)) (.seq (.reg false slices_Clone_int_int_r4) .ret))
theorem slices_Clone_int_int_k:FnOk E 36 8 [.tmp 2] slices_Clone_int_int_c:=⟨⟨Go.Proofs.Tryd.f36,by kernel_rfl,by kernel_rfl,by kernel_rfl,by kernel_rfl,by kernel_rfl⟩,rfl,rfl⟩
abbrev slices_Clone_int_int_T (a0:List (List Int)) (r:List (List Int)):CS:=⟨[V 2 (.osl 0 0 (List.length r) 1)],[(0,.rows 1 (List.map c_L3 r))],1⟩
noncomputable def slices_Clone_int_int (a0:List (List Int)):Option (List (List Int)):=Option.bind (app 24 ([]:List (List Int)) a0) (fun x3=>some x3)
theorem slices_Clone_int_int_ok (a0:List (List Int)):CtM E 36 [.fsl 1 (List.map c_L3 a0)] [] 0 (slices_Clone_int_int a0) (fun r:List (List Int)=>.osl 0 0 (List.length r) 1) (fun r:List (List Int)=>[(0,.rows 1 (List.map c_L3 r))]) 1:=ctm_intro (N:=8) (L:=slices_Clone_int_int_c) slices_Clone_int_int_k rfl (Nat.le_of_ble_eq_true rfl) (fun F hF=>by
 unfold slices_Clone_int_int
 refine jS ⟨[V 0 (.fsl 1 (List.map c_L3 a0))],[],0⟩ ?_
 refine jc_seq ?_
 refine jR ?_
 refine jG 0 1 ⟨[V 0 (.fsl 1 (List.map c_L3 a0)),V 3 (.fsl 1 (List.map c_L3 a0))],[],0⟩ ?_
 refine jr_isnil 1 (v:=.fsl 1 (List.map c_L3 a0)) (C:=a0=[]) (mA:=(some [])) (b:=false) mayF (fun h=>by first | (rw[h]; rfl) | simp[h,app]) (fun _=>?_) ?_ (hr:=.inr ⟨_,_,rfl⟩)
 ·refine jN ?_
  refine jc_condK (c:=true) (by kernel_rfl) ?_
  refine jS ⟨[V 2 (nilS)],[],0⟩ ?_
  refine jc_ret ?_
  refine jx_seqR ?_
  exact jx_retM (slices_Clone_int_int_T a0 []) (.inr rfl) (wkR [(0,none)] (fix_of hF (k:=0) rfl) (pc hZ allp_nil))
 refine jN ?_
 refine jc_condK (c:=false) (by kernel_rfl) ?_
 refine jc_skip ?_
 refine jx_seqN ?_
 refine jR ?_
 refine jG 0 2 ⟨[V 5 (.osl 0 0 (List.length ([]:List (List Int))) 1),V 6 (.fsl 1 (List.map c_L3 a0))],[(0,.rows 1 (List.map c_L3 ([]:List (List Int))))],1⟩ ?_
 refine jr_two (i:=2) (C:=a0=[]) (st1:=fun x3=>⟨[V 7 (.osl 1 0 (List.length x3) 1)],[(1,.rows 1 (List.map c_L3 x3))],2⟩) rfl rfl rfl rfl (fun q _ hc=>aop_app (u:=.osl 0 0 (List.length ([]:List (List Int))) 1) (w:=.fsl 1 (List.map c_L3 a0)) (e:=29) (td:=.slice 29) (by kernel_rfl) (by kernel_rfl) (by kernel_rfl) (by kernel_rfl) (.inl ⟨_,rfl⟩) (appendOf_own (c:=c_L3) (sz:=1) (b:=24) (id:=0) (by kernel_rfl) (by kernel_rfl) rows_fsl q hc)) (fun q _ hc=>aop_app (u:=.osl 0 0 (List.length ([]:List (List Int))) 1) (w:=.fsl 1 (List.map c_L3 a0)) (e:=29) (td:=.slice 29) (by kernel_rfl) (by kernel_rfl) (by kernel_rfl) (by kernel_rfl) (.inl ⟨_,rfl⟩) (appendOf_same (c:=c_L3) (sz:=1) (b:=24) (m:=a0) (by kernel_rfl) (.inr (.inr ⟨_,_,_,_,rfl⟩)) rows_fsl q)) (fun _=>rfl) (fun _=>rfl) (fun _=>wkR [(1,some 1)] (fix_of hF (k:=0) rfl) (pc (hL 1 (noid_map ni_L3 _)) allp_nil)) (fun q _ hc=>by cases app_same q hc; exact wkR [(1,some 0)] (fix_of hF (k:=0) rfl) (pc (hL 0 (noid_map ni_L3 _)) allp_nil)) ?_
 intro x3 h3
 refine jG 3 1 ⟨[V 2 (.osl 1 0 (List.length x3) 1)],[(1,.rows 1 (List.map c_L3 x3))],2⟩ ?_
 refine jN ?_
 refine jc_ret ?_
 exact jx_retM (slices_Clone_int_int_T a0 x3) (.inr rfl) (wkR [(0,some 1)] (fix_of hF (k:=0) rfl) (pc (hL 1 (noid_map ni_L3 _)) allp_nil)))
abbrev rup_Check_r1:List LO:=[lo 4 (.assign (.const (.int .i64 0))) 3]
abbrev rup_Check_r2:List LO:=[lm 8 0 22,lo 9 (.call ⟨.value (.func 36),#[.tmp 8],#[22]⟩) 22,lo 5 (.assign (.tmp 9)) 22]
abbrev rup_Check_r3:List LO:=[lm 10 1 22,lo 11 (.call ⟨.builtin .len,#[.tmp 10],#[22]⟩) 3,lo 12 (.move (.const (.int .i64 0))) 3]
abbrev rup_Check_r4:List LO:=[lo 13 (.binOp .lss 3 (.tmp 12) (.tmp 11) 3) 0]
abbrev rup_Check_r5:List LO:=[lm 14 12 3,lo 15 (.indexAddr 22 (.tmp 10) (.tmp 12)) 0,lo 16 (.load 29 (.tmp 15)) 29,lo 6 (.assign (.tmp 14)) 3,lo 7 (.assign (.tmp 16)) 29]
abbrev rup_Check_r6:List LO:=[lm 17 5 22,lm 18 7 29,lo 19 (.call ⟨.value (.func 15),#[.tmp 17,.tmp 18],#[22,29]⟩) 4,lo 20 (.unOp .not 4 (.tmp 19)) 4]
abbrev rup_Check_r7:List LO:=[lm 21 6 3,lo 4 (.assign (.tmp 21)) 3]
abbrev rup_Check_r8:List LO:=[lm 22 5 22,lm 23 7 29,lo 24 (.buildSlice 22 1 #[(0,.tmp 23)]) 22,lo 25 (.call ⟨.builtin .append,#[.tmp 22,.tmp 24],#[22,22]⟩) 22,lo 5 (.assign (.tmp 25)) 22]
abbrev rup_Check_r9:List LO:=[lo 26 (.binOp .add 3 (.tmp 12) (.const (.int .i64 1)) 3) 3,lm 12 26 3]
abbrev rup_Check_r10:List LO:=[lm 27 1 22,lo 28 (.call ⟨.builtin .len,#[.tmp 27],#[22]⟩) 3,lo 4 (.assign (.tmp 28)) 3]
abbrev rup_Check_c:LC:=.seq (.reg false rup_Check_r1) (.seq (.reg false rup_Check_r2) (.seq (.seq (.reg false rup_Check_r3) (.block 0 (.loop (.seq (.reg false rup_Check_r4) (.seq (.cond (.tmp 13) .skip (.exit 0)) (.seq (.block 1 (.seq (.reg false rup_Check_r5) (.seq (.seq (.reg false rup_Check_r6) (.cond (.tmp 20) (.seq (.reg false rup_Check_r7) .ret) .skip)) (.reg false rup_Check_r8)))) (.reg false rup_Check_r9))))))) (.seq (.reg false rup_Check_r10) .ret)))
theorem rup_Check_k:FnOk E 23 29 [.tmp 4] rup_Check_c:=⟨⟨Go.Proofs.Tryd.f23,by kernel_rfl,by kernel_rfl,by kernel_rfl,by kernel_rfl,by kernel_rfl⟩,rfl,rfl⟩
noncomputable def rup_Check_l1 (a1:(List (List Int))):(List (List Int) × Int)→Option (Step (List (List Int) × Int) ((Int) ⊕ (Unit))):=fun (x5,x6)=>(if (decide (x6 < (List.length a1:Int)))=true then Option.bind (ixl a1 x6) (fun x13=>Option.bind (rup_Step x5 x13) (fun x14=>(if (!x14)=true then some (Step.done (Sum.inl x6)) else Option.bind (app 24 x5 [x13]) (fun x15=>some (Step.next (x15,(w64 (x6 + 1)))))))) else some (Step.done (Sum.inr ())))
noncomputable def rup_Check (a0:(List (List Int))) (a1:(List (List Int))):Option (Int):=Option.bind (slices_Clone_int_int a0) (fun x1=>Option.bind (loopC (rup_Check_l1 a1) (x1,0)) (fun y=>match y with | Sum.inl x12=>some x12 | Sum.inr _=>some (List.length a1:Int)))
theorem rup_Check_ok (a0:(List (List Int))) (a1:(List (List Int))):Ct E 23 [.fsl 1 (List.map c_L3 a0),.fsl 1 (List.map c_L3 a1)] (rup_Check a0 a1) (fun r:Int=>iv r):=ct_intro (N:=29) (L:=rup_Check_c) rup_Check_k rfl (Nat.le_of_ble_eq_true rfl) (by kernel_rfl) (by
 unfold rup_Check
 refine jS ⟨[V 0 (.fsl 1 (List.map c_L3 a0)),V 1 (.fsl 1 (List.map c_L3 a1))],[],0⟩ ?_
 refine jR ?_
 refine jG 0 1 ⟨[V 1 (.fsl 1 (List.map c_L3 a1)),V 8 (.fsl 1 (List.map c_L3 a0))],[],0⟩ ?_
 refine jr_callM 1 [] [(0,some 0)] (fun r:List (List Int)=>[(0,.rows 1 (List.map c_L3 r))]) (fun r:List (List Int)=>.osl 0 0 (List.length r) 1) 1 (slices_Clone_int_int_ok a0) allp_nil (fun r=>(pc (.inr (hL 0 (noid_map ni_L3 _))) allp_nil)) ?_
 rintro x1 hm1
 refine jG 2 1 ⟨[V 1 (.fsl 1 (List.map c_L3 a1)),V 5 (.osl 0 0 (List.length x1) 1)],[(0,.rows 1 (List.map c_L3 x1))],1⟩ ?_
 refine jN ?_
 refine jc_seq ?_
 refine jR ?_
 refine jG 0 3 ⟨[V 1 (.fsl 1 (List.map c_L3 a1)),V 5 (.osl 0 0 (List.length x1) 1),V 10 (.fsl 1 (List.map c_L3 a1)),V 11 (iv (List.length (List.map c_L3 a1):Int)),V 12 (iv 0)],[(0,.rows 1 (List.map c_L3 x1))],1⟩ ?_
 simp only[List.length_map]
 refine jN ?_
 refine jc_block ?_
 refine jc_bind (fun y=>match y with | Sum.inl x12=>⟨[V 4 (iv x12)],[],0⟩ | Sum.inr _=>⟨[V 1 (.fsl 1 (List.map c_L3 a1))],[],0⟩) (fun y=>match y with | Sum.inl x12=>.ret | Sum.inr _=>(.exit 0)) (jc_loop (fun (x5,x6)=>⟨[V 1 (.fsl 1 (List.map c_L3 a1)),V 5 (.osl 0 0 (List.length x5) 1),V 10 (.fsl 1 (List.map c_L3 a1)),V 11 (iv (List.length a1:Int)),V 12 (iv x6)],[(0,.rows 1 (List.map c_L3 x5))],1⟩) (wkR [(0,some 0)] (fix_nil _) (pc (hL 0 (noid_map ni_L3 _)) allp_nil)) ?_) ?_
 ·rintro⟨x5,x6⟩
  unfold rup_Check_l1
  refine jS ⟨[V 1 (.fsl 1 (List.map c_L3 a1)),V 5 (.osl 0 0 (List.length x5) 1),V 10 (.fsl 1 (List.map c_L3 a1)),V 11 (iv (List.length a1:Int)),V 12 (iv x6),V 13 (bv (decide (x6 < (List.length a1:Int))))],[(0,.rows 1 (List.map c_L3 x5))],1⟩ ?_
  refine jc_seq ?_
  refine jIf ?_ ?_
  ·refine jc_skip ?_
   refine jx_seqN ?_
   refine jc_seq ?_
   refine jc_block ?_
   refine jR ?_
   refine jG 0 1 ⟨[V 1 (.fsl 1 (List.map c_L3 a1)),V 5 (.osl 0 0 (List.length x5) 1),V 10 (.fsl 1 (List.map c_L3 a1)),V 11 (iv (List.length a1:Int)),V 12 (iv x6),V 14 (iv x6)],[(0,.rows 1 (List.map c_L3 x5))],1⟩ ?_
   refine jr_part (i:=1) (mo:=ixl a1 x6) rfl rfl rfl rfl (fun _ hc=>aop_ixf (c:=c_L3) (sz:=1) (e:=29) (kk:=.i64) (by kernel_rfl) (by kernel_rfl) (by kernel_rfl) (by kernel_rfl) hc) (fun _=>rfl) ?_
   intro x13 h13
   refine jG 2 3 ⟨[V 1 (.fsl 1 (List.map c_L3 a1)),V 5 (.osl 0 0 (List.length x5) 1),V 6 (iv x6),V 7 (.fsl 1 (List.map cI x13)),V 10 (.fsl 1 (List.map c_L3 a1)),V 11 (iv (List.length a1:Int)),V 12 (iv x6)],[(0,.rows 1 (List.map c_L3 x5))],1⟩ ?_
   refine jN ?_
   refine jc_seq ?_
   refine jR ?_
   refine jG 0 2 ⟨[V 1 (.fsl 1 (List.map c_L3 a1)),V 5 (.osl 0 0 (List.length x5) 1),V 6 (iv x6),V 7 (.fsl 1 (List.map cI x13)),V 10 (.fsl 1 (List.map c_L3 a1)),V 11 (iv (List.length a1:Int)),V 12 (iv x6),V 17 (.osl 0 0 (List.length x5) 1),V 18 (.fsl 1 (List.map cI x13))],[(0,.rows 1 (List.map c_L3 x5))],1⟩ ?_
   refine jr_callF (i:=2) rfl rfl rfl rfl (vs:=[.osl 0 0 (List.length x5) 1,.fsl 1 (List.map cI x13)]) (by kernel_rfl) (snapL_cons (snapc_own fz_L3 (by kernel_rfl)) (snapL_cons rfl (snapL_nil _))) (all2_cons (fle_refl _) (all2_cons (fle_refl _) all2_nil)) (rup_Step_ok x5 x13) (fun _=>rfl) (fun _=>rfl) ?_
   intro x14 h14
   refine jG 3 1 ⟨[V 1 (.fsl 1 (List.map c_L3 a1)),V 5 (.osl 0 0 (List.length x5) 1),V 6 (iv x6),V 7 (.fsl 1 (List.map cI x13)),V 10 (.fsl 1 (List.map c_L3 a1)),V 11 (iv (List.length a1:Int)),V 12 (iv x6),V 20 (bv (!x14))],[(0,.rows 1 (List.map c_L3 x5))],1⟩ ?_
   refine jN ?_
   refine jIf ?_ ?_
   ·refine jS ⟨[V 4 (iv x6)],[],1⟩ ?_
    refine jc_ret ?_
    refine jx_seqR ?_
    refine jx_blkR ?_
    refine jx_seqR ?_
    exact jx_done rfl nofun (wkR [] (fix_nil _) allp_nil)
   refine jc_skip ?_
   refine jx_seqN ?_
   refine jc_reg ?_
   refine jG 0 3 ⟨[V 1 (.fsl 1 (List.map c_L3 a1)),V 10 (.fsl 1 (List.map c_L3 a1)),V 11 (iv (List.length a1:Int)),V 12 (iv x6),V 22 (.osl 0 0 (List.length x5) 1),V 24 (.osl 1 0 (List.length [x13]) 1)],[(0,.rows 1 (List.map c_L3 x5)),(1,.rows 1 (List.map c_L3 [x13]))],2⟩ ?_
   refine jr_part (i:=3) (mo:=app 24 x5 [x13]) rfl rfl rfl rfl (fun _ hc=>aop_app (u:=.osl 0 0 (List.length x5) 1) (w:=.osl 1 0 (List.length [x13]) 1) (e:=29) (td:=.slice 29) (by kernel_rfl) (by kernel_rfl) (by kernel_rfl) (by kernel_rfl) (.inl ⟨_,rfl⟩) (appendOf_own (c:=c_L3) (sz:=1) (b:=24) (id:=0) (by kernel_rfl) (by kernel_rfl) (rows_own (by kernel_rfl)) (List.cons_ne_nil _ _) hc)) (fun _=>rfl) ?_
   intro x15 h15
   refine jG 4 1 ⟨[V 1 (.fsl 1 (List.map c_L3 a1)),V 5 (.osl 2 0 (List.length x15) 1),V 10 (.fsl 1 (List.map c_L3 a1)),V 11 (iv (List.length a1:Int)),V 12 (iv x6)],[(2,.rows 1 (List.map c_L3 x15))],3⟩ ?_
   refine jr_nil rfl ?_
   refine jx_blkN ?_
   refine jx_seqN ?_
   refine jT ⟨[V 1 (.fsl 1 (List.map c_L3 a1)),V 5 (.osl 2 0 (List.length x15) 1),V 10 (.fsl 1 (List.map c_L3 a1)),V 11 (iv (List.length a1:Int)),V 12 (iv (w64 (x6 + 1)))],[(2,.rows 1 (List.map c_L3 x15))],3⟩ ?_
   exact jx_next (wkR [(0,some 2)] (fix_nil _) (pc (hL 2 (noid_map ni_L3 _)) allp_nil))
  refine jc_exit ?_
  refine jx_seqE ?_
  exact jx_done rfl nofun (wkR [] (fix_nil _) allp_nil)
 rintro (x12 | _)
 ·refine jx_blkR ?_
  refine jx_seqR ?_
  exact jx_retF (.inr rfl) (v:=iv x12) (by kernel_rfl) rfl (fle_refl _)
 refine jx_blkE ?_
 refine jx_seqN ?_
 refine jR ?_
 refine jG 0 3 ⟨[V 4 (iv (List.length (List.map c_L3 a1):Int))],[],0⟩ ?_
 simp only[List.length_map]
 refine jN ?_
 refine jc_ret ?_
 exact jx_retF (.inr rfl) (v:=iv (List.length a1:Int)) (by kernel_rfl) rfl (fle_refl _))
abbrev rup_Refutes_r1:List LO:=[lo 4 (.assign (.const (.bool false))) 4]
abbrev rup_Refutes_r2:List LO:=[lm 5 1 22,lo 6 (.call ⟨.builtin .len,#[.tmp 5],#[22]⟩) 3,lo 7 (.binOp .gtr 3 (.tmp 6) (.const (.int .i64 0)) 3) 4,lm 8 7 4,lmg 9 1 22 8 true,lmg 10 1 22 8 true,lg 11 (.call ⟨.builtin .len,#[.tmp 10],#[22]⟩) 3 8 true,lg 12 (.binOp .sub 3 (.tmp 11) (.const (.int .i64 1)) 3) 3 8 true,lg 13 (.indexAddr 22 (.tmp 9) (.tmp 12)) 0 8 true,lg 14 (.load 29 (.tmp 13)) 29 8 true,lg 15 (.call ⟨.builtin .len,#[.tmp 14],#[29]⟩) 3 8 true,lg 16 (.binOp .eql 3 (.tmp 15) (.const (.int .i64 0)) 3) 4 8 true,lo 17 (.pick (.tmp 8) (.tmp 16) (.const (.bool false))) 4,lm 18 17 4,lmg 19 0 22 18 true,lmg 20 1 22 18 true,lg 21 (.call ⟨.value (.func 23),#[.tmp 19,.tmp 20],#[22,22]⟩) 3 18 true,lmg 22 1 22 18 true,lg 23 (.call ⟨.builtin .len,#[.tmp 22],#[22]⟩) 3 18 true,lg 24 (.binOp .eql 3 (.tmp 21) (.tmp 23) 3) 4 18 true,lo 25 (.pick (.tmp 18) (.tmp 24) (.const (.bool false))) 4,lo 4 (.assign (.tmp 25)) 4]
abbrev rup_Refutes_c:LC:=.seq (.reg false rup_Refutes_r1) (.seq (.reg false rup_Refutes_r2) .ret)
theorem rup_Refutes_k:FnOk E 14 26 [.tmp 4] rup_Refutes_c:=⟨⟨Go.Proofs.Tryd.f14,by kernel_rfl,by kernel_rfl,by kernel_rfl,by kernel_rfl,by kernel_rfl⟩,rfl,rfl⟩
noncomputable def rup_Refutes (a0:(List (List Int))) (a1:(List (List Int))):Option (Bool):=Option.bind (if (decide ((List.length a1:Int) > 0))=true then Option.bind (ixl a1 (w64 ((List.length a1:Int) - 1))) (fun x3=>some ((List.length x3:Int) == 0)) else some false:Option (Bool)) (fun x2=>Option.bind (if x2=true then Option.bind (rup_Check a0 a1) (fun x6=>some (x6 == (List.length a1:Int))) else some false:Option (Bool)) (fun x5=>some x5))
theorem rup_Refutes_ok (a0:(List (List Int))) (a1:(List (List Int))):Ct E 14 [.fsl 1 (List.map c_L3 a0),.fsl 1 (List.map c_L3 a1)] (rup_Refutes a0 a1) (fun r:Bool=>bv r):=ct_intro (N:=26) (L:=rup_Refutes_c) rup_Refutes_k rfl (Nat.le_of_ble_eq_true rfl) (by kernel_rfl) (by
 unfold rup_Refutes
 refine jS ⟨[V 0 (.fsl 1 (List.map c_L3 a0)),V 1 (.fsl 1 (List.map c_L3 a1))],[],0⟩ ?_
 refine jR ?_
 refine jG 0 4 ⟨[V 0 (.fsl 1 (List.map c_L3 a0)),V 1 (.fsl 1 (List.map c_L3 a1)),V 8 (bv (decide ((List.length (List.map c_L3 a1):Int) > 0)))],[],0⟩ ?_
 simp only[List.length_map]
 refine jr_bind 4 9 (fun x2=>⟨[V 0 (.fsl 1 (List.map c_L3 a0)),V 1 (.fsl 1 (List.map c_L3 a1)),V 17 (bv x2)],[],0⟩) ?_ ?_
 ·refine jSp 8 ?_ ?_
  ·refine jG 0 4 ⟨[V 0 (.fsl 1 (List.map c_L3 a0)),V 1 (.fsl 1 (List.map c_L3 a1)),(8,.lit true),V 9 (.fsl 1 (List.map c_L3 a1)),V 12 (iv (w64 ((List.length (List.map c_L3 a1):Int) - 1)))],[],0⟩ ?_
   simp only[List.length_map]
   refine jr_part (i:=4) (mo:=ixl a1 (w64 ((List.length a1:Int) - 1))) rfl rfl rfl rfl (fun _ hc=>aop_ixf (c:=c_L3) (sz:=1) (e:=29) (kk:=.i64) (by kernel_rfl) (by kernel_rfl) (by kernel_rfl) (by kernel_rfl) hc) (fun _=>rfl) ?_
   intro x3 h3
   refine jG 5 4 ⟨[V 0 (.fsl 1 (List.map c_L3 a0)),V 1 (.fsl 1 (List.map c_L3 a1)),V 17 (bv ((List.length (List.map cI x3):Int) == 0))],[],0⟩ ?_
   simp only[List.length_map]
   refine jr_nil rfl ?_
   exact jx_mid rfl (wkR [] (fix_nil _) allp_nil)
  refine jG 0 9 ⟨[V 0 (.fsl 1 (List.map c_L3 a0)),V 1 (.fsl 1 (List.map c_L3 a1)),V 17 (bv false)],[],0⟩ ?_
  refine jr_nil rfl ?_
  exact jx_mid rfl (wkR [] (fix_nil _) allp_nil)
 intro x2
 refine jG 13 1 ⟨[V 0 (.fsl 1 (List.map c_L3 a0)),V 1 (.fsl 1 (List.map c_L3 a1)),V 18 (bv x2)],[],0⟩ ?_
 refine jr_bind 14 7 (fun x5=>⟨[V 25 (bv x5)],[],0⟩) ?_ ?_
 ·refine jSp 18 ?_ ?_
  ·refine jG 0 2 ⟨[V 1 (.fsl 1 (List.map c_L3 a1)),(18,.lit true),V 19 (.fsl 1 (List.map c_L3 a0)),V 20 (.fsl 1 (List.map c_L3 a1))],[],0⟩ ?_
   refine jK 2 (rup_Check_ok a0 a1) ?_
   intro x6 h6
   refine jG 3 4 ⟨[V 25 (bv (x6 == (List.length (List.map c_L3 a1):Int)))],[],0⟩ ?_
   simp only[List.length_map]
   refine jr_nil rfl ?_
   exact jx_mid rfl (wkR [] (fix_nil _) allp_nil)
  refine jG 0 7 ⟨[V 25 (bv false)],[],0⟩ ?_
  refine jr_nil rfl ?_
  exact jx_mid rfl (wkR [] (fix_nil _) allp_nil)
 intro x5
 refine jG 21 1 ⟨[V 4 (bv x5)],[],0⟩ ?_
 refine jN ?_
 refine jc_ret ?_
 exact jx_retF (.inr rfl) (v:=bv x5) (by kernel_rfl) rfl (fle_refl _))
abbrev law29_few_r1:List LO:=[lo 2 (.assign (.const (.slice none 0 0))) 22]
abbrev law29_few_r2:List LO:=[lm 3 0 22,lm 4 0 22,lo 5 (.call ⟨.builtin .len,#[.tmp 4],#[22]⟩) 3,lo 6 (.call ⟨.builtin .min,#[.tmp 5,.const (.int .i64 30)],#[3,3]⟩) 3,lo 7 (.slice 22 (.tmp 3) none (some (.tmp 6)) none) 22,lo 2 (.assign (.tmp 7)) 22]
abbrev law29_few_c:LC:=.seq (.reg false law29_few_r1) (.seq (.reg false law29_few_r2) .ret)
theorem law29_few_k:FnOk E 12 8 [.tmp 2] law29_few_c:=⟨⟨Go.Proofs.Tryd.f12,by kernel_rfl,by kernel_rfl,by kernel_rfl,by kernel_rfl,by kernel_rfl⟩,rfl,rfl⟩
noncomputable def law29_few (a0:(List (List Int))):Option ((List (List Int))):=Option.bind (subl a0 0 (if 30 < (List.length a0:Int) then 30 else (List.length a0:Int))) (fun x1=>some x1)
theorem law29_few_ok (a0:(List (List Int))):Ct E 12 [.fsl 1 (List.map c_L3 a0)] (law29_few a0) (fun r:(List (List Int))=>.fsl 1 (List.map c_L3 r)):=ct_intro (N:=8) (L:=law29_few_c) law29_few_k rfl (Nat.le_of_ble_eq_true rfl) (by kernel_rfl) (by
 unfold law29_few
 refine jS ⟨[V 0 (.fsl 1 (List.map c_L3 a0))],[],0⟩ ?_
 refine jR ?_
 refine jG 0 4 ⟨[V 3 (.fsl 1 (List.map c_L3 a0)),V 6 (iv (if 30 < (List.length (List.map c_L3 a0):Int) then 30 else (List.length (List.map c_L3 a0):Int)))],[],0⟩ ?_
 simp only[List.length_map]
 refine jr_part (i:=4) (mo:=subl a0 0 (if 30 < (List.length a0:Int) then 30 else (List.length a0:Int))) rfl rfl rfl rfl (fun _ hc=>aop_subf (c:=c_L3) (sz:=1) (e:=29) (by kernel_rfl) (by kernel_rfl) (by kernel_rfl) (by kernel_rfl) (by kernel_rfl) hc) (fun _=>rfl) ?_
 intro x1 h1
 refine jG 5 1 ⟨[V 2 (.fsl 1 (List.map c_L3 x1))],[],0⟩ ?_
 refine jN ?_
 refine jc_ret ?_
 exact jx_retF (.inr rfl) (v:=.fsl 1 (List.map c_L3 x1)) (by kernel_rfl) rfl (fle_refl _))
abbrev law29_RupSound_1_sb011_r1:List LO:=[lo 3 (.assign (.const (.bool false))) 4]
abbrev law29_RupSound_1_sb011_r2:List LO:=[lm 4 0 3,lo 5 (.binOp .gtr 3 (.tmp 4) (.const (.int .i64 0)) 3) 4,lm 6 5 4,lmg 7 0 3 6 true,lg 8 (.binOp .lss 3 (.tmp 7) (.const (.int .i64 31)) 3) 4 6 true,lo 9 (.pick (.tmp 6) (.tmp 8) (.const (.bool false))) 4,lm 10 9 4,lg 11 (.load 33 (.tmp 1)) 33 10 true,lmg 12 0 3 10 true,lg 13 (.binOp .shr 33 (.tmp 11) (.tmp 12) 3) 33 10 true,lg 14 (.binOp .and 33 (.tmp 13) (.const (.int .u32 1)) 33) 33 10 true,lg 15 (.binOp .eql 33 (.tmp 14) (.const (.int .u32 1)) 33) 4 10 true,lo 16 (.pick (.tmp 10) (.tmp 15) (.const (.bool false))) 4,lm 17 16 4,lmg 18 0 3 17 false,lg 19 (.binOp .lss 3 (.tmp 18) (.const (.int .i64 0)) 3) 4 17 false,lmg 20 19 4 17 false,lmg 21 0 3 20 true,lg 22 (.binOp .gtr 3 (.tmp 21) (.const (.int .i64 (-31))) 3) 4 20 true,lg 23 (.pick (.tmp 20) (.tmp 22) (.const (.bool false))) 4 17 false,lmg 24 23 4 17 false,lg 25 (.load 33 (.tmp 1)) 33 24 true,lmg 26 0 3 24 true,lg 27 (.unOp .neg 3 (.tmp 26)) 3 24 true,lg 28 (.binOp .shr 33 (.tmp 25) (.tmp 27) 3) 33 24 true,lg 29 (.binOp .and 33 (.tmp 28) (.const (.int .u32 1)) 33) 33 24 true,lg 30 (.binOp .eql 33 (.tmp 29) (.const (.int .u32 0)) 33) 4 24 true,lg 31 (.pick (.tmp 24) (.tmp 30) (.const (.bool false))) 4 17 false,lo 32 (.pick (.tmp 17) (.const (.bool true)) (.tmp 31)) 4,lo 3 (.assign (.tmp 32)) 4]
abbrev law29_RupSound_1_sb011_c:LC:=.seq (.reg false law29_RupSound_1_sb011_r1) (.seq (.reg false law29_RupSound_1_sb011_r2) .ret)
theorem law29_RupSound_1_sb011_k:FnOk E 13 33 [.tmp 3] law29_RupSound_1_sb011_c:=⟨⟨Go.Proofs.Tryd.f13,by kernel_rfl,by kernel_rfl,by kernel_rfl,by kernel_rfl,by kernel_rfl⟩,rfl,rfl⟩
noncomputable def law29_RupSound_1_sb011 (a0:Int) (a1:Int):Option (Bool):=Option.bind (if ((decide (a0 > 0)) && (decide (a0 < 31)))=true then Option.bind (shrI .u32 a1 a0) (fun x4=>Option.bind (andI .u32 x4 1) (fun x5=>some (x5 == 1))) else some false:Option (Bool)) (fun x3=>Option.bind (if x3=true then some true else Option.bind (if ((decide (a0 < 0)) && (decide (a0 > (-31))))=true then Option.bind (shrI .u32 a1 (w64 (0 - a0))) (fun x13=>Option.bind (andI .u32 x13 1) (fun x14=>some (x14 == 0))) else some false:Option (Bool)) (fun x12=>some (false || x12)):Option (Bool)) (fun x9=>some x9))
theorem law29_RupSound_1_sb011_ok (a0:Int) (a1:Int):Ct E 13 [iv a0,.fptr [.s (.int .u32 a1)] 0] (law29_RupSound_1_sb011 a0 a1) (fun r:Bool=>bv r):=ct_intro (N:=33) (L:=law29_RupSound_1_sb011_c) law29_RupSound_1_sb011_k rfl (Nat.le_of_ble_eq_true rfl) (by kernel_rfl) (by
 unfold law29_RupSound_1_sb011
 refine jS ⟨[V 0 (iv a0),V 1 (.fptr [.s (.int .u32 a1)] 0)],[],0⟩ ?_
 refine jR ?_
 refine jG 0 7 ⟨[V 0 (iv a0),V 1 (.fptr [.s (.int .u32 a1)] 0),V 10 (bv ((decide (a0 > 0)) && (decide (a0 < 31))))],[],0⟩ ?_
 refine jr_bind 7 6 (fun x3=>⟨[V 0 (iv a0),V 1 (.fptr [.s (.int .u32 a1)] 0),V 16 (bv x3)],[],0⟩) ?_ ?_
 ·refine jSp 10 ?_ ?_
  ·refine jG 0 2 ⟨[V 0 (iv a0),V 1 (.fptr [.s (.int .u32 a1)] 0),(10,.lit true),V 11 (.s (.int .u32 a1)),V 12 (iv a0)],[],0⟩ ?_
   refine jr_part (i:=2) (mo:=shrI .u32 a1 a0) rfl rfl rfl rfl (fun _ hc=>aop_shr (k:=.u32) (kb:=.i64) (by kernel_rfl) (by kernel_rfl) hc) (fun _=>rfl) ?_
   intro x4 h4
   refine jr_part (i:=3) (mo:=andI .u32 x4 1) rfl rfl rfl rfl (fun _ hc=>aop_and (k:=.u32) (by kernel_rfl) (by kernel_rfl) hc) (fun _=>rfl) ?_
   intro x5 h5
   refine jG 4 2 ⟨[V 0 (iv a0),V 1 (.fptr [.s (.int .u32 a1)] 0),V 16 (bv (x5 == 1))],[],0⟩ ?_
   refine jr_nil rfl ?_
   exact jx_mid rfl (wkR [] (fix_nil _) allp_nil)
  refine jG 0 6 ⟨[V 0 (iv a0),V 1 (.fptr [.s (.int .u32 a1)] 0),V 16 (bv false)],[],0⟩ ?_
  refine jr_nil rfl ?_
  exact jx_mid rfl (wkR [] (fix_nil _) allp_nil)
 intro x3
 refine jG 13 1 ⟨[V 0 (iv a0),V 1 (.fptr [.s (.int .u32 a1)] 0),V 17 (bv x3)],[],0⟩ ?_
 refine jr_bind 14 15 (fun x9=>⟨[V 32 (bv x9)],[],0⟩) ?_ ?_
 ·refine jSp 17 ?_ ?_
  ·refine jG 0 15 ⟨[V 32 (bv true)],[],0⟩ ?_
   refine jr_nil rfl ?_
   exact jx_mid rfl (wkR [] (fix_nil _) allp_nil)
  refine jG 0 7 ⟨[V 0 (iv a0),V 1 (.fptr [.s (.int .u32 a1)] 0),(17,.lit false),V 24 (bv ((decide (a0 < 0)) && (decide (a0 > (-31)))))],[],0⟩ ?_
  refine jr_bind 7 7 (fun x12=>⟨[V 17 (bv false),V 31 (bv x12)],[],0⟩) ?_ ?_
  ·refine jSp 24 ?_ ?_
   ·refine jG 0 3 ⟨[(17,.lit false),(24,.lit true),V 25 (.s (.int .u32 a1)),V 27 (iv (w64 (0 - a0)))],[],0⟩ ?_
    refine jr_part (i:=3) (mo:=shrI .u32 a1 (w64 (0 - a0))) rfl rfl rfl rfl (fun _ hc=>aop_shr (k:=.u32) (kb:=.i64) (by kernel_rfl) (by kernel_rfl) hc) (fun _=>rfl) ?_
    intro x13 h13
    refine jr_part (i:=4) (mo:=andI .u32 x13 1) rfl rfl rfl rfl (fun _ hc=>aop_and (k:=.u32) (by kernel_rfl) (by kernel_rfl) hc) (fun _=>rfl) ?_
    intro x14 h14
    refine jG 5 2 ⟨[(17,.lit false),V 31 (bv (x14 == 0))],[],0⟩ ?_
    refine jr_nil rfl ?_
    exact jx_mid rfl (wkR [] (fix_nil _) allp_nil)
   refine jG 0 7 ⟨[(17,.lit false),V 31 (bv false)],[],0⟩ ?_
   refine jr_nil rfl ?_
   exact jx_mid rfl (wkR [] (fix_nil _) allp_nil)
  intro x12
  refine jG 14 1 ⟨[V 32 (bv (false || x12))],[],0⟩ ?_
  refine jr_nil rfl ?_
  exact jx_mid rfl (wkR [] (fix_nil _) allp_nil)
 intro x9
 refine jG 29 1 ⟨[V 3 (bv x9)],[],0⟩ ?_
 refine jN ?_
 refine jc_ret ?_
 exact jx_retF (.inr rfl) (v:=bv x9) (by kernel_rfl) rfl (fle_refl _))
abbrev law29_RupSound_r1:List LO:=[lo 7 (.box 33 (.tmp 3)) 0,lo 8 (.assign (.const (.bool false))) 4]
abbrev law29_RupSound_r2:List LO:=[lm 18 0 22,lo 19 (.call ⟨.value (.func 12),#[.tmp 18],#[22]⟩) 22,lo 9 (.assign (.tmp 19)) 22]
abbrev law29_RupSound_r3:List LO:=[lo 20 (.makeFunc (Fn.func 13) #[] #[.tmp 7]) 35,lo 10 (.assign (.tmp 20)) 35]
abbrev law29_RupSound_r4:List LO:=[lm 21 9 22,lo 22 (.call ⟨.builtin .len,#[.tmp 21],#[22]⟩) 3,lo 23 (.move (.const (.int .i64 0))) 3]
abbrev law29_RupSound_r5:List LO:=[lo 24 (.binOp .lss 3 (.tmp 23) (.tmp 22) 3) 0]
abbrev law29_RupSound_r6:List LO:=[lo 25 (.indexAddr 22 (.tmp 21) (.tmp 23)) 0,lo 26 (.load 29 (.tmp 25)) 29,lo 12 (.assign (.tmp 26)) 29]
abbrev law29_RupSound_r7:List LO:=[lo 13 (.assign (.const (.bool false))) 4]
abbrev law29_RupSound_r8:List LO:=[lm 27 12 29,lo 28 (.call ⟨.builtin .len,#[.tmp 27],#[29]⟩) 3,lo 29 (.move (.const (.int .i64 0))) 3]
abbrev law29_RupSound_r9:List LO:=[lo 30 (.binOp .lss 3 (.tmp 29) (.tmp 28) 3) 0]
abbrev law29_RupSound_r10:List LO:=[lo 31 (.indexAddr 29 (.tmp 27) (.tmp 29)) 0,lo 32 (.load 3 (.tmp 31)) 3,lo 15 (.assign (.tmp 32)) 3]
abbrev law29_RupSound_r11:List LO:=[lm 33 15 3,lo 34 (.binOp .eql 3 (.tmp 33) (.const (.int .i64 0)) 3) 4,lm 35 34 4,lmg 36 15 3 35 false,lg 37 (.binOp .gtr 3 (.tmp 36) (.const (.int .i64 30)) 3) 4 35 false,lo 38 (.pick (.tmp 35) (.const (.bool true)) (.tmp 37)) 4,lm 39 38 4,lmg 40 15 3 39 false,lg 41 (.binOp .lss 3 (.tmp 40) (.const (.int .i64 (-30))) 3) 4 39 false,lo 42 (.pick (.tmp 39) (.const (.bool true)) (.tmp 41)) 4]
abbrev law29_RupSound_r12:List LO:=[lo 43 (.call ⟨.value (.func 11),#[],#[]⟩) 4,lo 8 (.assign (.tmp 43)) 4]
abbrev law29_RupSound_r13:List LO:=[lm 44 13 4,lm 45 44 4,lmg 46 10 35 45 false,lmg 47 15 3 45 false,lg 48 (.call ⟨.value (.tmp 46),#[.tmp 47],#[3]⟩) 4 45 false,lo 49 (.pick (.tmp 45) (.const (.bool true)) (.tmp 48)) 4,lo 13 (.assign (.tmp 49)) 4]
abbrev law29_RupSound_r14:List LO:=[lo 50 (.binOp .add 3 (.tmp 29) (.const (.int .i64 1)) 3) 3,lm 29 50 3]
abbrev law29_RupSound_r15:List LO:=[lm 51 13 4,lo 52 (.unOp .not 4 (.tmp 51)) 4]
abbrev law29_RupSound_r16:List LO:=[lo 53 (.call ⟨.value (.func 11),#[],#[]⟩) 4,lo 8 (.assign (.tmp 53)) 4]
abbrev law29_RupSound_r17:List LO:=[lo 54 (.binOp .add 3 (.tmp 23) (.const (.int .i64 1)) 3) 3,lm 23 54 3]
abbrev law29_RupSound_r18:List LO:=[lm 55 9 22,lm 56 1 22,lo 57 (.call ⟨.value (.func 12),#[.tmp 56],#[22]⟩) 22,lo 58 (.call ⟨.value (.func 14),#[.tmp 55,.tmp 57],#[22,22]⟩) 4]
abbrev law29_RupSound_r19:List LO:=[lo 8 (.assign (.const (.bool false))) 4]
abbrev law29_RupSound_r20:List LO:=[lm 59 9 22,lm 60 2 29,lo 61 (.call ⟨.value (.func 15),#[.tmp 59,.tmp 60],#[22,29]⟩) 4,lo 62 (.unOp .not 4 (.tmp 61)) 4]
abbrev law29_RupSound_r21:List LO:=[lo 63 (.call ⟨.value (.func 11),#[],#[]⟩) 4,lo 8 (.assign (.tmp 63)) 4]
abbrev law29_RupSound_r22:List LO:=[lm 64 2 29,lo 65 (.call ⟨.builtin .len,#[.tmp 64],#[29]⟩) 3,lo 66 (.move (.const (.int .i64 0))) 3]
abbrev law29_RupSound_r23:List LO:=[lo 67 (.binOp .lss 3 (.tmp 66) (.tmp 65) 3) 0]
abbrev law29_RupSound_r24:List LO:=[lo 68 (.indexAddr 29 (.tmp 64) (.tmp 66)) 0,lo 69 (.load 3 (.tmp 68)) 3,lo 17 (.assign (.tmp 69)) 3]
abbrev law29_RupSound_r25:List LO:=[lm 70 17 3,lo 71 (.binOp .gtr 3 (.tmp 70) (.const (.int .i64 30)) 3) 4,lm 72 71 4,lmg 73 17 3 72 false,lg 74 (.binOp .lss 3 (.tmp 73) (.const (.int .i64 (-30))) 3) 4 72 false,lo 75 (.pick (.tmp 72) (.const (.bool true)) (.tmp 74)) 4,lm 76 75 4,lmg 77 10 35 76 false,lmg 78 17 3 76 false,lg 79 (.call ⟨.value (.tmp 77),#[.tmp 78],#[3]⟩) 4 76 false,lo 80 (.pick (.tmp 76) (.const (.bool true)) (.tmp 79)) 4]
abbrev law29_RupSound_r26:List LO:=[lo 81 (.call ⟨.value (.func 11),#[],#[]⟩) 4,lo 8 (.assign (.tmp 81)) 4]
abbrev law29_RupSound_r27:List LO:=[lo 82 (.binOp .add 3 (.tmp 66) (.const (.int .i64 1)) 3) 3,lm 66 82 3]
abbrev law29_RupSound_r28:List LO:=[lo 8 (.assign (.const (.bool false))) 4]
abbrev law29_RupSound_c:LC:=.seq (.reg false law29_RupSound_r1) (.seq (.reg false law29_RupSound_r2) (.seq (.reg false law29_RupSound_r3) (.seq (.seq (.reg false law29_RupSound_r4) (.block 0 (.loop (.seq (.reg false law29_RupSound_r5) (.seq (.cond (.tmp 24) .skip (.exit 0)) (.seq (.block 1 (.seq (.reg false law29_RupSound_r6) (.seq (.reg false law29_RupSound_r7) (.seq (.seq (.reg false law29_RupSound_r8) (.block 2 (.loop (.seq (.reg false law29_RupSound_r9) (.seq (.cond (.tmp 30) .skip (.exit 2)) (.seq (.block 3 (.seq (.reg false law29_RupSound_r10) (.seq (.seq (.reg false law29_RupSound_r11) (.cond (.tmp 42) (.seq (.reg false law29_RupSound_r12) .ret) .skip)) (.reg false law29_RupSound_r13)))) (.reg false law29_RupSound_r14))))))) (.seq (.reg false law29_RupSound_r15) (.cond (.tmp 52) (.seq (.reg false law29_RupSound_r16) .ret) .skip)))))) (.reg false law29_RupSound_r17))))))) (.seq (.seq (.reg false law29_RupSound_r18) (.cond (.tmp 58) (.seq (.reg false law29_RupSound_r19) .ret) .skip)) (.seq (.seq (.reg false law29_RupSound_r20) (.cond (.tmp 62) (.seq (.reg false law29_RupSound_r21) .ret) .skip)) (.seq (.seq (.reg false law29_RupSound_r22) (.block 4 (.loop (.seq (.reg false law29_RupSound_r23) (.seq (.cond (.tmp 67) .skip (.exit 4)) (.seq (.block 5 (.seq (.reg false law29_RupSound_r24) (.seq (.reg false law29_RupSound_r25) (.cond (.tmp 80) (.seq (.reg false law29_RupSound_r26) .ret) .skip)))) (.reg false law29_RupSound_r27))))))) (.seq (.reg false law29_RupSound_r28) .ret)))))))
theorem law29_RupSound_k:FnOk E 4 83 [.tmp 8] law29_RupSound_c:=⟨⟨Go.Proofs.Tryd.f4,by kernel_rfl,by kernel_rfl,by kernel_rfl,by kernel_rfl,by kernel_rfl⟩,rfl,rfl⟩
noncomputable def law29_RupSound_l1 (a3:Int) (x35:(List Int)):(Bool × Int)→Option (Step (Bool × Int) ((Bool) ⊕ (Bool))):=fun (x39,x40)=>(if (decide (x40 < (List.length x35:Int)))=true then Option.bind (ixl x35 x40) (fun x49=>(if (((x49 == 0) || (decide (x49 > 30))) || (decide (x49 < (-30))))=true then Option.bind (law29_awake) (fun x50=>some (Step.done (Sum.inl x50))) else Option.bind (if x39=true then some true else Option.bind (law29_RupSound_1_sb011 x49 a3) (fun x53=>some x53):Option (Bool)) (fun x52=>some (Step.next (x52,(w64 (x40 + 1))))))) else some (Step.done (Sum.inr x39)))
noncomputable def law29_RupSound_l2 (a3:Int) (x1:(List (List Int))):Int→Option (Step (Int) ((Bool) ⊕ (Unit))):=fun x17=>(if (decide (x17 < (List.length x1:Int)))=true then Option.bind (ixl x1 x17) (fun x35=>Option.bind (loopC (law29_RupSound_l1 a3 x35) (false,0)) (fun y=>match y with | Sum.inl x47=>some (Step.done (Sum.inl x47)) | Sum.inr x48=>(if (!x48)=true then Option.bind (law29_awake) (fun x54=>some (Step.done (Sum.inl x54))) else some (Step.next (w64 (x17 + 1)))))) else some (Step.done (Sum.inr ())))
noncomputable def law29_RupSound_l3 (a2:(List Int)) (a3:Int):Int→Option (Step (Int) ((Bool) ⊕ (Unit))):=fun x63=>(if (decide (x63 < (List.length a2:Int)))=true then Option.bind (ixl a2 x63) (fun x70=>Option.bind (if ((decide (x70 > 30)) || (decide (x70 < (-30))))=true then some true else Option.bind (law29_RupSound_1_sb011 x70 a3) (fun x73=>some x73):Option (Bool)) (fun x72=>(if x72=true then Option.bind (law29_awake) (fun x74=>some (Step.done (Sum.inl x74))) else some (Step.next (w64 (x63 + 1)))))) else some (Step.done (Sum.inr ())))
noncomputable def law29_RupSound (a0:(List (List Int))) (a1:(List (List Int))) (a2:(List Int)) (a3:Int):Option (Bool):=Option.bind (law29_few a0) (fun x1=>Option.bind (loopC (law29_RupSound_l2 a3 x1) 0) (fun y=>match y with | Sum.inl x34=>some x34 | Sum.inr _=>Option.bind (law29_few a1) (fun x55=>Option.bind (rup_Refutes x1 x55) (fun x56=>(if x56=true then some false else Option.bind (rup_Step x1 a2) (fun x57=>(if (!x57)=true then Option.bind (law29_awake) (fun x58=>some x58) else Option.bind (loopC (law29_RupSound_l3 a2 a3) 0) (fun y=>match y with | Sum.inl x69=>some x69 | Sum.inr _=>some false))))))))
theorem law29_RupSound_ok (a0:(List (List Int))) (a1:(List (List Int))) (a2:(List Int)) (a3:Int):Ct E 4 [.fsl 1 (List.map c_L3 a0),.fsl 1 (List.map c_L3 a1),.fsl 1 (List.map cI a2),.s (.int .u32 a3)] (law29_RupSound a0 a1 a2 a3) (fun r:Bool=>bv r):=ct_intro (N:=83) (L:=law29_RupSound_c) law29_RupSound_k rfl (Nat.le_of_ble_eq_true rfl) (by kernel_rfl) (by
 unfold law29_RupSound
 refine jS ⟨[V 0 (.fsl 1 (List.map c_L3 a0)),V 1 (.fsl 1 (List.map c_L3 a1)),V 2 (.fsl 1 (List.map cI a2)),V 7 (pt 0 1)],[W 0 1 [.s (.int .u32 a3)]],1⟩ ?_
 refine jR ?_
 refine jG 0 1 ⟨[V 1 (.fsl 1 (List.map c_L3 a1)),V 2 (.fsl 1 (List.map cI a2)),V 7 (pt 0 1),V 18 (.fsl 1 (List.map c_L3 a0))],[W 0 1 [.s (.int .u32 a3)]],1⟩ ?_
 refine jK 1 (law29_few_ok a0) ?_
 intro x1 h1
 refine jG 2 1 ⟨[V 1 (.fsl 1 (List.map c_L3 a1)),V 2 (.fsl 1 (List.map cI a2)),V 7 (pt 0 1),V 9 (.fsl 1 (List.map c_L3 x1))],[W 0 1 [.s (.int .u32 a3)]],1⟩ ?_
 refine jN ?_
 refine jS ⟨[V 1 (.fsl 1 (List.map c_L3 a1)),V 2 (.fsl 1 (List.map cI a2)),V 9 (.fsl 1 (List.map c_L3 x1)),V 10 (.fn 13 [pt 0 1])],[W 0 1 [.s (.int .u32 a3)]],1⟩ ?_
 refine jc_seq ?_
 refine jR ?_
 refine jG 0 3 ⟨[V 1 (.fsl 1 (List.map c_L3 a1)),V 2 (.fsl 1 (List.map cI a2)),V 9 (.fsl 1 (List.map c_L3 x1)),V 10 (.fn 13 [pt 0 1]),V 21 (.fsl 1 (List.map c_L3 x1)),V 22 (iv (List.length (List.map c_L3 x1):Int)),V 23 (iv 0)],[W 0 1 [.s (.int .u32 a3)]],1⟩ ?_
 simp only[List.length_map]
 refine jN ?_
 refine jc_block ?_
 refine jc_bind (fun y=>match y with | Sum.inl x34=>⟨[V 8 (bv x34)],[],0⟩ | Sum.inr _=>⟨[V 1 (.fsl 1 (List.map c_L3 a1)),V 2 (.fsl 1 (List.map cI a2)),V 9 (.fsl 1 (List.map c_L3 x1)),V 10 (.fn 13 [pt 0 1])],[W 0 1 [.s (.int .u32 a3)]],1⟩) (fun y=>match y with | Sum.inl x34=>.ret | Sum.inr _=>(.exit 0)) (jc_loop (fun x17=>⟨[V 1 (.fsl 1 (List.map c_L3 a1)),V 2 (.fsl 1 (List.map cI a2)),V 9 (.fsl 1 (List.map c_L3 x1)),V 10 (.fn 13 [pt 0 1]),V 21 (.fsl 1 (List.map c_L3 x1)),V 22 (iv (List.length x1:Int)),V 23 (iv x17)],[W 0 1 [.s (.int .u32 a3)]],1⟩) (wkR [(0,some 0)] (fix_nil _) (pc (hC 0) allp_nil)) ?_) ?_
 ·intro x17
  unfold law29_RupSound_l2
  refine jS ⟨[V 1 (.fsl 1 (List.map c_L3 a1)),V 2 (.fsl 1 (List.map cI a2)),V 9 (.fsl 1 (List.map c_L3 x1)),V 10 (.fn 13 [pt 0 1]),V 21 (.fsl 1 (List.map c_L3 x1)),V 22 (iv (List.length x1:Int)),V 23 (iv x17),V 24 (bv (decide (x17 < (List.length x1:Int))))],[W 0 1 [.s (.int .u32 a3)]],1⟩ ?_
  refine jc_seq ?_
  refine jIf ?_ ?_
  ·refine jc_skip ?_
   refine jx_seqN ?_
   refine jc_seq ?_
   refine jc_block ?_
   refine jR ?_
   refine jr_part (i:=0) (mo:=ixl x1 x17) rfl rfl rfl rfl (fun _ hc=>aop_ixf (c:=c_L3) (sz:=1) (e:=29) (kk:=.i64) (by kernel_rfl) (by kernel_rfl) (by kernel_rfl) (by kernel_rfl) hc) (fun _=>rfl) ?_
   intro x35 h35
   refine jG 1 2 ⟨[V 1 (.fsl 1 (List.map c_L3 a1)),V 2 (.fsl 1 (List.map cI a2)),V 9 (.fsl 1 (List.map c_L3 x1)),V 10 (.fn 13 [pt 0 1]),V 12 (.fsl 1 (List.map cI x35)),V 21 (.fsl 1 (List.map c_L3 x1)),V 22 (iv (List.length x1:Int)),V 23 (iv x17)],[W 0 1 [.s (.int .u32 a3)]],1⟩ ?_
   refine jN ?_
   refine jS ⟨[V 1 (.fsl 1 (List.map c_L3 a1)),V 2 (.fsl 1 (List.map cI a2)),V 9 (.fsl 1 (List.map c_L3 x1)),V 10 (.fn 13 [pt 0 1]),V 12 (.fsl 1 (List.map cI x35)),V 13 (bv false),V 21 (.fsl 1 (List.map c_L3 x1)),V 22 (iv (List.length x1:Int)),V 23 (iv x17)],[W 0 1 [.s (.int .u32 a3)]],1⟩ ?_
   refine jc_seq ?_
   refine jR ?_
   refine jG 0 3 ⟨[V 1 (.fsl 1 (List.map c_L3 a1)),V 2 (.fsl 1 (List.map cI a2)),V 9 (.fsl 1 (List.map c_L3 x1)),V 10 (.fn 13 [pt 0 1]),V 13 (bv false),V 21 (.fsl 1 (List.map c_L3 x1)),V 22 (iv (List.length x1:Int)),V 23 (iv x17),V 27 (.fsl 1 (List.map cI x35)),V 28 (iv (List.length (List.map cI x35):Int)),V 29 (iv 0)],[W 0 1 [.s (.int .u32 a3)]],1⟩ ?_
   simp only[List.length_map]
   refine jN ?_
   refine jc_block ?_
   refine jc_bind (fun y=>match y with | Sum.inl x47=>⟨[V 8 (bv x47)],[],0⟩ | Sum.inr x48=>⟨[V 1 (.fsl 1 (List.map c_L3 a1)),V 2 (.fsl 1 (List.map cI a2)),V 9 (.fsl 1 (List.map c_L3 x1)),V 10 (.fn 13 [pt 0 1]),V 13 (bv x48),V 21 (.fsl 1 (List.map c_L3 x1)),V 22 (iv (List.length x1:Int)),V 23 (iv x17)],[W 0 1 [.s (.int .u32 a3)]],1⟩) (fun y=>match y with | Sum.inl x47=>.ret | Sum.inr x48=>(.exit 2)) (jc_loop (fun (x39,x40)=>⟨[V 1 (.fsl 1 (List.map c_L3 a1)),V 2 (.fsl 1 (List.map cI a2)),V 9 (.fsl 1 (List.map c_L3 x1)),V 10 (.fn 13 [pt 0 1]),V 13 (bv x39),V 21 (.fsl 1 (List.map c_L3 x1)),V 22 (iv (List.length x1:Int)),V 23 (iv x17),V 27 (.fsl 1 (List.map cI x35)),V 28 (iv (List.length x35:Int)),V 29 (iv x40)],[W 0 1 [.s (.int .u32 a3)]],1⟩) (wkR [(0,some 0)] (fix_nil _) (pc (hC 0) allp_nil)) ?_) ?_
   ·rintro⟨x39,x40⟩
    unfold law29_RupSound_l1
    refine jS ⟨[V 1 (.fsl 1 (List.map c_L3 a1)),V 2 (.fsl 1 (List.map cI a2)),V 9 (.fsl 1 (List.map c_L3 x1)),V 10 (.fn 13 [pt 0 1]),V 13 (bv x39),V 21 (.fsl 1 (List.map c_L3 x1)),V 22 (iv (List.length x1:Int)),V 23 (iv x17),V 27 (.fsl 1 (List.map cI x35)),V 28 (iv (List.length x35:Int)),V 29 (iv x40),V 30 (bv (decide (x40 < (List.length x35:Int))))],[W 0 1 [.s (.int .u32 a3)]],1⟩ ?_
    refine jc_seq ?_
    refine jIf ?_ ?_
    ·refine jc_skip ?_
     refine jx_seqN ?_
     refine jc_seq ?_
     refine jc_block ?_
     refine jR ?_
     refine jr_part (i:=0) (mo:=ixl x35 x40) rfl rfl rfl rfl (fun _ hc=>aop_ixf (c:=cI) (sz:=1) (e:=3) (kk:=.i64) (by kernel_rfl) (by kernel_rfl) (by kernel_rfl) (by kernel_rfl) hc) (fun _=>rfl) ?_
     intro x49 h49
     refine jG 1 2 ⟨[V 1 (.fsl 1 (List.map c_L3 a1)),V 2 (.fsl 1 (List.map cI a2)),V 9 (.fsl 1 (List.map c_L3 x1)),V 10 (.fn 13 [pt 0 1]),V 13 (bv x39),V 15 (iv x49),V 21 (.fsl 1 (List.map c_L3 x1)),V 22 (iv (List.length x1:Int)),V 23 (iv x17),V 27 (.fsl 1 (List.map cI x35)),V 28 (iv (List.length x35:Int)),V 29 (iv x40)],[W 0 1 [.s (.int .u32 a3)]],1⟩ ?_
     refine jN ?_
     refine jc_seq ?_
     refine jS ⟨[V 1 (.fsl 1 (List.map c_L3 a1)),V 2 (.fsl 1 (List.map cI a2)),V 9 (.fsl 1 (List.map c_L3 x1)),V 10 (.fn 13 [pt 0 1]),V 13 (bv x39),V 15 (iv x49),V 21 (.fsl 1 (List.map c_L3 x1)),V 22 (iv (List.length x1:Int)),V 23 (iv x17),V 27 (.fsl 1 (List.map cI x35)),V 28 (iv (List.length x35:Int)),V 29 (iv x40),V 42 (bv (((x49 == 0) || (decide (x49 > 30))) || (decide (x49 < (-30)))))],[W 0 1 [.s (.int .u32 a3)]],1⟩ ?_
     refine jIf ?_ ?_
     ·refine jR ?_
      refine jK 0 (law29_awake_ok) ?_
      intro x50 h50
      refine jG 1 1 ⟨[V 8 (bv x50)],[],1⟩ ?_
      refine jN ?_
      refine jc_ret ?_
      refine jx_seqR ?_
      refine jx_blkR ?_
      refine jx_seqR ?_
      exact jx_done rfl nofun (wkR [] (fix_nil _) allp_nil)
     refine jc_skip ?_
     refine jx_seqN ?_
     refine jc_reg ?_
     refine jG 0 2 ⟨[V 1 (.fsl 1 (List.map c_L3 a1)),V 2 (.fsl 1 (List.map cI a2)),V 9 (.fsl 1 (List.map c_L3 x1)),V 10 (.fn 13 [pt 0 1]),V 15 (iv x49),V 21 (.fsl 1 (List.map c_L3 x1)),V 22 (iv (List.length x1:Int)),V 23 (iv x17),V 27 (.fsl 1 (List.map cI x35)),V 28 (iv (List.length x35:Int)),V 29 (iv x40),V 45 (bv x39)],[W 0 1 [.s (.int .u32 a3)]],1⟩ ?_
     refine jr_bind 2 4 (fun x52=>⟨[V 1 (.fsl 1 (List.map c_L3 a1)),V 2 (.fsl 1 (List.map cI a2)),V 9 (.fsl 1 (List.map c_L3 x1)),V 10 (.fn 13 [pt 0 1]),V 21 (.fsl 1 (List.map c_L3 x1)),V 22 (iv (List.length x1:Int)),V 23 (iv x17),V 27 (.fsl 1 (List.map cI x35)),V 28 (iv (List.length x35:Int)),V 29 (iv x40),V 49 (bv x52)],[W 0 1 [.s (.int .u32 a3)]],1⟩) ?_ ?_
     ·refine jSp 45 ?_ ?_
      ·refine jG 0 4 ⟨[V 1 (.fsl 1 (List.map c_L3 a1)),V 2 (.fsl 1 (List.map cI a2)),V 9 (.fsl 1 (List.map c_L3 x1)),V 10 (.fn 13 [pt 0 1]),V 21 (.fsl 1 (List.map c_L3 x1)),V 22 (iv (List.length x1:Int)),V 23 (iv x17),V 27 (.fsl 1 (List.map cI x35)),V 28 (iv (List.length x35:Int)),V 29 (iv x40),V 49 (bv true)],[W 0 1 [.s (.int .u32 a3)]],1⟩ ?_
       refine jr_nil rfl ?_
       exact jx_mid rfl (wkR [(0,some 0)] (fix_nil _) (pc (hC 0) allp_nil))
      refine jG 0 2 ⟨[V 1 (.fsl 1 (List.map c_L3 a1)),V 2 (.fsl 1 (List.map cI a2)),V 9 (.fsl 1 (List.map c_L3 x1)),V 10 (.fn 13 [pt 0 1]),V 21 (.fsl 1 (List.map c_L3 x1)),V 22 (iv (List.length x1:Int)),V 23 (iv x17),V 27 (.fsl 1 (List.map cI x35)),V 28 (iv (List.length x35:Int)),V 29 (iv x40),(45,.lit false),V 46 (.fn 13 [pt 0 1]),V 47 (iv x49)],[W 0 1 [.s (.int .u32 a3)]],1⟩ ?_
      refine jr_callV (i:=2) rfl rfl rfl rfl (g:=13) (caps:=[pt 0 1]) (avs:=[iv x49]) (vs:=[iv x49,pt 0 1]) (vs0:=[iv x49,.fptr [.s (.int .u32 a3)] 0]) (b:=true) (by kernel_rfl) (by kernel_rfl) rfl (by kernel_rfl) (all2_cons (fle_refl _) (all2_cons (fle_refl _) all2_nil)) (law29_RupSound_1_sb011_ok x49 a3) (fun _=>rfl) (fun _=>rfl) ?_
      intro x53 h53
      refine jG 3 1 ⟨[V 1 (.fsl 1 (List.map c_L3 a1)),V 2 (.fsl 1 (List.map cI a2)),V 9 (.fsl 1 (List.map c_L3 x1)),V 10 (.fn 13 [pt 0 1]),V 21 (.fsl 1 (List.map c_L3 x1)),V 22 (iv (List.length x1:Int)),V 23 (iv x17),V 27 (.fsl 1 (List.map cI x35)),V 28 (iv (List.length x35:Int)),V 29 (iv x40),V 49 (bv x53)],[W 0 1 [.s (.int .u32 a3)]],1⟩ ?_
      refine jr_nil rfl ?_
      exact jx_mid rfl (wkR [(0,some 0)] (fix_nil _) (pc (hC 0) allp_nil))
     intro x52
     refine jG 6 1 ⟨[V 1 (.fsl 1 (List.map c_L3 a1)),V 2 (.fsl 1 (List.map cI a2)),V 9 (.fsl 1 (List.map c_L3 x1)),V 10 (.fn 13 [pt 0 1]),V 13 (bv x52),V 21 (.fsl 1 (List.map c_L3 x1)),V 22 (iv (List.length x1:Int)),V 23 (iv x17),V 27 (.fsl 1 (List.map cI x35)),V 28 (iv (List.length x35:Int)),V 29 (iv x40)],[W 0 1 [.s (.int .u32 a3)]],1⟩ ?_
     refine jr_nil rfl ?_
     refine jx_blkN ?_
     refine jx_seqN ?_
     refine jT ⟨[V 1 (.fsl 1 (List.map c_L3 a1)),V 2 (.fsl 1 (List.map cI a2)),V 9 (.fsl 1 (List.map c_L3 x1)),V 10 (.fn 13 [pt 0 1]),V 13 (bv x52),V 21 (.fsl 1 (List.map c_L3 x1)),V 22 (iv (List.length x1:Int)),V 23 (iv x17),V 27 (.fsl 1 (List.map cI x35)),V 28 (iv (List.length x35:Int)),V 29 (iv (w64 (x40 + 1)))],[W 0 1 [.s (.int .u32 a3)]],1⟩ ?_
     exact jx_next (wkR [(0,some 0)] (fix_nil _) (pc (hC 0) allp_nil))
    refine jc_exit ?_
    refine jx_seqE ?_
    exact jx_done rfl nofun (wkR [(0,some 0)] (fix_nil _) (pc (hC 0) allp_nil))
   rintro (x47 | x48)
   ·refine jx_blkR ?_
    refine jx_seqR ?_
    refine jx_blkR ?_
    refine jx_seqR ?_
    exact jx_done rfl nofun (wkR [] (fix_nil _) allp_nil)
   refine jx_blkE ?_
   refine jx_seqN ?_
   refine jS ⟨[V 1 (.fsl 1 (List.map c_L3 a1)),V 2 (.fsl 1 (List.map cI a2)),V 9 (.fsl 1 (List.map c_L3 x1)),V 10 (.fn 13 [pt 0 1]),V 21 (.fsl 1 (List.map c_L3 x1)),V 22 (iv (List.length x1:Int)),V 23 (iv x17),V 52 (bv (!x48))],[W 0 1 [.s (.int .u32 a3)]],1⟩ ?_
   refine jIf ?_ ?_
   ·refine jR ?_
    refine jK 0 (law29_awake_ok) ?_
    intro x54 h54
    refine jG 1 1 ⟨[V 8 (bv x54)],[],1⟩ ?_
    refine jN ?_
    refine jc_ret ?_
    refine jx_blkR ?_
    refine jx_seqR ?_
    exact jx_done rfl nofun (wkR [] (fix_nil _) allp_nil)
   refine jc_skip ?_
   refine jx_blkN ?_
   refine jx_seqN ?_
   refine jT ⟨[V 1 (.fsl 1 (List.map c_L3 a1)),V 2 (.fsl 1 (List.map cI a2)),V 9 (.fsl 1 (List.map c_L3 x1)),V 10 (.fn 13 [pt 0 1]),V 21 (.fsl 1 (List.map c_L3 x1)),V 22 (iv (List.length x1:Int)),V 23 (iv (w64 (x17 + 1)))],[W 0 1 [.s (.int .u32 a3)]],1⟩ ?_
   exact jx_next (wkR [(0,some 0)] (fix_nil _) (pc (hC 0) allp_nil))
  refine jc_exit ?_
  refine jx_seqE ?_
  exact jx_done rfl nofun (wkR [(0,some 0)] (fix_nil _) (pc (hC 0) allp_nil))
 rintro (x34 | _)
 ·refine jx_blkR ?_
  refine jx_seqR ?_
  exact jx_retF (.inr rfl) (v:=bv x34) (by kernel_rfl) rfl (fle_refl _)
 refine jx_blkE ?_
 refine jx_seqN ?_
 refine jc_seq ?_
 refine jR ?_
 refine jG 0 2 ⟨[V 2 (.fsl 1 (List.map cI a2)),V 9 (.fsl 1 (List.map c_L3 x1)),V 10 (.fn 13 [pt 0 1]),V 55 (.fsl 1 (List.map c_L3 x1)),V 56 (.fsl 1 (List.map c_L3 a1))],[W 0 1 [.s (.int .u32 a3)]],1⟩ ?_
 refine jK 2 (law29_few_ok a1) ?_
 intro x55 h55
 refine jK 3 (rup_Refutes_ok x1 x55) ?_
 intro x56 h56
 refine jN ?_
 refine jIf ?_ ?_
 ·refine jS ⟨[V 8 (bv false)],[],1⟩ ?_
  refine jc_ret ?_
  refine jx_seqR ?_
  exact jx_retF (.inr rfl) (v:=bv false) (by kernel_rfl) rfl (fle_refl _)
 refine jc_skip ?_
 refine jx_seqN ?_
 refine jc_seq ?_
 refine jR ?_
 refine jG 0 2 ⟨[V 2 (.fsl 1 (List.map cI a2)),V 10 (.fn 13 [pt 0 1]),V 59 (.fsl 1 (List.map c_L3 x1)),V 60 (.fsl 1 (List.map cI a2))],[W 0 1 [.s (.int .u32 a3)]],1⟩ ?_
 refine jK 2 (rup_Step_ok x1 a2) ?_
 intro x57 h57
 refine jG 3 1 ⟨[V 2 (.fsl 1 (List.map cI a2)),V 10 (.fn 13 [pt 0 1]),V 62 (bv (!x57))],[W 0 1 [.s (.int .u32 a3)]],1⟩ ?_
 refine jN ?_
 refine jIf ?_ ?_
 ·refine jR ?_
  refine jK 0 (law29_awake_ok) ?_
  intro x58 h58
  refine jG 1 1 ⟨[V 8 (bv x58)],[],1⟩ ?_
  refine jN ?_
  refine jc_ret ?_
  refine jx_seqR ?_
  exact jx_retF (.inr rfl) (v:=bv x58) (by kernel_rfl) rfl (fle_refl _)
 refine jc_skip ?_
 refine jx_seqN ?_
 refine jc_seq ?_
 refine jR ?_
 refine jG 0 3 ⟨[V 10 (.fn 13 [pt 0 1]),V 64 (.fsl 1 (List.map cI a2)),V 65 (iv (List.length (List.map cI a2):Int)),V 66 (iv 0)],[W 0 1 [.s (.int .u32 a3)]],1⟩ ?_
 simp only[List.length_map]
 refine jN ?_
 refine jc_block ?_
 refine jc_bind (fun y=>match y with | Sum.inl x69=>⟨[V 8 (bv x69)],[],0⟩ | Sum.inr _=>⟨[],[],0⟩) (fun y=>match y with | Sum.inl x69=>.ret | Sum.inr _=>(.exit 4)) (jc_loop (fun x63=>⟨[V 10 (.fn 13 [pt 0 1]),V 64 (.fsl 1 (List.map cI a2)),V 65 (iv (List.length a2:Int)),V 66 (iv x63)],[W 0 1 [.s (.int .u32 a3)]],1⟩) (wkR [(0,some 0)] (fix_nil _) (pc (hC 0) allp_nil)) ?_) ?_
 ·intro x63
  unfold law29_RupSound_l3
  refine jS ⟨[V 10 (.fn 13 [pt 0 1]),V 64 (.fsl 1 (List.map cI a2)),V 65 (iv (List.length a2:Int)),V 66 (iv x63),V 67 (bv (decide (x63 < (List.length a2:Int))))],[W 0 1 [.s (.int .u32 a3)]],1⟩ ?_
  refine jc_seq ?_
  refine jIf ?_ ?_
  ·refine jc_skip ?_
   refine jx_seqN ?_
   refine jc_seq ?_
   refine jc_block ?_
   refine jR ?_
   refine jr_part (i:=0) (mo:=ixl a2 x63) rfl rfl rfl rfl (fun _ hc=>aop_ixf (c:=cI) (sz:=1) (e:=3) (kk:=.i64) (by kernel_rfl) (by kernel_rfl) (by kernel_rfl) (by kernel_rfl) hc) (fun _=>rfl) ?_
   intro x70 h70
   refine jG 1 2 ⟨[V 10 (.fn 13 [pt 0 1]),V 17 (iv x70),V 64 (.fsl 1 (List.map cI a2)),V 65 (iv (List.length a2:Int)),V 66 (iv x63)],[W 0 1 [.s (.int .u32 a3)]],1⟩ ?_
   refine jN ?_
   refine jR ?_
   refine jG 0 7 ⟨[V 10 (.fn 13 [pt 0 1]),V 17 (iv x70),V 64 (.fsl 1 (List.map cI a2)),V 65 (iv (List.length a2:Int)),V 66 (iv x63),V 76 (bv ((decide (x70 > 30)) || (decide (x70 < (-30)))))],[W 0 1 [.s (.int .u32 a3)]],1⟩ ?_
   refine jr_bind 7 4 (fun x72=>⟨[V 10 (.fn 13 [pt 0 1]),V 64 (.fsl 1 (List.map cI a2)),V 65 (iv (List.length a2:Int)),V 66 (iv x63),V 80 (bv x72)],[W 0 1 [.s (.int .u32 a3)]],1⟩) ?_ ?_
   ·refine jSp 76 ?_ ?_
    ·refine jG 0 4 ⟨[V 10 (.fn 13 [pt 0 1]),V 64 (.fsl 1 (List.map cI a2)),V 65 (iv (List.length a2:Int)),V 66 (iv x63),V 80 (bv true)],[W 0 1 [.s (.int .u32 a3)]],1⟩ ?_
     refine jr_nil rfl ?_
     exact jx_mid rfl (wkR [(0,some 0)] (fix_nil _) (pc (hC 0) allp_nil))
    refine jG 0 2 ⟨[V 10 (.fn 13 [pt 0 1]),V 64 (.fsl 1 (List.map cI a2)),V 65 (iv (List.length a2:Int)),V 66 (iv x63),(76,.lit false),V 77 (.fn 13 [pt 0 1]),V 78 (iv x70)],[W 0 1 [.s (.int .u32 a3)]],1⟩ ?_
    refine jr_callV (i:=2) rfl rfl rfl rfl (g:=13) (caps:=[pt 0 1]) (avs:=[iv x70]) (vs:=[iv x70,pt 0 1]) (vs0:=[iv x70,.fptr [.s (.int .u32 a3)] 0]) (b:=true) (by kernel_rfl) (by kernel_rfl) rfl (by kernel_rfl) (all2_cons (fle_refl _) (all2_cons (fle_refl _) all2_nil)) (law29_RupSound_1_sb011_ok x70 a3) (fun _=>rfl) (fun _=>rfl) ?_
    intro x73 h73
    refine jG 3 1 ⟨[V 10 (.fn 13 [pt 0 1]),V 64 (.fsl 1 (List.map cI a2)),V 65 (iv (List.length a2:Int)),V 66 (iv x63),V 80 (bv x73)],[W 0 1 [.s (.int .u32 a3)]],1⟩ ?_
    refine jr_nil rfl ?_
    exact jx_mid rfl (wkR [(0,some 0)] (fix_nil _) (pc (hC 0) allp_nil))
   intro x72
   refine jN ?_
   refine jIf ?_ ?_
   ·refine jR ?_
    refine jK 0 (law29_awake_ok) ?_
    intro x74 h74
    refine jG 1 1 ⟨[V 8 (bv x74)],[],1⟩ ?_
    refine jN ?_
    refine jc_ret ?_
    refine jx_blkR ?_
    refine jx_seqR ?_
    exact jx_done rfl nofun (wkR [] (fix_nil _) allp_nil)
   refine jc_skip ?_
   refine jx_blkN ?_
   refine jx_seqN ?_
   refine jT ⟨[V 10 (.fn 13 [pt 0 1]),V 64 (.fsl 1 (List.map cI a2)),V 65 (iv (List.length a2:Int)),V 66 (iv (w64 (x63 + 1)))],[W 0 1 [.s (.int .u32 a3)]],1⟩ ?_
   exact jx_next (wkR [(0,some 0)] (fix_nil _) (pc (hC 0) allp_nil))
  refine jc_exit ?_
  refine jx_seqE ?_
  exact jx_done rfl nofun (wkR [] (fix_nil _) allp_nil)
 rintro (x69 | _)
 ·refine jx_blkR ?_
  refine jx_seqR ?_
  exact jx_retF (.inr rfl) (v:=bv x69) (by kernel_rfl) rfl (fle_refl _)
 refine jx_blkE ?_
 refine jx_seqN ?_
 refine jS ⟨[V 8 (bv false)],[],0⟩ ?_
 refine jc_ret ?_
 exact jx_retF (.inr rfl) (v:=bv false) (by kernel_rfl) rfl (fle_refl _))
end Go.Vm

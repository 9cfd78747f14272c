/- The law CnfTells, a part of its proof: what the functions that it reaches compute. -/
import Derived.Test.YtbnmgejigpcggaaDoorDxea31a255
import Derived.Test.YtbnmgejigpcggaaDoorW24CnfTells
set_option linter.unusedVariables false
set_option linter.unusedSimpArgs false
set_option linter.unusedVariables false
namespace Go.Vm
open Go
structure S_api_Clause where
  Lits:(List Int)
  Tag:Int
  deriving DecidableEq,Inhabited
abbrev c_S_api_Clause (x:S_api_Clause):List AV:=[.fsl 1 (List.map cI x.Lits),iv x.Tag]
structure S_api_Formula where
  Vars:Int
  Clauses:(List S_api_Clause)
  Order:(List Int)
  deriving DecidableEq,Inhabited
abbrev c_S_api_Formula (x:S_api_Formula):List AV:=[iv x.Vars,.fsl 2 (List.map c_S_api_Clause x.Clauses),.fsl 1 (List.map cI x.Order)]
set_option maxRecDepth 100000
set_option maxHeartbeats 0
set_option linter.unusedSimpArgs false
abbrev slices_Clone_int_int_r1:List LO:=[lo 2 (.assign (.const (.slice none 0 0))) 23]
abbrev slices_Clone_int_int_r2:List LO:=[lm 3 0 23,lo 4 (.binOp .eql 23 (.tmp 3) (.const (.slice none 0 0)) 23) 4]
abbrev slices_Clone_int_int_r3:List LO:=[lo 2 (.assign (.const (.slice none 0 0))) 23]
abbrev slices_Clone_int_int_r4:List LO:=[lo 5 (.buildSlice 23 0 #[]) 23,lm 6 0 23,lo 7 (.call ⟨.builtin .append,#[.tmp 5,.tmp 6],#[23,23]⟩) 23,lo 2 (.assign (.tmp 7)) 23]
abbrev slices_Clone_int_int_c:LC:=.seq (.reg false slices_Clone_int_int_r1) (.seq (.seq (.reg false slices_Clone_int_int_r2) (.cond (.tmp 4) (.seq (.reg false slices_Clone_int_int_r3) .ret) .skip)) (.seq (.reg false slices_Clone_int_int_r4) .ret))
theorem slices_Clone_int_int_k:FnOk E 29 8 [.tmp 2] slices_Clone_int_int_c:=⟨⟨Go.Proofs.Tryd.f29,by kernel_rfl,by kernel_rfl,by kernel_rfl,by kernel_rfl,by kernel_rfl⟩,rfl,rfl⟩
abbrev slices_Clone_int_int_T (a0:List Int) (r:List Int):CS:=⟨[V 2 (.osl 0 0 (List.length r) 1)],[(0,.rows 1 (List.map cI r))],1⟩
noncomputable def slices_Clone_int_int (a0:List Int):Option (List Int):=Option.bind (app 8 ([]:List Int) a0) (fun x3=>some x3)
theorem slices_Clone_int_int_ok (a0:List Int):CtM E 29 [.fsl 1 (List.map cI a0)] [] 0 (slices_Clone_int_int a0) (fun r:List Int=>.osl 0 0 (List.length r) 1) (fun r:List Int=>[(0,.rows 1 (List.map cI r))]) 1:=ctm_intro (N:=8) (L:=slices_Clone_int_int_c) slices_Clone_int_int_k rfl (Nat.le_of_ble_eq_true rfl) (fun F hF=>by
 unfold slices_Clone_int_int
 refine jS ⟨[V 0 (.fsl 1 (List.map cI a0))],[],0⟩ ?_
 refine jc_seq ?_
 refine jR ?_
 refine jG 0 1 ⟨[V 0 (.fsl 1 (List.map cI a0)),V 3 (.fsl 1 (List.map cI a0))],[],0⟩ ?_
 refine jr_isnil 1 (v:=.fsl 1 (List.map cI a0)) (C:=a0=[]) (mA:=(some [])) (b:=false) mayF (fun h=>by first | (rw[h]; rfl) | simp[h,app]) (fun _=>?_) ?_ (hr:=.inr ⟨_,_,rfl⟩)
 ·refine jN ?_
  refine jc_condK (c:=true) (by kernel_rfl) ?_
  refine jS ⟨[V 2 (nilS)],[],0⟩ ?_
  refine jc_ret ?_
  refine jx_seqR ?_
  exact jx_retM (slices_Clone_int_int_T a0 []) (.inr rfl) (wkR [(0,none)] (fix_of hF (k:=0) rfl) (pc hZ allp_nil))
 refine jN ?_
 refine jc_condK (c:=false) (by kernel_rfl) ?_
 refine jc_skip ?_
 refine jx_seqN ?_
 refine jR ?_
 refine jG 0 2 ⟨[V 5 (.osl 0 0 (List.length ([]:List Int)) 1),V 6 (.fsl 1 (List.map cI a0))],[(0,.rows 1 (List.map cI ([]:List Int)))],1⟩ ?_
 refine jr_two (i:=2) (C:=a0=[]) (st1:=fun x3=>⟨[V 7 (.osl 1 0 (List.length x3) 1)],[(1,.rows 1 (List.map cI x3))],2⟩) rfl rfl rfl rfl (fun q _ hc=>aop_app (u:=.osl 0 0 (List.length ([]:List Int)) 1) (w:=.fsl 1 (List.map cI a0)) (e:=3) (td:=.slice 3) (by kernel_rfl) (by kernel_rfl) (by kernel_rfl) (by kernel_rfl) (.inl ⟨_,rfl⟩) (appendOf_own (c:=cI) (sz:=1) (b:=8) (id:=0) (by kernel_rfl) (by kernel_rfl) rows_fsl q hc)) (fun q _ hc=>aop_app (u:=.osl 0 0 (List.length ([]:List Int)) 1) (w:=.fsl 1 (List.map cI a0)) (e:=3) (td:=.slice 3) (by kernel_rfl) (by kernel_rfl) (by kernel_rfl) (by kernel_rfl) (.inl ⟨_,rfl⟩) (appendOf_same (c:=cI) (sz:=1) (b:=8) (m:=a0) (by kernel_rfl) (.inr (.inr ⟨_,_,_,_,rfl⟩)) rows_fsl q)) (fun _=>rfl) (fun _=>rfl) (fun _=>wkR [(1,some 1)] (fix_of hF (k:=0) rfl) (pc (hL 1 (noid_map ni_I _)) allp_nil)) (fun q _ hc=>by cases app_same q hc; exact wkR [(1,some 0)] (fix_of hF (k:=0) rfl) (pc (hL 0 (noid_map ni_I _)) allp_nil)) ?_
 intro x3 h3
 refine jG 3 1 ⟨[V 2 (.osl 1 0 (List.length x3) 1)],[(1,.rows 1 (List.map cI x3))],2⟩ ?_
 refine jN ?_
 refine jc_ret ?_
 exact jx_retM (slices_Clone_int_int_T a0 x3) (.inr rfl) (wkR [(0,some 1)] (fix_of hF (k:=0) rfl) (pc (hL 1 (noid_map ni_I _)) allp_nil)))
abbrev cnf_literal_r1:List LO:=[lo 4 (.assign (.const (.bool false))) 4]
abbrev cnf_literal_r2:List LO:=[lm 5 0 3,lo 6 (.binOp .neq 3 (.tmp 5) (.const (.int .i64 0)) 3) 4,lm 7 6 4,lmg 8 0 3 7 true,lmg 9 1 3 7 true,lg 10 (.binOp .leq 3 (.tmp 8) (.tmp 9) 3) 4 7 true,lo 11 (.pick (.tmp 7) (.tmp 10) (.const (.bool false))) 4,lm 12 11 4,lmg 13 0 3 12 true,lmg 14 1 3 12 true,lg 15 (.unOp .neg 3 (.tmp 14)) 3 12 true,lg 16 (.binOp .geq 3 (.tmp 13) (.tmp 15) 3) 4 12 true,lo 17 (.pick (.tmp 12) (.tmp 16) (.const (.bool false))) 4,lo 4 (.assign (.tmp 17)) 4]
abbrev cnf_literal_c:LC:=.seq (.reg false cnf_literal_r1) (.seq (.reg false cnf_literal_r2) .ret)
theorem cnf_literal_k:FnOk E 30 18 [.tmp 4] cnf_literal_c:=⟨⟨Go.Proofs.Tryd.f30,by kernel_rfl,by kernel_rfl,by kernel_rfl,by kernel_rfl,by kernel_rfl⟩,rfl,rfl⟩
noncomputable def cnf_literal (a0:Int) (a1:Int):Option (Bool):=some (((a0 != 0) && (decide (a0≤a1))) && (decide (a0≥(w64 (0 - a1)))))
theorem cnf_literal_ok (a0:Int) (a1:Int):Ct E 30 [iv a0,iv a1] (cnf_literal a0 a1) (fun r:Bool=>bv r):=ct_intro (N:=18) (L:=cnf_literal_c) cnf_literal_k rfl (Nat.le_of_ble_eq_true rfl) (by kernel_rfl) (by
 unfold cnf_literal
 refine jS ⟨[V 0 (iv a0),V 1 (iv a1)],[],0⟩ ?_
 refine jS ⟨[V 4 (bv (((a0 != 0) && (decide (a0≤a1))) && (decide (a0≥(w64 (0 - a1))))))],[],0⟩ ?_
 refine jc_ret ?_
 exact jx_retF (.inr rfl) (v:=bv (((a0 != 0) && (decide (a0≤a1))) && (decide (a0≥(w64 (0 - a1)))))) (by kernel_rfl) rfl (fle_refl _))
abbrev cnf_Clean_r1:List LO:=[lo 2 (.assign (.const (.slice none 0 0))) 23,lo 3 (.assign (.const (.bool false))) 4]
abbrev cnf_Clean_r2:List LO:=[lm 8 0 23,lo 9 (.call ⟨.value (.func 29),#[.tmp 8],#[23]⟩) 23,lo 4 (.assign (.tmp 9)) 23]
abbrev cnf_Clean_r3:List LO:=[lm 10 4 23,lo 11 (.call ⟨.builtin .len,#[.tmp 10],#[23]⟩) 3,lo 12 (.move (.const (.int .i64 0))) 3]
abbrev cnf_Clean_r4:List LO:=[lo 13 (.binOp .lss 3 (.tmp 12) (.tmp 11) 3) 0]
abbrev cnf_Clean_r5:List LO:=[lo 14 (.indexAddr 23 (.tmp 10) (.tmp 12)) 0,lo 15 (.load 3 (.tmp 14)) 3,lo 6 (.assign (.tmp 15)) 3]
abbrev cnf_Clean_r6:List LO:=[lm 16 6 3,lo 17 (.call ⟨.value (.func 30),#[.tmp 16,.const (.int .i64 4096)],#[3,3]⟩) 4,lo 18 (.unOp .not 4 (.tmp 17)) 4]
abbrev cnf_Clean_r7:List LO:=[lo 2 (.assign (.const (.slice none 0 0))) 23,lo 3 (.assign (.const (.bool false))) 4]
abbrev cnf_Clean_r8:List LO:=[lo 19 (.binOp .add 3 (.tmp 12) (.const (.int .i64 1)) 3) 3,lm 12 19 3]
abbrev cnf_Clean_r9:List LO:=[lm 20 4 23,lo 21 (.call ⟨.value (.func 31),#[.tmp 20,.func 32],#[23,60]⟩) 0]
abbrev cnf_Clean_r10:List LO:=[lm 22 4 23,lo 23 (.call ⟨.value (.func 33),#[.tmp 22],#[23]⟩) 23,lo 4 (.assign (.tmp 23)) 23]
abbrev cnf_Clean_r11:List LO:=[lm 24 4 23,lo 25 (.call ⟨.builtin .len,#[.tmp 24],#[23]⟩) 3,lo 26 (.move (.const (.int .i64 0))) 3]
abbrev cnf_Clean_r12:List LO:=[lo 27 (.binOp .lss 3 (.tmp 26) (.tmp 25) 3) 0]
abbrev cnf_Clean_r13:List LO:=[lm 28 26 3,lo 7 (.assign (.tmp 28)) 3]
abbrev cnf_Clean_r14:List LO:=[lm 29 7 3,lo 30 (.binOp .gtr 3 (.tmp 29) (.const (.int .i64 0)) 3) 4,lm 31 30 4,lmg 32 4 23 31 true,lmg 33 7 3 31 true,lg 34 (.binOp .sub 3 (.tmp 33) (.const (.int .i64 1)) 3) 3 31 true,lg 35 (.indexAddr 23 (.tmp 32) (.tmp 34)) 0 31 true,lg 36 (.load 3 (.tmp 35)) 3 31 true,lmg 37 4 23 31 true,lmg 38 7 3 31 true,lg 39 (.indexAddr 23 (.tmp 37) (.tmp 38)) 0 31 true,lg 40 (.load 3 (.tmp 39)) 3 31 true,lg 41 (.unOp .neg 3 (.tmp 40)) 3 31 true,lg 42 (.binOp .eql 3 (.tmp 36) (.tmp 41) 3) 4 31 true,lo 43 (.pick (.tmp 31) (.tmp 42) (.const (.bool false))) 4]
abbrev cnf_Clean_r15:List LO:=[lo 2 (.assign (.const (.slice none 0 0))) 23,lo 3 (.assign (.const (.bool false))) 4]
abbrev cnf_Clean_r16:List LO:=[lo 44 (.binOp .add 3 (.tmp 26) (.const (.int .i64 1)) 3) 3,lm 26 44 3]
abbrev cnf_Clean_r17:List LO:=[lm 45 4 23,lo 2 (.assign (.tmp 45)) 23,lo 3 (.assign (.const (.bool true))) 4]
abbrev cnf_Clean_c:LC:=.seq (.reg false cnf_Clean_r1) (.seq (.reg false cnf_Clean_r2) (.seq (.seq (.reg false cnf_Clean_r3) (.block 0 (.loop (.seq (.reg false cnf_Clean_r4) (.seq (.cond (.tmp 13) .skip (.exit 0)) (.seq (.block 1 (.seq (.reg false cnf_Clean_r5) (.seq (.reg false cnf_Clean_r6) (.cond (.tmp 18) (.seq (.reg false cnf_Clean_r7) .ret) .skip)))) (.reg false cnf_Clean_r8))))))) (.seq (.reg false cnf_Clean_r9) (.seq (.reg false cnf_Clean_r10) (.seq (.seq (.reg false cnf_Clean_r11) (.block 2 (.loop (.seq (.reg false cnf_Clean_r12) (.seq (.cond (.tmp 27) .skip (.exit 2)) (.seq (.block 3 (.seq (.reg false cnf_Clean_r13) (.seq (.reg true cnf_Clean_r14) (.cond (.tmp 43) (.seq (.reg false cnf_Clean_r15) .ret) .skip)))) (.reg false cnf_Clean_r16))))))) (.seq (.reg false cnf_Clean_r17) .ret))))))
theorem cnf_Clean_k:FnOk E 7 46 [.tmp 2,.tmp 3] cnf_Clean_c:=⟨⟨Go.Proofs.Tryd.f7,by kernel_rfl,by kernel_rfl,by kernel_rfl,by kernel_rfl,by kernel_rfl⟩,rfl,rfl⟩
noncomputable def cnf_Clean_l1 (x17:List Int):Int→Option (Step (Int) ((Unit) ⊕ (Unit))):=fun x20=>(if (decide (x20 < (List.length x17:Int)))=true then Option.bind (ixl x17 x20) (fun x24=>Option.bind (cnf_literal x24 4096) (fun x25=>(if (!x25)=true then some (Step.done (Sum.inl ())) else some (Step.next (w64 (x20 + 1)))))) else some (Step.done (Sum.inr ())))
noncomputable def cnf_Clean_l2 (x27:List Int):Int→Option (Step (Int) ((Unit) ⊕ (Unit))):=fun x28=>(if (decide (x28 < (List.length x27:Int)))=true then Option.bind (if (decide (x28 > 0))=true then Option.bind (ixl x27 (w64 (x28 - 1))) (fun x36=>Option.bind (ixl x27 x28) (fun x37=>some (x36 == (w64 (0 - x37))))) else some false:Option (Bool)) (fun x35=>(if x35=true then some (Step.done (Sum.inl ())) else some (Step.next (w64 (x28 + 1))))) else some (Step.done (Sum.inr ())))
abbrev cnf_Clean_T (a0:List Int) (r:List Int × Bool):CS:=⟨[V 2 (.osl 0 0 (List.length r.1) 1),V 3 (bv r.2)],[(0,.rows 1 (List.map cI r.1))],1⟩
noncomputable def cnf_Clean (a0:List Int):Option (List Int × Bool):=Option.bind (slices_Clone_int_int a0) (fun x17=>Option.bind (loopC (cnf_Clean_l1 x17) 0) (fun y=>match y with | Sum.inl _=>some ([],false) | Sum.inr _=>Option.bind (slices_SortFuncV x17) (fun x26=>Option.bind (slices_CompactI x26) (fun x27=>Option.bind (loopC (cnf_Clean_l2 x27) 0) (fun y=>match y with | Sum.inl _=>some ([],false) | Sum.inr _=>some (x27,true))))))
theorem cnf_Clean_ok (a0:List Int):CtM E 7 [.fsl 1 (List.map cI a0)] [] 0 (cnf_Clean a0) (fun r:List Int × Bool=>.tup [.osl 0 0 (List.length r.1) 1,bv r.2]) (fun r:List Int × Bool=>[(0,.rows 1 (List.map cI r.1))]) 1:=ctm_intro (N:=46) (L:=cnf_Clean_c) cnf_Clean_k rfl (Nat.le_of_ble_eq_true rfl) (fun F hF=>by
 unfold cnf_Clean
 refine jS ⟨[V 0 (.fsl 1 (List.map cI a0))],[],0⟩ ?_
 refine jR ?_
 refine jG 0 1 ⟨[V 8 (.fsl 1 (List.map cI a0))],[],0⟩ ?_
 refine jr_callM 1 [] [(0,some 0)] (fun r:List Int=>[(0,.rows 1 (List.map cI r))]) (fun r:List Int=>.osl 0 0 (List.length r) 1) 1 (slices_Clone_int_int_ok a0) allp_nil (fun r=>(pc (.inr (hL 0 (noid_map ni_I _))) allp_nil)) ?_
 rintro x17 hm6
 refine jG 2 1 ⟨[V 4 (.osl 0 0 (List.length x17) 1)],[(0,.rows 1 (List.map cI x17))],1⟩ ?_
 refine jN ?_
 refine jc_seq ?_
 refine jS ⟨[V 4 (.osl 0 0 (List.length x17) 1),V 10 (.osl 0 0 (List.length x17) 1),V 11 (iv (List.length x17:Int)),V 12 (iv 0)],[(0,.rows 1 (List.map cI x17))],1⟩ ?_
 refine jc_block ?_
 refine jc_bind (fun y=>match y with | Sum.inl _=>⟨[V 2 (nilS),V 3 (bv false)],[],0⟩ | Sum.inr _=>⟨[V 4 (.osl 0 0 (List.length x17) 1)],[(0,.rows 1 (List.map cI x17))],1⟩) (fun y=>match y with | Sum.inl _=>.ret | Sum.inr _=>(.exit 0)) (jc_loop (fun x20=>⟨[V 4 (.osl 0 0 (List.length x17) 1),V 10 (.osl 0 0 (List.length x17) 1),V 11 (iv (List.length x17:Int)),V 12 (iv x20)],[(0,.rows 1 (List.map cI x17))],1⟩) (wkR [(0,some 0)] (fix_of hF (k:=0) rfl) (pc (hL 0 (noid_map ni_I _)) allp_nil)) ?_) ?_
 ·intro x20
  unfold cnf_Clean_l1
  refine jS ⟨[V 4 (.osl 0 0 (List.length x17) 1),V 10 (.osl 0 0 (List.length x17) 1),V 11 (iv (List.length x17:Int)),V 12 (iv x20),V 13 (bv (decide (x20 < (List.length x17:Int))))],[(0,.rows 1 (List.map cI x17))],1⟩ ?_
  refine jc_seq ?_
  refine jIf ?_ ?_
  ·refine jc_skip ?_
   refine jx_seqN ?_
   refine jc_seq ?_
   refine jc_block ?_
   refine jR ?_
   refine jr_part (i:=0) (mo:=ixl x17 x20) rfl rfl rfl rfl (fun _ hc=>aop_ixo0 (sz:=1) (e:=3) (kk:=.i64) (id:=0) (by kernel_rfl) (by kernel_rfl) (by kernel_rfl) (by kernel_rfl) hc) (fun _=>rfl) ?_
   intro x24 h24
   refine jr_one (i:=1) (v:=iv x24) rfl rfl rfl rfl (aop_ldo (l:=x17) (c:=cI) (id:=0) (k:=(Int.toNat x20)) (sz:=1) (off:=0) (a:=x24) (by kernel_rfl) (by kernel_rfl) (ixl_lt h24).2.2 (by kernel_rfl)) rfl ?_
   refine jG 2 1 ⟨[V 4 (.osl 0 0 (List.length x17) 1),V 6 (iv x24),V 10 (.osl 0 0 (List.length x17) 1),V 11 (iv (List.length x17:Int)),V 12 (iv x20)],[(0,.rows 1 (List.map cI x17))],1⟩ ?_
   refine jN ?_
   refine jR ?_
   refine jG 0 1 ⟨[V 4 (.osl 0 0 (List.length x17) 1),V 10 (.osl 0 0 (List.length x17) 1),V 11 (iv (List.length x17:Int)),V 12 (iv x20),V 16 (iv x24)],[(0,.rows 1 (List.map cI x17))],1⟩ ?_
   refine jK 1 (cnf_literal_ok x24 4096) ?_
   intro x25 h25
   refine jG 2 1 ⟨[V 4 (.osl 0 0 (List.length x17) 1),V 10 (.osl 0 0 (List.length x17) 1),V 11 (iv (List.length x17:Int)),V 12 (iv x20),V 18 (bv (!x25))],[(0,.rows 1 (List.map cI x17))],1⟩ ?_
   refine jN ?_
   refine jIf ?_ ?_
   ·refine jS ⟨[V 2 (nilS),V 3 (bv false)],[],1⟩ ?_
    refine jc_ret ?_
    refine jx_blkR ?_
    refine jx_seqR ?_
    exact jx_done rfl nofun (wkR [] (fix_of hF (k:=0) rfl) allp_nil)
   refine jc_skip ?_
   refine jx_blkN ?_
   refine jx_seqN ?_
   refine jT ⟨[V 4 (.osl 0 0 (List.length x17) 1),V 10 (.osl 0 0 (List.length x17) 1),V 11 (iv (List.length x17:Int)),V 12 (iv (w64 (x20 + 1)))],[(0,.rows 1 (List.map cI x17))],1⟩ ?_
   exact jx_next (wkR [(0,some 0)] (fix_of hF (k:=0) rfl) (pc (hL 0 (noid_map ni_I _)) allp_nil))
  refine jc_exit ?_
  refine jx_seqE ?_
  exact jx_done rfl nofun (wkR [(0,some 0)] (fix_of hF (k:=0) rfl) (pc (hL 0 (noid_map ni_I _)) allp_nil))
 rintro (_ | _)
 ·refine jx_blkR ?_
  refine jx_seqR ?_
  exact jx_retM (cnf_Clean_T a0 ([],false)) (.inr rfl) (wkR [(0,none)] (fix_of hF (k:=0) rfl) (pc hZ allp_nil))
 refine jx_blkE ?_
 refine jx_seqN ?_
 refine jR ?_
 refine jG 0 1 ⟨[V 4 (.osl 0 0 (List.length x17) 1),V 20 (.osl 0 0 (List.length x17) 1)],[(0,.rows 1 (List.map cI x17))],1⟩ ?_
 refine jr_callM 1 [(0,some 0)] [(0,some 0)] (fun r:List Int=>[(0,.rows 1 (List.map cI r))]) (fun r:List Int=>.tup []) 1 (slices_SortFuncV_ok x17) (pc (hL 0 (noid_map ni_I _)) allp_nil) (fun r=>(pc (.inr (hL 0 (noid_map ni_I _))) allp_nil)) ?_
 rintro x26 hm5
 try rw[← slices_SortFuncV_len hm5]
 refine jN ?_
 refine jR ?_
 refine jG 0 1 ⟨[V 22 (.osl 0 0 (List.length x26) 1)],[(0,.rows 1 (List.map cI x26))],1⟩ ?_
 refine jr_callM 1 [(0,some 0)] [(0,some 0)] (fun r:List Int=>[(0,.rows 1 (List.map cI r))]) (fun r:List Int=>.osl 0 0 (List.length r) 1) 1 (slices_CompactI_ok x26) (pc (hL 0 (noid_map ni_I _)) allp_nil) (fun r=>(pc (.inr (hL 0 (noid_map ni_I _))) allp_nil)) ?_
 rintro x27 hm4
 refine jG 2 1 ⟨[V 4 (.osl 0 0 (List.length x27) 1)],[(0,.rows 1 (List.map cI x27))],1⟩ ?_
 refine jN ?_
 refine jc_seq ?_
 refine jS ⟨[V 4 (.osl 0 0 (List.length x27) 1),V 25 (iv (List.length x27:Int)),V 26 (iv 0)],[(0,.rows 1 (List.map cI x27))],1⟩ ?_
 refine jc_block ?_
 refine jc_bind (fun y=>match y with | Sum.inl _=>⟨[V 2 (nilS),V 3 (bv false)],[],0⟩ | Sum.inr _=>⟨[V 4 (.osl 0 0 (List.length x27) 1)],[(0,.rows 1 (List.map cI x27))],1⟩) (fun y=>match y with | Sum.inl _=>.ret | Sum.inr _=>(.exit 2)) (jc_loop (fun x28=>⟨[V 4 (.osl 0 0 (List.length x27) 1),V 25 (iv (List.length x27:Int)),V 26 (iv x28)],[(0,.rows 1 (List.map cI x27))],1⟩) (wkR [(0,some 0)] (fix_of hF (k:=0) rfl) (pc (hL 0 (noid_map ni_I _)) allp_nil)) ?_) ?_
 ·intro x28
  unfold cnf_Clean_l2
  refine jS ⟨[V 4 (.osl 0 0 (List.length x27) 1),V 25 (iv (List.length x27:Int)),V 26 (iv x28),V 27 (bv (decide (x28 < (List.length x27:Int))))],[(0,.rows 1 (List.map cI x27))],1⟩ ?_
  refine jc_seq ?_
  refine jIf ?_ ?_
  ·refine jc_skip ?_
   refine jx_seqN ?_
   refine jc_seq ?_
   refine jc_block ?_
   refine jS ⟨[V 4 (.osl 0 0 (List.length x27) 1),V 7 (iv x28),V 25 (iv (List.length x27:Int)),V 26 (iv x28)],[(0,.rows 1 (List.map cI x27))],1⟩ ?_
   refine jR ?_
   refine jG 0 3 ⟨[V 4 (.osl 0 0 (List.length x27) 1),V 7 (iv x28),V 25 (iv (List.length x27:Int)),V 26 (iv x28),V 31 (bv (decide (x28 > 0)))],[(0,.rows 1 (List.map cI x27))],1⟩ ?_
   refine jr_bind 3 12 (fun x35=>⟨[V 4 (.osl 0 0 (List.length x27) 1),V 25 (iv (List.length x27:Int)),V 26 (iv x28),V 43 (bv x35)],[(0,.rows 1 (List.map cI x27))],1⟩) ?_ ?_
   ·refine jSp 31 ?_ ?_
    ·refine jG 0 3 ⟨[V 4 (.osl 0 0 (List.length x27) 1),V 7 (iv x28),V 25 (iv (List.length x27:Int)),V 26 (iv x28),(31,.lit true),V 32 (.osl 0 0 (List.length x27) 1),V 34 (iv (w64 (x28 - 1)))],[(0,.rows 1 (List.map cI x27))],1⟩ ?_
     refine jr_part (i:=3) (mo:=ixl x27 (w64 (x28 - 1))) rfl rfl rfl rfl (fun _ hc=>aop_ixo0 (sz:=1) (e:=3) (kk:=.i64) (id:=0) (by kernel_rfl) (by kernel_rfl) (by kernel_rfl) (by kernel_rfl) hc) (fun _=>rfl) ?_
     intro x36 h36
     refine jr_one (i:=4) (v:=iv x36) rfl rfl rfl rfl (aop_ldo (l:=x27) (c:=cI) (id:=0) (k:=(Int.toNat (w64 (x28 - 1)))) (sz:=1) (off:=0) (a:=x36) (by kernel_rfl) (by kernel_rfl) (ixl_lt h36).2.2 (by kernel_rfl)) rfl ?_
     refine jG 5 2 ⟨[V 4 (.osl 0 0 (List.length x27) 1),V 25 (iv (List.length x27:Int)),V 26 (iv x28),(31,.lit true),V 36 (iv x36),V 37 (.osl 0 0 (List.length x27) 1),V 38 (iv x28)],[(0,.rows 1 (List.map cI x27))],1⟩ ?_
     refine jr_part (i:=7) (mo:=ixl x27 x28) rfl rfl rfl rfl (fun _ hc=>aop_ixo0 (sz:=1) (e:=3) (kk:=.i64) (id:=0) (by kernel_rfl) (by kernel_rfl) (by kernel_rfl) (by kernel_rfl) hc) (fun _=>rfl) ?_
     intro x37 h37
     refine jr_one (i:=8) (v:=iv x37) rfl rfl rfl rfl (aop_ldo (l:=x27) (c:=cI) (id:=0) (k:=(Int.toNat x28)) (sz:=1) (off:=0) (a:=x37) (by kernel_rfl) (by kernel_rfl) (ixl_lt h37).2.2 (by kernel_rfl)) rfl ?_
     refine jG 9 3 ⟨[V 4 (.osl 0 0 (List.length x27) 1),V 25 (iv (List.length x27:Int)),V 26 (iv x28),V 43 (bv (x36 == (w64 (0 - x37))))],[(0,.rows 1 (List.map cI x27))],1⟩ ?_
     refine jr_nil rfl ?_
     exact jx_mid rfl (wkR [(0,some 0)] (fix_of hF (k:=0) rfl) (pc (hL 0 (noid_map ni_I _)) allp_nil))
    refine jG 0 12 ⟨[V 4 (.osl 0 0 (List.length x27) 1),V 25 (iv (List.length x27:Int)),V 26 (iv x28),V 43 (bv false)],[(0,.rows 1 (List.map cI x27))],1⟩ ?_
    refine jr_nil rfl ?_
    exact jx_mid rfl (wkR [(0,some 0)] (fix_of hF (k:=0) rfl) (pc (hL 0 (noid_map ni_I _)) allp_nil))
   intro x35
   refine jN ?_
   refine jIf ?_ ?_
   ·refine jS ⟨[V 2 (nilS),V 3 (bv false)],[],1⟩ ?_
    refine jc_ret ?_
    refine jx_blkR ?_
    refine jx_seqR ?_
    exact jx_done rfl nofun (wkR [] (fix_of hF (k:=0) rfl) allp_nil)
   refine jc_skip ?_
   refine jx_blkN ?_
   refine jx_seqN ?_
   refine jT ⟨[V 4 (.osl 0 0 (List.length x27) 1),V 25 (iv (List.length x27:Int)),V 26 (iv (w64 (x28 + 1)))],[(0,.rows 1 (List.map cI x27))],1⟩ ?_
   exact jx_next (wkR [(0,some 0)] (fix_of hF (k:=0) rfl) (pc (hL 0 (noid_map ni_I _)) allp_nil))
  refine jc_exit ?_
  refine jx_seqE ?_
  exact jx_done rfl nofun (wkR [(0,some 0)] (fix_of hF (k:=0) rfl) (pc (hL 0 (noid_map ni_I _)) allp_nil))
 rintro (_ | _)
 ·refine jx_blkR ?_
  refine jx_seqR ?_
  exact jx_retM (cnf_Clean_T a0 ([],false)) (.inr rfl) (wkR [(0,none)] (fix_of hF (k:=0) rfl) (pc hZ allp_nil))
 refine jx_blkE ?_
 refine jx_seqN ?_
 refine jS ⟨[V 2 (.osl 0 0 (List.length x27) 1),V 3 (bv true)],[(0,.rows 1 (List.map cI x27))],1⟩ ?_
 refine jc_ret ?_
 exact jx_retM (cnf_Clean_T a0 (x27,true)) (.inr rfl) (wkR [(0,some 0)] (fix_of hF (k:=0) rfl) (pc (hL 0 (noid_map ni_I _)) allp_nil)))
abbrev cnf_size_r1:List LO:=[lo 2 (.assign (.const (.int .i64 0))) 3]
abbrev cnf_size_r2:List LO:=[lm 3 0 3,lm 4 0 3,lo 5 (.unOp .neg 3 (.tmp 4)) 3,lo 6 (.call ⟨.builtin .max,#[.tmp 3,.tmp 5],#[3,3]⟩) 3,lo 2 (.assign (.tmp 6)) 3]
abbrev cnf_size_c:LC:=.seq (.reg false cnf_size_r1) (.seq (.reg false cnf_size_r2) .ret)
theorem cnf_size_k:FnOk E 43 7 [.tmp 2] cnf_size_c:=⟨⟨Go.Proofs.Tryd.f43,by kernel_rfl,by kernel_rfl,by kernel_rfl,by kernel_rfl,by kernel_rfl⟩,rfl,rfl⟩
noncomputable def cnf_size (a0:Int):Option (Int):=some (if (w64 (0 - a0)) > a0 then (w64 (0 - a0)) else a0)
theorem cnf_size_ok (a0:Int):Ct E 43 [iv a0] (cnf_size a0) (fun r:Int=>iv r):=ct_intro (N:=7) (L:=cnf_size_c) cnf_size_k rfl (Nat.le_of_ble_eq_true rfl) (by kernel_rfl) (by
 unfold cnf_size
 refine jS ⟨[V 0 (iv a0)],[],0⟩ ?_
 refine jS ⟨[V 2 (iv (if (w64 (0 - a0)) > a0 then (w64 (0 - a0)) else a0))],[],0⟩ ?_
 refine jc_ret ?_
 exact jx_retF (.inr rfl) (v:=iv (if (w64 (0 - a0)) > a0 then (w64 (0 - a0)) else a0)) (by kernel_rfl) rfl (fle_refl _))
abbrev ref24_good_r1:List LO:=[lo 4 (.assign (.const (.bool false))) 4]
abbrev ref24_good_r2:List LO:=[lm 5 0 3,lo 6 (.binOp .neq 3 (.tmp 5) (.const (.int .i64 0)) 3) 4,lm 7 6 4,lmg 8 0 3 7 true,lmg 9 1 3 7 true,lg 10 (.unOp .neg 3 (.tmp 9)) 3 7 true,lg 11 (.binOp .geq 3 (.tmp 8) (.tmp 10) 3) 4 7 true,lo 12 (.pick (.tmp 7) (.tmp 11) (.const (.bool false))) 4,lm 13 12 4,lmg 14 0 3 13 true,lmg 15 1 3 13 true,lg 16 (.binOp .leq 3 (.tmp 14) (.tmp 15) 3) 4 13 true,lo 17 (.pick (.tmp 13) (.tmp 16) (.const (.bool false))) 4,lo 4 (.assign (.tmp 17)) 4]
abbrev ref24_good_c:LC:=.seq (.reg false ref24_good_r1) (.seq (.reg false ref24_good_r2) .ret)
theorem ref24_good_k:FnOk E 34 18 [.tmp 4] ref24_good_c:=⟨⟨Go.Proofs.Tryd.f34,by kernel_rfl,by kernel_rfl,by kernel_rfl,by kernel_rfl,by kernel_rfl⟩,rfl,rfl⟩
noncomputable def ref24_good (a0:Int) (a1:Int):Option (Bool):=some (((a0 != 0) && (decide (a0≥(w64 (0 - a1))))) && (decide (a0≤a1)))
theorem ref24_good_ok (a0:Int) (a1:Int):Ct E 34 [iv a0,iv a1] (ref24_good a0 a1) (fun r:Bool=>bv r):=ct_intro (N:=18) (L:=ref24_good_c) ref24_good_k rfl (Nat.le_of_ble_eq_true rfl) (by kernel_rfl) (by
 unfold ref24_good
 refine jS ⟨[V 0 (iv a0),V 1 (iv a1)],[],0⟩ ?_
 refine jS ⟨[V 4 (bv (((a0 != 0) && (decide (a0≥(w64 (0 - a1))))) && (decide (a0≤a1))))],[],0⟩ ?_
 refine jc_ret ?_
 exact jx_retF (.inr rfl) (v:=bv (((a0 != 0) && (decide (a0≥(w64 (0 - a1))))) && (decide (a0≤a1)))) (by kernel_rfl) rfl (fle_refl _))
abbrev ref24_abs_r1:List LO:=[lo 2 (.assign (.const (.int .i64 0))) 3]
abbrev ref24_abs_r2:List LO:=[lm 3 0 3,lo 4 (.binOp .lss 3 (.tmp 3) (.const (.int .i64 0)) 3) 4]
abbrev ref24_abs_r3:List LO:=[lm 5 0 3,lo 6 (.unOp .neg 3 (.tmp 5)) 3,lo 2 (.assign (.tmp 6)) 3]
abbrev ref24_abs_r4:List LO:=[lm 7 0 3,lo 2 (.assign (.tmp 7)) 3]
abbrev ref24_abs_c:LC:=.seq (.reg false ref24_abs_r1) (.seq (.seq (.reg false ref24_abs_r2) (.cond (.tmp 4) (.seq (.reg false ref24_abs_r3) .ret) .skip)) (.seq (.reg false ref24_abs_r4) .ret))
theorem ref24_abs_k:FnOk E 35 8 [.tmp 2] ref24_abs_c:=⟨⟨Go.Proofs.Tryd.f35,by kernel_rfl,by kernel_rfl,by kernel_rfl,by kernel_rfl,by kernel_rfl⟩,rfl,rfl⟩
noncomputable def ref24_abs (a0:Int):Option (Int):=(if (decide (a0 < 0))=true then some (w64 (0 - a0)) else some a0)
theorem ref24_abs_ok (a0:Int):Ct E 35 [iv a0] (ref24_abs a0) (fun r:Int=>iv r):=ct_intro (N:=8) (L:=ref24_abs_c) ref24_abs_k rfl (Nat.le_of_ble_eq_true rfl) (by kernel_rfl) (by
 unfold ref24_abs
 refine jS ⟨[V 0 (iv a0)],[],0⟩ ?_
 refine jc_seq ?_
 refine jS ⟨[V 0 (iv a0),V 4 (bv (decide (a0 < 0)))],[],0⟩ ?_
 refine jIf ?_ ?_
 ·refine jS ⟨[V 2 (iv (w64 (0 - a0)))],[],0⟩ ?_
  refine jc_ret ?_
  refine jx_seqR ?_
  exact jx_retF (.inr rfl) (v:=iv (w64 (0 - a0))) (by kernel_rfl) rfl (fle_refl _)
 refine jc_skip ?_
 refine jx_seqN ?_
 refine jS ⟨[V 2 (iv a0)],[],0⟩ ?_
 refine jc_ret ?_
 exact jx_retF (.inr rfl) (v:=iv a0) (by kernel_rfl) rfl (fle_refl _))
abbrev ref24_Clean_r1:List LO:=[lo 2 (.assign (.const (.slice none 0 0))) 23,lo 3 (.assign (.const (.bool false))) 4]
abbrev ref24_Clean_r2:List LO:=[lo 4 (.assign (.const (.slice none 0 0))) 23]
abbrev ref24_Clean_r3:List LO:=[lo 5 (.assign (.const (.int .i64 0))) 3]
abbrev ref24_Clean_r4:List LO:=[lm 9 5 3,lm 10 0 23,lo 11 (.call ⟨.builtin .len,#[.tmp 10],#[23]⟩) 3,lo 12 (.binOp .lss 3 (.tmp 9) (.tmp 11) 3) 4]
abbrev ref24_Clean_r5:List LO:=[lm 15 0 23,lm 16 5 3,lo 17 (.indexAddr 23 (.tmp 15) (.tmp 16)) 0,lo 18 (.load 3 (.tmp 17)) 3,lo 6 (.assign (.tmp 18)) 3]
abbrev ref24_Clean_r6:List LO:=[lm 19 6 3,lo 20 (.call ⟨.value (.func 34),#[.tmp 19,.const (.int .i64 4096)],#[3,3]⟩) 4,lo 21 (.unOp .not 4 (.tmp 20)) 4]
abbrev ref24_Clean_r7:List LO:=[lo 2 (.assign (.const (.slice none 0 0))) 23,lo 3 (.assign (.const (.bool false))) 4]
abbrev ref24_Clean_r8:List LO:=[lo 7 (.assign (.const (.int .i64 0))) 3]
abbrev ref24_Clean_r9:List LO:=[lm 22 7 3,lm 23 4 23,lo 24 (.call ⟨.builtin .len,#[.tmp 23],#[23]⟩) 3,lo 25 (.binOp .lss 3 (.tmp 22) (.tmp 24) 3) 4,lm 26 25 4,lmg 27 4 23 26 true,lmg 28 7 3 26 true,lg 29 (.indexAddr 23 (.tmp 27) (.tmp 28)) 0 26 true,lg 30 (.load 3 (.tmp 29)) 3 26 true,lg 31 (.call ⟨.value (.func 35),#[.tmp 30],#[3]⟩) 3 26 true,lmg 32 6 3 26 true,lg 33 (.call ⟨.value (.func 35),#[.tmp 32],#[3]⟩) 3 26 true,lg 34 (.binOp .lss 3 (.tmp 31) (.tmp 33) 3) 4 26 true,lo 35 (.pick (.tmp 26) (.tmp 34) (.const (.bool false))) 4]
abbrev ref24_Clean_r10:List LO:=[lm 36 7 3,lo 37 (.binOp .add 3 (.tmp 36) (.const (.int .i64 1)) 3) 3,lo 7 (.assign (.tmp 37)) 3]
abbrev ref24_Clean_r11:List LO:=[lm 38 7 3,lm 39 4 23,lo 40 (.call ⟨.builtin .len,#[.tmp 39],#[23]⟩) 3,lo 41 (.binOp .lss 3 (.tmp 38) (.tmp 40) 3) 4,lm 42 41 4,lmg 43 4 23 42 true,lmg 44 7 3 42 true,lg 45 (.indexAddr 23 (.tmp 43) (.tmp 44)) 0 42 true,lg 46 (.load 3 (.tmp 45)) 3 42 true,lmg 47 6 3 42 true,lg 48 (.unOp .neg 3 (.tmp 47)) 3 42 true,lg 49 (.binOp .eql 3 (.tmp 46) (.tmp 48) 3) 4 42 true,lo 50 (.pick (.tmp 42) (.tmp 49) (.const (.bool false))) 4]
abbrev ref24_Clean_r12:List LO:=[lo 2 (.assign (.const (.slice none 0 0))) 23,lo 3 (.assign (.const (.bool false))) 4]
abbrev ref24_Clean_r13:List LO:=[lm 51 7 3,lm 52 4 23,lo 53 (.call ⟨.builtin .len,#[.tmp 52],#[23]⟩) 3,lo 54 (.binOp .lss 3 (.tmp 51) (.tmp 53) 3) 4,lm 55 54 4,lmg 56 4 23 55 true,lmg 57 7 3 55 true,lg 58 (.indexAddr 23 (.tmp 56) (.tmp 57)) 0 55 true,lg 59 (.load 3 (.tmp 58)) 3 55 true,lmg 60 6 3 55 true,lg 61 (.binOp .eql 3 (.tmp 59) (.tmp 60) 3) 4 55 true,lo 62 (.pick (.tmp 55) (.tmp 61) (.const (.bool false))) 4]
abbrev ref24_Clean_r14:List LO:=[lo 8 (.assign (.const (.slice none 0 0))) 23]
abbrev ref24_Clean_r15:List LO:=[lm 63 8 23,lm 64 4 23,lm 65 7 3,lo 66 (.slice 23 (.tmp 64) none (some (.tmp 65)) none) 23,lo 67 (.call ⟨.builtin .append,#[.tmp 63,.tmp 66],#[23,23]⟩) 23,lo 8 (.assign (.tmp 67)) 23]
abbrev ref24_Clean_r16:List LO:=[lm 68 8 23,lm 69 6 3,lo 70 (.buildSlice 23 1 #[(0,.tmp 69)]) 23,lo 71 (.call ⟨.builtin .append,#[.tmp 68,.tmp 70],#[23,23]⟩) 23,lo 8 (.assign (.tmp 71)) 23]
abbrev ref24_Clean_r17:List LO:=[lm 72 8 23,lm 73 4 23,lm 74 7 3,lo 75 (.slice 23 (.tmp 73) (some (.tmp 74)) none none) 23,lo 76 (.call ⟨.builtin .append,#[.tmp 72,.tmp 75],#[23,23]⟩) 23,lo 4 (.assign (.tmp 76)) 23]
abbrev ref24_Clean_r18:List LO:=[lm 13 5 3,lo 14 (.binOp .add 3 (.tmp 13) (.const (.int .i64 1)) 3) 3,lo 5 (.assign (.tmp 14)) 3]
abbrev ref24_Clean_r19:List LO:=[lm 77 4 23,lo 2 (.assign (.tmp 77)) 23,lo 3 (.assign (.const (.bool true))) 4]
abbrev ref24_Clean_c:LC:=.seq (.reg false ref24_Clean_r1) (.seq (.reg false ref24_Clean_r2) (.seq (.seq (.reg false ref24_Clean_r3) (.block 0 (.loop (.seq (.seq (.reg false ref24_Clean_r4) (.cond (.tmp 12) .skip (.exit 0))) (.seq (.block 1 (.seq (.reg false ref24_Clean_r5) (.seq (.seq (.reg false ref24_Clean_r6) (.cond (.tmp 21) (.seq (.reg false ref24_Clean_r7) .ret) .skip)) (.seq (.reg false ref24_Clean_r8) (.seq (.block 2 (.loop (.seq (.seq (.reg false ref24_Clean_r9) (.cond (.tmp 35) .skip (.exit 2))) (.block 3 (.reg false ref24_Clean_r10))))) (.seq (.seq (.reg false ref24_Clean_r11) (.cond (.tmp 50) (.seq (.reg false ref24_Clean_r12) .ret) .skip)) (.seq (.seq (.reg false ref24_Clean_r13) (.cond (.tmp 62) (.exit 1) .skip)) (.seq (.reg false ref24_Clean_r14) (.seq (.reg false ref24_Clean_r15) (.seq (.reg false ref24_Clean_r16) (.reg false ref24_Clean_r17))))))))))) (.reg false ref24_Clean_r18)))))) (.seq (.reg false ref24_Clean_r19) .ret)))
theorem ref24_Clean_k:FnOk E 8 78 [.tmp 2,.tmp 3] ref24_Clean_c:=⟨⟨Go.Proofs.Tryd.f8,by kernel_rfl,by kernel_rfl,by kernel_rfl,by kernel_rfl,by kernel_rfl⟩,rfl,rfl⟩
noncomputable def ref24_Clean_l1 (x39:List Int) (x90:Int):Int→Option (Step (Int) (Int)):=fun x96=>Option.bind (if (decide (x96 < (List.length x39:Int)))=true then Option.bind (ixl x39 x96) (fun x107=>Option.bind (ref24_abs x107) (fun x108=>Option.bind (ref24_abs x90) (fun x109=>some (decide (x108 < x109))))) else some false:Option (Bool)) (fun x106=>(if x106=true then some (Step.next (w64 (x96 + 1))) else some (Step.done x96)))
noncomputable def ref24_Clean_l2 (a0:List Int):(List Int × Int)→Option (Step (List Int × Int) ((Unit) ⊕ (List Int))):=fun (x39,x40)=>(if (decide (x40 < (List.length a0:Int)))=true then Option.bind (Option.bind (ixl a0 x40) (fun x90=>Option.bind (ref24_good x90 4096) (fun x91=>(if (!x91)=true then some (Sum.inl ()) else Option.bind (loopC (ref24_Clean_l1 x39 x90) 0) (fun x102=>Option.bind (if (decide (x102 < (List.length x39:Int)))=true then Option.bind (ixl x39 x102) (fun x112=>some (x112 == (w64 (0 - x90)))) else some false:Option (Bool)) (fun x111=>(if x111=true then some (Sum.inl ()) else Option.bind (if (decide (x102 < (List.length x39:Int)))=true then Option.bind (ixl x39 x102) (fun x115=>some (x115 == x90)) else some false:Option (Bool)) (fun x114=>(if x114=true then some (Sum.inr x39) else Option.bind (subl x39 0 x102) (fun x116=>Option.bind (app 8 ([]:List Int) x116) (fun x117=>Option.bind (app 8 x117 [x90]) (fun x118=>Option.bind (subl x39 x102 (List.length x39:Int)) (fun x119=>Option.bind (app 8 x118 x119) (fun x120=>some (Sum.inr x120)))))))))))))):Option ((Unit) ⊕ (List Int))) (fun y=>match y with | Sum.inl _=>some (Step.done (Sum.inl ())) | Sum.inr x89=>some (Step.next (x89,(w64 (x40 + 1))))) else some (Step.done (Sum.inr x39)))
abbrev ref24_Clean_T (a0:List Int) (r:List Int × Bool):CS:=⟨[V 2 (.osl 0 0 (List.length r.1) 1),V 3 (bv r.2)],[(0,.rows 1 (List.map cI r.1))],1⟩
noncomputable def ref24_Clean (a0:List Int):Option (List Int × Bool):=Option.bind (loopC (ref24_Clean_l2 a0) ([],0)) (fun y=>match y with | Sum.inl _=>some ([],false) | Sum.inr x66=>some (x66,true))
theorem ref24_Clean_ok (a0:List Int):CtM E 8 [.fsl 1 (List.map cI a0)] [] 0 (ref24_Clean a0) (fun r:List Int × Bool=>.tup [.osl 0 0 (List.length r.1) 1,bv r.2]) (fun r:List Int × Bool=>[(0,.rows 1 (List.map cI r.1))]) 1:=ctm_intro (N:=78) (L:=ref24_Clean_c) ref24_Clean_k rfl (Nat.le_of_ble_eq_true rfl) (fun F hF=>by
 unfold ref24_Clean
 refine jS ⟨[V 0 (.fsl 1 (List.map cI a0))],[],0⟩ ?_
 refine jS ⟨[V 0 (.fsl 1 (List.map cI a0)),V 4 (nilS)],[],0⟩ ?_
 refine jc_seq ?_
 refine jS ⟨[V 0 (.fsl 1 (List.map cI a0)),V 4 (nilS),V 5 (iv 0)],[],0⟩ ?_
 refine jc_block ?_
 refine jc_bind (fun y=>match y with | Sum.inl _=>⟨[V 2 (nilS),V 3 (bv false)],[],0⟩ | Sum.inr x66=>⟨[V 4 (.osl 0 0 (List.length x66) 1)],[(0,.rows 1 (List.map cI x66))],1⟩) (fun y=>match y with | Sum.inl _=>.ret | Sum.inr x66=>(.exit 0)) (jc_loop (fun (x39,x40)=>⟨[V 0 (.fsl 1 (List.map cI a0)),V 4 (.osl 0 0 (List.length x39) 1),V 5 (iv x40)],[(0,.rows 1 (List.map cI x39))],1⟩) (wkR [(0,none)] (fix_of hF (k:=0) rfl) (pc hZ allp_nil)) ?_) ?_
 ·rintro⟨x39,x40⟩
  unfold ref24_Clean_l2
  refine jc_seq ?_
  refine jR ?_
  refine jG 0 4 ⟨[V 0 (.fsl 1 (List.map cI a0)),V 4 (.osl 0 0 (List.length x39) 1),V 5 (iv x40),V 12 (bv (decide (x40 < (List.length (List.map cI a0):Int))))],[(0,.rows 1 (List.map cI x39))],1⟩ ?_
  simp only[List.length_map]
  refine jN ?_
  refine jIf ?_ ?_
  ·refine jc_skip ?_
   refine jx_seqN ?_
   refine jc_seq ?_
   refine jc_bind (fun y=>match y with | Sum.inl _=>⟨[V 2 (nilS),V 3 (bv false)],[],0⟩ | Sum.inr x89=>⟨[V 0 (.fsl 1 (List.map cI a0)),V 4 (.osl 0 0 (List.length x89) 1),V 5 (iv x40)],[(0,.rows 1 (List.map cI x89))],1⟩) (fun y=>match y with | Sum.inl _=>.ret | Sum.inr x89=>.normal) ?_ ?_
   ·refine jc_block ?_
    refine jR ?_
    refine jG 0 2 ⟨[V 0 (.fsl 1 (List.map cI a0)),V 4 (.osl 0 0 (List.length x39) 1),V 5 (iv x40),V 15 (.fsl 1 (List.map cI a0)),V 16 (iv x40)],[(0,.rows 1 (List.map cI x39))],1⟩ ?_
    refine jr_part (i:=2) (mo:=ixl a0 x40) rfl rfl rfl rfl (fun _ hc=>aop_ixf (c:=cI) (sz:=1) (e:=3) (kk:=.i64) (by kernel_rfl) (by kernel_rfl) (by kernel_rfl) (by kernel_rfl) hc) (fun _=>rfl) ?_
    intro x90 h90
    refine jG 3 2 ⟨[V 0 (.fsl 1 (List.map cI a0)),V 4 (.osl 0 0 (List.length x39) 1),V 5 (iv x40),V 6 (iv x90)],[(0,.rows 1 (List.map cI x39))],1⟩ ?_
    refine jN ?_
    refine jc_seq ?_
    refine jR ?_
    refine jG 0 1 ⟨[V 0 (.fsl 1 (List.map cI a0)),V 4 (.osl 0 0 (List.length x39) 1),V 5 (iv x40),V 6 (iv x90),V 19 (iv x90)],[(0,.rows 1 (List.map cI x39))],1⟩ ?_
    refine jK 1 (ref24_good_ok x90 4096) ?_
    intro x91 h91
    refine jG 2 1 ⟨[V 0 (.fsl 1 (List.map cI a0)),V 4 (.osl 0 0 (List.length x39) 1),V 5 (iv x40),V 6 (iv x90),V 21 (bv (!x91))],[(0,.rows 1 (List.map cI x39))],1⟩ ?_
    refine jN ?_
    refine jIf ?_ ?_
    ·refine jS ⟨[V 2 (nilS),V 3 (bv false)],[],1⟩ ?_
     refine jc_ret ?_
     refine jx_seqR ?_
     refine jx_blkR ?_
     exact jx_mid rfl (wkR [] (fix_of hF (k:=0) rfl) allp_nil)
    refine jc_skip ?_
    refine jx_seqN ?_
    refine jS ⟨[V 0 (.fsl 1 (List.map cI a0)),V 4 (.osl 0 0 (List.length x39) 1),V 5 (iv x40),V 6 (iv x90),V 7 (iv 0)],[(0,.rows 1 (List.map cI x39))],1⟩ ?_
    refine jc_seq ?_
    refine jc_block ?_
    refine jc_bind (fun x102=>⟨[V 0 (.fsl 1 (List.map cI a0)),V 4 (.osl 0 0 (List.length x39) 1),V 5 (iv x40),V 6 (iv x90),V 7 (iv x102)],[(0,.rows 1 (List.map cI x39))],1⟩) (fun x102=>(.exit 2)) (jc_loop (fun x96=>⟨[V 0 (.fsl 1 (List.map cI a0)),V 4 (.osl 0 0 (List.length x39) 1),V 5 (iv x40),V 6 (iv x90),V 7 (iv x96)],[(0,.rows 1 (List.map cI x39))],1⟩) (wkR [(0,some 0)] (fix_of hF (k:=0) rfl) (pc (hL 0 (noid_map ni_I _)) allp_nil)) ?_) ?_
    ·intro x96
     unfold ref24_Clean_l1
     refine jc_seq ?_
     refine jR ?_
     refine jG 0 5 ⟨[V 0 (.fsl 1 (List.map cI a0)),V 4 (.osl 0 0 (List.length x39) 1),V 5 (iv x40),V 6 (iv x90),V 7 (iv x96),V 26 (bv (decide (x96 < (List.length x39:Int))))],[(0,.rows 1 (List.map cI x39))],1⟩ ?_
     refine jr_bind 5 9 (fun x106=>⟨[V 0 (.fsl 1 (List.map cI a0)),V 4 (.osl 0 0 (List.length x39) 1),V 5 (iv x40),V 6 (iv x90),V 7 (iv x96),V 35 (bv x106)],[(0,.rows 1 (List.map cI x39))],1⟩) ?_ ?_
     ·refine jSp 26 ?_ ?_
      ·refine jG 0 2 ⟨[V 0 (.fsl 1 (List.map cI a0)),V 4 (.osl 0 0 (List.length x39) 1),V 5 (iv x40),V 6 (iv x90),V 7 (iv x96),(26,.lit true),V 27 (.osl 0 0 (List.length x39) 1),V 28 (iv x96)],[(0,.rows 1 (List.map cI x39))],1⟩ ?_
       refine jr_part (i:=2) (mo:=ixl x39 x96) rfl rfl rfl rfl (fun _ hc=>aop_ixo0 (sz:=1) (e:=3) (kk:=.i64) (id:=0) (by kernel_rfl) (by kernel_rfl) (by kernel_rfl) (by kernel_rfl) hc) (fun _=>rfl) ?_
       intro x107 h107
       refine jr_one (i:=3) (v:=iv x107) rfl rfl rfl rfl (aop_ldo (l:=x39) (c:=cI) (id:=0) (k:=(Int.toNat x96)) (sz:=1) (off:=0) (a:=x107) (by kernel_rfl) (by kernel_rfl) (ixl_lt h107).2.2 (by kernel_rfl)) rfl ?_
       refine jK 4 (ref24_abs_ok x107) ?_
       intro x108 h108
       refine jG 5 1 ⟨[V 0 (.fsl 1 (List.map cI a0)),V 4 (.osl 0 0 (List.length x39) 1),V 5 (iv x40),V 6 (iv x90),V 7 (iv x96),(26,.lit true),V 31 (iv x108),V 32 (iv x90)],[(0,.rows 1 (List.map cI x39))],1⟩ ?_
       refine jK 6 (ref24_abs_ok x90) ?_
       intro x109 h109
       refine jG 7 2 ⟨[V 0 (.fsl 1 (List.map cI a0)),V 4 (.osl 0 0 (List.length x39) 1),V 5 (iv x40),V 6 (iv x90),V 7 (iv x96),V 35 (bv (decide (x108 < x109)))],[(0,.rows 1 (List.map cI x39))],1⟩ ?_
       refine jr_nil rfl ?_
       exact jx_mid rfl (wkR [(0,some 0)] (fix_of hF (k:=0) rfl) (pc (hL 0 (noid_map ni_I _)) allp_nil))
      refine jG 0 9 ⟨[V 0 (.fsl 1 (List.map cI a0)),V 4 (.osl 0 0 (List.length x39) 1),V 5 (iv x40),V 6 (iv x90),V 7 (iv x96),V 35 (bv false)],[(0,.rows 1 (List.map cI x39))],1⟩ ?_
      refine jr_nil rfl ?_
      exact jx_mid rfl (wkR [(0,some 0)] (fix_of hF (k:=0) rfl) (pc (hL 0 (noid_map ni_I _)) allp_nil))
     intro x106
     refine jN ?_
     refine jIf ?_ ?_
     ·refine jc_skip ?_
      refine jx_seqN ?_
      refine jc_block ?_
      refine jT ⟨[V 0 (.fsl 1 (List.map cI a0)),V 4 (.osl 0 0 (List.length x39) 1),V 5 (iv x40),V 6 (iv x90),V 7 (iv (w64 (x96 + 1)))],[(0,.rows 1 (List.map cI x39))],1⟩ ?_
      refine jx_blkN ?_
      exact jx_next (wkR [(0,some 0)] (fix_of hF (k:=0) rfl) (pc (hL 0 (noid_map ni_I _)) allp_nil))
     refine jc_exit ?_
     refine jx_seqE ?_
     exact jx_done rfl nofun (wkR [(0,some 0)] (fix_of hF (k:=0) rfl) (pc (hL 0 (noid_map ni_I _)) allp_nil))
    intro x102
    refine jx_blkE ?_
    refine jx_seqN ?_
    refine jc_seq ?_
    refine jR ?_
    refine jG 0 5 ⟨[V 0 (.fsl 1 (List.map cI a0)),V 4 (.osl 0 0 (List.length x39) 1),V 5 (iv x40),V 6 (iv x90),V 7 (iv x102),V 42 (bv (decide (x102 < (List.length x39:Int))))],[(0,.rows 1 (List.map cI x39))],1⟩ ?_
    refine jr_bind 5 8 (fun x111=>⟨[V 0 (.fsl 1 (List.map cI a0)),V 4 (.osl 0 0 (List.length x39) 1),V 5 (iv x40),V 6 (iv x90),V 7 (iv x102),V 50 (bv x111)],[(0,.rows 1 (List.map cI x39))],1⟩) ?_ ?_
    ·refine jSp 42 ?_ ?_
     ·refine jG 0 2 ⟨[V 0 (.fsl 1 (List.map cI a0)),V 4 (.osl 0 0 (List.length x39) 1),V 5 (iv x40),V 6 (iv x90),V 7 (iv x102),(42,.lit true),V 43 (.osl 0 0 (List.length x39) 1),V 44 (iv x102)],[(0,.rows 1 (List.map cI x39))],1⟩ ?_
      refine jr_part (i:=2) (mo:=ixl x39 x102) rfl rfl rfl rfl (fun _ hc=>aop_ixo0 (sz:=1) (e:=3) (kk:=.i64) (id:=0) (by kernel_rfl) (by kernel_rfl) (by kernel_rfl) (by kernel_rfl) hc) (fun _=>rfl) ?_
      intro x112 h112
      refine jr_one (i:=3) (v:=iv x112) rfl rfl rfl rfl (aop_ldo (l:=x39) (c:=cI) (id:=0) (k:=(Int.toNat x102)) (sz:=1) (off:=0) (a:=x112) (by kernel_rfl) (by kernel_rfl) (ixl_lt h112).2.2 (by kernel_rfl)) rfl ?_
      refine jG 4 4 ⟨[V 0 (.fsl 1 (List.map cI a0)),V 4 (.osl 0 0 (List.length x39) 1),V 5 (iv x40),V 6 (iv x90),V 7 (iv x102),V 50 (bv (x112 == (w64 (0 - x90))))],[(0,.rows 1 (List.map cI x39))],1⟩ ?_
      refine jr_nil rfl ?_
      exact jx_mid rfl (wkR [(0,some 0)] (fix_of hF (k:=0) rfl) (pc (hL 0 (noid_map ni_I _)) allp_nil))
     refine jG 0 8 ⟨[V 0 (.fsl 1 (List.map cI a0)),V 4 (.osl 0 0 (List.length x39) 1),V 5 (iv x40),V 6 (iv x90),V 7 (iv x102),V 50 (bv false)],[(0,.rows 1 (List.map cI x39))],1⟩ ?_
     refine jr_nil rfl ?_
     exact jx_mid rfl (wkR [(0,some 0)] (fix_of hF (k:=0) rfl) (pc (hL 0 (noid_map ni_I _)) allp_nil))
    intro x111
    refine jN ?_
    refine jIf ?_ ?_
    ·refine jS ⟨[V 2 (nilS),V 3 (bv false)],[],1⟩ ?_
     refine jc_ret ?_
     refine jx_seqR ?_
     refine jx_blkR ?_
     exact jx_mid rfl (wkR [] (fix_of hF (k:=0) rfl) allp_nil)
    refine jc_skip ?_
    refine jx_seqN ?_
    refine jc_seq ?_
    refine jR ?_
    refine jG 0 5 ⟨[V 0 (.fsl 1 (List.map cI a0)),V 4 (.osl 0 0 (List.length x39) 1),V 5 (iv x40),V 6 (iv x90),V 7 (iv x102),V 55 (bv (decide (x102 < (List.length x39:Int))))],[(0,.rows 1 (List.map cI x39))],1⟩ ?_
    refine jr_bind 5 7 (fun x114=>⟨[V 0 (.fsl 1 (List.map cI a0)),V 4 (.osl 0 0 (List.length x39) 1),V 5 (iv x40),V 6 (iv x90),V 7 (iv x102),V 62 (bv x114)],[(0,.rows 1 (List.map cI x39))],1⟩) ?_ ?_
    ·refine jSp 55 ?_ ?_
     ·refine jG 0 2 ⟨[V 0 (.fsl 1 (List.map cI a0)),V 4 (.osl 0 0 (List.length x39) 1),V 5 (iv x40),V 6 (iv x90),V 7 (iv x102),(55,.lit true),V 56 (.osl 0 0 (List.length x39) 1),V 57 (iv x102)],[(0,.rows 1 (List.map cI x39))],1⟩ ?_
      refine jr_part (i:=2) (mo:=ixl x39 x102) rfl rfl rfl rfl (fun _ hc=>aop_ixo0 (sz:=1) (e:=3) (kk:=.i64) (id:=0) (by kernel_rfl) (by kernel_rfl) (by kernel_rfl) (by kernel_rfl) hc) (fun _=>rfl) ?_
      intro x115 h115
      refine jr_one (i:=3) (v:=iv x115) rfl rfl rfl rfl (aop_ldo (l:=x39) (c:=cI) (id:=0) (k:=(Int.toNat x102)) (sz:=1) (off:=0) (a:=x115) (by kernel_rfl) (by kernel_rfl) (ixl_lt h115).2.2 (by kernel_rfl)) rfl ?_
      refine jG 4 3 ⟨[V 0 (.fsl 1 (List.map cI a0)),V 4 (.osl 0 0 (List.length x39) 1),V 5 (iv x40),V 6 (iv x90),V 7 (iv x102),V 62 (bv (x115 == x90))],[(0,.rows 1 (List.map cI x39))],1⟩ ?_
      refine jr_nil rfl ?_
      exact jx_mid rfl (wkR [(0,some 0)] (fix_of hF (k:=0) rfl) (pc (hL 0 (noid_map ni_I _)) allp_nil))
     refine jG 0 7 ⟨[V 0 (.fsl 1 (List.map cI a0)),V 4 (.osl 0 0 (List.length x39) 1),V 5 (iv x40),V 6 (iv x90),V 7 (iv x102),V 62 (bv false)],[(0,.rows 1 (List.map cI x39))],1⟩ ?_
     refine jr_nil rfl ?_
     exact jx_mid rfl (wkR [(0,some 0)] (fix_of hF (k:=0) rfl) (pc (hL 0 (noid_map ni_I _)) allp_nil))
    intro x114
    refine jN ?_
    refine jIf ?_ ?_
    ·refine jc_exit ?_
     refine jx_seqE ?_
     refine jx_blkE ?_
     exact jx_mid rfl (wkR [(0,some 0)] (fix_of hF (k:=0) rfl) (pc (hL 0 (noid_map ni_I _)) allp_nil))
    refine jc_skip ?_
    refine jx_seqN ?_
    refine jS ⟨[V 0 (.fsl 1 (List.map cI a0)),V 4 (.osl 0 0 (List.length x39) 1),V 5 (iv x40),V 6 (iv x90),V 7 (iv x102),V 8 (nilS)],[(0,.rows 1 (List.map cI x39))],1⟩ ?_
    refine jR ?_
    refine jG 0 3 ⟨[V 0 (.fsl 1 (List.map cI a0)),V 4 (.osl 0 0 (List.length x39) 1),V 5 (iv x40),V 6 (iv x90),V 7 (iv x102),V 63 (nilS),V 64 (.osl 0 0 (List.length x39) 1),V 65 (iv x102)],[(0,.rows 1 (List.map cI x39))],1⟩ ?_
    refine jr_part (i:=3) (mo:=subl x39 0 x102) rfl rfl rfl rfl (fun _ hc=>aop_subo (l:=x39) (e:=3) (id:=0) (off:=0) (sz:=1) (by kernel_rfl) (by kernel_rfl) (by kernel_rfl) (by kernel_rfl) (by kernel_rfl) hc) (fun _=>rfl) ?_
    intro x116 h116
    refine jr_two (i:=4) (C:=x116=[]) (st1:=fun x117=>⟨[V 0 (.fsl 1 (List.map cI a0)),V 4 (.osl 0 0 (List.length x39) 1),V 5 (iv x40),V 6 (iv x90),V 7 (iv x102),V 67 (.osl 1 0 (List.length x117) 1)],[(0,.rows 1 (List.map cI x39)),(1,.rows 1 (List.map cI x117))],2⟩) rfl rfl rfl rfl (fun q _ hc=>aop_app (u:=nilS) (w:=.osl 0 (0 + Int.toNat 0) (List.length x116) 1) (e:=3) (td:=.slice 3) (by kernel_rfl) (by kernel_rfl) (by kernel_rfl) (by kernel_rfl) (.inl ⟨_,rfl⟩) (appendOf_nil (c:=cI) (sz:=1) (b:=8) (by kernel_rfl) (.inl rfl) (rows_os (l:=x39) (by kernel_rfl) h116) q hc)) (fun q _ hc=>aop_app (u:=nilS) (w:=.osl 0 (0 + Int.toNat 0) (List.length x116) 1) (e:=3) (td:=.slice 3) (by kernel_rfl) (by kernel_rfl) (by kernel_rfl) (by kernel_rfl) (.inl ⟨_,rfl⟩) (appendOf_same (c:=cI) (sz:=1) (b:=8) (m:=x116) (by kernel_rfl) (.inl rfl) (rows_os (l:=x39) (by kernel_rfl) h116) q)) (fun _=>rfl) (fun _=>rfl) (fun _=>wkR [(0,some 0),(1,some 1)] (fix_of hF (k:=0) rfl) (pc (hL 0 (noid_map ni_I _)) (pc (hL 1 (noid_map ni_I _)) allp_nil))) (fun q _ hc=>by cases app_same q hc; exact wkR [(0,some 0),(1,none)] (fix_of hF (k:=0) rfl) (pc (hL 0 (noid_map ni_I _)) (pc hZ allp_nil))) ?_
    intro x117 h117
    refine jG 5 1 ⟨[V 0 (.fsl 1 (List.map cI a0)),V 4 (.osl 0 0 (List.length x39) 1),V 5 (iv x40),V 6 (iv x90),V 7 (iv x102),V 8 (.osl 1 0 (List.length x117) 1)],[(0,.rows 1 (List.map cI x39)),(1,.rows 1 (List.map cI x117))],2⟩ ?_
    refine jN ?_
    refine jR ?_
    refine jG 0 3 ⟨[V 0 (.fsl 1 (List.map cI a0)),V 4 (.osl 0 0 (List.length x39) 1),V 5 (iv x40),V 7 (iv x102),V 68 (.osl 1 0 (List.length x117) 1),V 70 (.osl 2 0 (List.length [x90]) 1)],[(0,.rows 1 (List.map cI x39)),(1,.rows 1 (List.map cI x117)),(2,.rows 1 (List.map cI [x90]))],3⟩ ?_
    refine jr_part (i:=3) (mo:=app 8 x117 [x90]) rfl rfl rfl rfl (fun _ hc=>aop_app (u:=.osl 1 0 (List.length x117) 1) (w:=.osl 2 0 (List.length [x90]) 1) (e:=3) (td:=.slice 3) (by kernel_rfl) (by kernel_rfl) (by kernel_rfl) (by kernel_rfl) (.inl ⟨_,rfl⟩) (appendOf_own (c:=cI) (sz:=1) (b:=8) (id:=1) (by kernel_rfl) (by kernel_rfl) (rows_own (by kernel_rfl)) (List.cons_ne_nil _ _) hc)) (fun _=>rfl) ?_
    intro x118 h118
    refine jG 4 1 ⟨[V 0 (.fsl 1 (List.map cI a0)),V 4 (.osl 0 0 (List.length x39) 1),V 5 (iv x40),V 7 (iv x102),V 8 (.osl 3 0 (List.length x118) 1)],[(0,.rows 1 (List.map cI x39)),(3,.rows 1 (List.map cI x118))],4⟩ ?_
    refine jN ?_
    refine jc_reg ?_
    refine jG 0 3 ⟨[V 0 (.fsl 1 (List.map cI a0)),V 5 (iv x40),V 72 (.osl 3 0 (List.length x118) 1),V 73 (.osl 0 0 (List.length x39) 1),V 74 (iv x102)],[(0,.rows 1 (List.map cI x39)),(3,.rows 1 (List.map cI x118))],4⟩ ?_
    refine jr_part (i:=3) (mo:=subl x39 x102 (List.length x39:Int)) rfl rfl rfl rfl (fun _ hc=>aop_subo (l:=x39) (e:=3) (id:=0) (off:=0) (sz:=1) (by kernel_rfl) (by kernel_rfl) (by kernel_rfl) (by kernel_rfl) (by kernel_rfl) hc) (fun _=>rfl) ?_
    intro x119 h119
    refine jr_two (i:=4) (C:=x119=[]) (st1:=fun x120=>⟨[V 0 (.fsl 1 (List.map cI a0)),V 5 (iv x40),V 76 (.osl 4 0 (List.length x120) 1)],[(4,.rows 1 (List.map cI x120))],5⟩) rfl rfl rfl rfl (fun q _ hc=>aop_app (u:=.osl 3 0 (List.length x118) 1) (w:=.osl 0 (0 + Int.toNat x102) (List.length x119) 1) (e:=3) (td:=.slice 3) (by kernel_rfl) (by kernel_rfl) (by kernel_rfl) (by kernel_rfl) (.inl ⟨_,rfl⟩) (appendOf_own (c:=cI) (sz:=1) (b:=8) (id:=3) (by kernel_rfl) (by kernel_rfl) (rows_os (l:=x39) (by kernel_rfl) h119) q hc)) (fun q _ hc=>aop_app (u:=.osl 3 0 (List.length x118) 1) (w:=.osl 0 (0 + Int.toNat x102) (List.length x119) 1) (e:=3) (td:=.slice 3) (by kernel_rfl) (by kernel_rfl) (by kernel_rfl) (by kernel_rfl) (.inl ⟨_,rfl⟩) (appendOf_same (c:=cI) (sz:=1) (b:=8) (m:=x119) (by kernel_rfl) (.inr (.inr ⟨_,_,_,_,rfl⟩)) (rows_os (l:=x39) (by kernel_rfl) h119) q)) (fun _=>rfl) (fun _=>rfl) (fun _=>wkR [(4,some 4)] (fix_of hF (k:=0) rfl) (pc (hL 4 (noid_map ni_I _)) allp_nil)) (fun q _ hc=>by cases app_same q hc; exact wkR [(4,some 3)] (fix_of hF (k:=0) rfl) (pc (hL 3 (noid_map ni_I _)) allp_nil)) ?_
    intro x120 h120
    refine jG 5 1 ⟨[V 0 (.fsl 1 (List.map cI a0)),V 4 (.osl 4 0 (List.length x120) 1),V 5 (iv x40)],[(4,.rows 1 (List.map cI x120))],5⟩ ?_
    refine jr_nil rfl ?_
    refine jx_blkN ?_
    exact jx_mid rfl (wkR [(0,some 4)] (fix_of hF (k:=0) rfl) (pc (hL 4 (noid_map ni_I _)) allp_nil))
   rintro (_ | x89)
   ·refine jx_seqR ?_
    exact jx_done rfl nofun (wkR [] (fix_of hF (k:=0) rfl) allp_nil)
   refine jx_seqN ?_
   refine jT ⟨[V 0 (.fsl 1 (List.map cI a0)),V 4 (.osl 0 0 (List.length x89) 1),V 5 (iv (w64 (x40 + 1)))],[(0,.rows 1 (List.map cI x89))],1⟩ ?_
   exact jx_next (wkR [(0,some 0)] (fix_of hF (k:=0) rfl) (pc (hL 0 (noid_map ni_I _)) allp_nil))
  refine jc_exit ?_
  refine jx_seqE ?_
  exact jx_done rfl nofun (wkR [(0,some 0)] (fix_of hF (k:=0) rfl) (pc (hL 0 (noid_map ni_I _)) allp_nil))
 rintro (_ | x66)
 ·refine jx_blkR ?_
  refine jx_seqR ?_
  exact jx_retM (ref24_Clean_T a0 ([],false)) (.inr rfl) (wkR [(0,none)] (fix_of hF (k:=0) rfl) (pc hZ allp_nil))
 refine jx_blkE ?_
 refine jx_seqN ?_
 refine jS ⟨[V 2 (.osl 0 0 (List.length x66) 1),V 3 (bv true)],[(0,.rows 1 (List.map cI x66))],1⟩ ?_
 refine jc_ret ?_
 exact jx_retM (ref24_Clean_T a0 (x66,true)) (.inr rfl) (wkR [(0,some 0)] (fix_of hF (k:=0) rfl) (pc (hL 0 (noid_map ni_I _)) allp_nil)))
abbrev cnf_clean_r1:List LO:=[lo 4 (.assign (.const (.bool false))) 4]
abbrev cnf_clean_r2:List LO:=[lm 7 0 23,lo 8 (.call ⟨.builtin .len,#[.tmp 7],#[23]⟩) 3,lo 9 (.move (.const (.int .i64 0))) 3]
abbrev cnf_clean_r3:List LO:=[lo 10 (.binOp .lss 3 (.tmp 9) (.tmp 8) 3) 0]
abbrev cnf_clean_r4:List LO:=[lm 11 9 3,lo 12 (.indexAddr 23 (.tmp 7) (.tmp 9)) 0,lo 13 (.load 3 (.tmp 12)) 3,lo 5 (.assign (.tmp 11)) 3,lo 6 (.assign (.tmp 13)) 3]
abbrev cnf_clean_r5:List LO:=[lm 14 6 3,lm 15 1 3,lo 16 (.call ⟨.value (.func 30),#[.tmp 14,.tmp 15],#[3,3]⟩) 4,lo 17 (.unOp .not 4 (.tmp 16)) 4,lm 18 17 4,lmg 19 5 3 18 false,lg 20 (.binOp .gtr 3 (.tmp 19) (.const (.int .i64 0)) 3) 4 18 false,lmg 21 20 4 18 false,lmg 22 0 23 21 true,lmg 23 5 3 21 true,lg 24 (.binOp .sub 3 (.tmp 23) (.const (.int .i64 1)) 3) 3 21 true,lg 25 (.indexAddr 23 (.tmp 22) (.tmp 24)) 0 21 true,lg 26 (.load 3 (.tmp 25)) 3 21 true,lg 27 (.call ⟨.value (.func 43),#[.tmp 26],#[3]⟩) 3 21 true,lmg 28 6 3 21 true,lg 29 (.call ⟨.value (.func 43),#[.tmp 28],#[3]⟩) 3 21 true,lg 30 (.binOp .geq 3 (.tmp 27) (.tmp 29) 3) 4 21 true,lg 31 (.pick (.tmp 21) (.tmp 30) (.const (.bool false))) 4 18 false,lo 32 (.pick (.tmp 18) (.const (.bool true)) (.tmp 31)) 4]
abbrev cnf_clean_r6:List LO:=[lo 4 (.assign (.const (.bool false))) 4]
abbrev cnf_clean_r7:List LO:=[lo 33 (.binOp .add 3 (.tmp 9) (.const (.int .i64 1)) 3) 3,lm 9 33 3]
abbrev cnf_clean_r8:List LO:=[lo 4 (.assign (.const (.bool true))) 4]
abbrev cnf_clean_c:LC:=.seq (.reg false cnf_clean_r1) (.seq (.seq (.reg false cnf_clean_r2) (.block 0 (.loop (.seq (.reg false cnf_clean_r3) (.seq (.cond (.tmp 10) .skip (.exit 0)) (.seq (.block 1 (.seq (.reg false cnf_clean_r4) (.seq (.reg false cnf_clean_r5) (.cond (.tmp 32) (.seq (.reg false cnf_clean_r6) .ret) .skip)))) (.reg false cnf_clean_r7))))))) (.seq (.reg false cnf_clean_r8) .ret))
theorem cnf_clean_k:FnOk E 36 34 [.tmp 4] cnf_clean_c:=⟨⟨Go.Proofs.Tryd.f36,by kernel_rfl,by kernel_rfl,by kernel_rfl,by kernel_rfl,by kernel_rfl⟩,rfl,rfl⟩
noncomputable def cnf_clean_l1 (a0:(List Int)) (a1:Int):Int→Option (Step (Int) ((Unit) ⊕ (Unit))):=fun x4=>(if (decide (x4 < (List.length a0:Int)))=true then Option.bind (ixl a0 x4) (fun x13=>Option.bind (cnf_literal x13 a1) (fun x14=>Option.bind (if (!x14)=true then some true else Option.bind (if (decide (x4 > 0))=true then Option.bind (ixl a0 (w64 (x4 - 1))) (fun x24=>Option.bind (cnf_size x24) (fun x25=>Option.bind (cnf_size x13) (fun x26=>some (decide (x25≥x26))))) else some false:Option (Bool)) (fun x23=>some (false || x23)):Option (Bool)) (fun x19=>(if x19=true then some (Step.done (Sum.inl ())) else some (Step.next (w64 (x4 + 1))))))) else some (Step.done (Sum.inr ())))
noncomputable def cnf_clean (a0:(List Int)) (a1:Int):Option (Bool):=Option.bind (loopC (cnf_clean_l1 a0 a1) 0) (fun y=>match y with | Sum.inl _=>some false | Sum.inr _=>some true)
theorem cnf_clean_ok (a0:(List Int)) (a1:Int):Ct E 36 [.fsl 1 (List.map cI a0),iv a1] (cnf_clean a0 a1) (fun r:Bool=>bv r):=ct_intro (N:=34) (L:=cnf_clean_c) cnf_clean_k rfl (Nat.le_of_ble_eq_true rfl) (by kernel_rfl) (by
 unfold cnf_clean
 refine jS ⟨[V 0 (.fsl 1 (List.map cI a0)),V 1 (iv a1)],[],0⟩ ?_
 refine jc_seq ?_
 refine jR ?_
 refine jG 0 3 ⟨[V 0 (.fsl 1 (List.map cI a0)),V 1 (iv a1),V 7 (.fsl 1 (List.map cI a0)),V 8 (iv (List.length (List.map cI a0):Int)),V 9 (iv 0)],[],0⟩ ?_
 simp only[List.length_map]
 refine jN ?_
 refine jc_block ?_
 refine jc_bind (fun y=>match y with | Sum.inl _=>⟨[V 4 (bv false)],[],0⟩ | Sum.inr _=>⟨[],[],0⟩) (fun y=>match y with | Sum.inl _=>.ret | Sum.inr _=>(.exit 0)) (jc_loop (fun x4=>⟨[V 0 (.fsl 1 (List.map cI a0)),V 1 (iv a1),V 7 (.fsl 1 (List.map cI a0)),V 8 (iv (List.length a0:Int)),V 9 (iv x4)],[],0⟩) (wkR [] (fix_nil _) allp_nil) ?_) ?_
 ·intro x4
  unfold cnf_clean_l1
  refine jS ⟨[V 0 (.fsl 1 (List.map cI a0)),V 1 (iv a1),V 7 (.fsl 1 (List.map cI a0)),V 8 (iv (List.length a0:Int)),V 9 (iv x4),V 10 (bv (decide (x4 < (List.length a0:Int))))],[],0⟩ ?_
  refine jc_seq ?_
  refine jIf ?_ ?_
  ·refine jc_skip ?_
   refine jx_seqN ?_
   refine jc_seq ?_
   refine jc_block ?_
   refine jR ?_
   refine jG 0 1 ⟨[V 0 (.fsl 1 (List.map cI a0)),V 1 (iv a1),V 7 (.fsl 1 (List.map cI a0)),V 8 (iv (List.length a0:Int)),V 9 (iv x4),V 11 (iv x4)],[],0⟩ ?_
   refine jr_part (i:=1) (mo:=ixl a0 x4) rfl rfl rfl rfl (fun _ hc=>aop_ixf (c:=cI) (sz:=1) (e:=3) (kk:=.i64) (by kernel_rfl) (by kernel_rfl) (by kernel_rfl) (by kernel_rfl) hc) (fun _=>rfl) ?_
   intro x13 h13
   refine jG 2 3 ⟨[V 0 (.fsl 1 (List.map cI a0)),V 1 (iv a1),V 5 (iv x4),V 6 (iv x13),V 7 (.fsl 1 (List.map cI a0)),V 8 (iv (List.length a0:Int)),V 9 (iv x4)],[],0⟩ ?_
   refine jN ?_
   refine jR ?_
   refine jG 0 2 ⟨[V 0 (.fsl 1 (List.map cI a0)),V 1 (iv a1),V 5 (iv x4),V 6 (iv x13),V 7 (.fsl 1 (List.map cI a0)),V 8 (iv (List.length a0:Int)),V 9 (iv x4),V 14 (iv x13),V 15 (iv a1)],[],0⟩ ?_
   refine jK 2 (cnf_literal_ok x13 a1) ?_
   intro x14 h14
   refine jG 3 2 ⟨[V 0 (.fsl 1 (List.map cI a0)),V 1 (iv a1),V 5 (iv x4),V 6 (iv x13),V 7 (.fsl 1 (List.map cI a0)),V 8 (iv (List.length a0:Int)),V 9 (iv x4),V 18 (bv (!x14))],[],0⟩ ?_
   refine jr_bind 5 14 (fun x19=>⟨[V 0 (.fsl 1 (List.map cI a0)),V 1 (iv a1),V 7 (.fsl 1 (List.map cI a0)),V 8 (iv (List.length a0:Int)),V 9 (iv x4),V 32 (bv x19)],[],0⟩) ?_ ?_
   ·refine jSp 18 ?_ ?_
    ·refine jG 0 14 ⟨[V 0 (.fsl 1 (List.map cI a0)),V 1 (iv a1),V 7 (.fsl 1 (List.map cI a0)),V 8 (iv (List.length a0:Int)),V 9 (iv x4),V 32 (bv true)],[],0⟩ ?_
     refine jr_nil rfl ?_
     exact jx_mid rfl (wkR [] (fix_nil _) allp_nil)
    refine jG 0 3 ⟨[V 0 (.fsl 1 (List.map cI a0)),V 1 (iv a1),V 5 (iv x4),V 6 (iv x13),V 7 (.fsl 1 (List.map cI a0)),V 8 (iv (List.length a0:Int)),V 9 (iv x4),(18,.lit false),V 21 (bv (decide (x4 > 0)))],[],0⟩ ?_
    refine jr_bind 3 10 (fun x23=>⟨[V 0 (.fsl 1 (List.map cI a0)),V 1 (iv a1),V 7 (.fsl 1 (List.map cI a0)),V 8 (iv (List.length a0:Int)),V 9 (iv x4),V 18 (bv false),V 31 (bv x23)],[],0⟩) ?_ ?_
    ·refine jSp 21 ?_ ?_
     ·refine jG 0 3 ⟨[V 0 (.fsl 1 (List.map cI a0)),V 1 (iv a1),V 6 (iv x13),V 7 (.fsl 1 (List.map cI a0)),V 8 (iv (List.length a0:Int)),V 9 (iv x4),(18,.lit false),(21,.lit true),V 22 (.fsl 1 (List.map cI a0)),V 24 (iv (w64 (x4 - 1)))],[],0⟩ ?_
      refine jr_part (i:=3) (mo:=ixl a0 (w64 (x4 - 1))) rfl rfl rfl rfl (fun _ hc=>aop_ixf (c:=cI) (sz:=1) (e:=3) (kk:=.i64) (by kernel_rfl) (by kernel_rfl) (by kernel_rfl) (by kernel_rfl) hc) (fun _=>rfl) ?_
      intro x24 h24
      refine jG 4 1 ⟨[V 0 (.fsl 1 (List.map cI a0)),V 1 (iv a1),V 6 (iv x13),V 7 (.fsl 1 (List.map cI a0)),V 8 (iv (List.length a0:Int)),V 9 (iv x4),(18,.lit false),(21,.lit true),V 26 (iv x24)],[],0⟩ ?_
      refine jK 5 (cnf_size_ok x24) ?_
      intro x25 h25
      refine jG 6 1 ⟨[V 0 (.fsl 1 (List.map cI a0)),V 1 (iv a1),V 7 (.fsl 1 (List.map cI a0)),V 8 (iv (List.length a0:Int)),V 9 (iv x4),(18,.lit false),(21,.lit true),V 27 (iv x25),V 28 (iv x13)],[],0⟩ ?_
      refine jK 7 (cnf_size_ok x13) ?_
      intro x26 h26
      refine jG 8 2 ⟨[V 0 (.fsl 1 (List.map cI a0)),V 1 (iv a1),V 7 (.fsl 1 (List.map cI a0)),V 8 (iv (List.length a0:Int)),V 9 (iv x4),(18,.lit false),V 31 (bv (decide (x25≥x26)))],[],0⟩ ?_
      refine jr_nil rfl ?_
      exact jx_mid rfl (wkR [] (fix_nil _) allp_nil)
     refine jG 0 10 ⟨[V 0 (.fsl 1 (List.map cI a0)),V 1 (iv a1),V 7 (.fsl 1 (List.map cI a0)),V 8 (iv (List.length a0:Int)),V 9 (iv x4),(18,.lit false),V 31 (bv false)],[],0⟩ ?_
     refine jr_nil rfl ?_
     exact jx_mid rfl (wkR [] (fix_nil _) allp_nil)
    intro x23
    refine jG 13 1 ⟨[V 0 (.fsl 1 (List.map cI a0)),V 1 (iv a1),V 7 (.fsl 1 (List.map cI a0)),V 8 (iv (List.length a0:Int)),V 9 (iv x4),V 32 (bv (false || x23))],[],0⟩ ?_
    refine jr_nil rfl ?_
    exact jx_mid rfl (wkR [] (fix_nil _) allp_nil)
   intro x19
   refine jN ?_
   refine jIf ?_ ?_
   ·refine jS ⟨[V 4 (bv false)],[],0⟩ ?_
    refine jc_ret ?_
    refine jx_blkR ?_
    refine jx_seqR ?_
    exact jx_done rfl nofun (wkR [] (fix_nil _) allp_nil)
   refine jc_skip ?_
   refine jx_blkN ?_
   refine jx_seqN ?_
   refine jT ⟨[V 0 (.fsl 1 (List.map cI a0)),V 1 (iv a1),V 7 (.fsl 1 (List.map cI a0)),V 8 (iv (List.length a0:Int)),V 9 (iv (w64 (x4 + 1)))],[],0⟩ ?_
   exact jx_next (wkR [] (fix_nil _) allp_nil)
  refine jc_exit ?_
  refine jx_seqE ?_
  exact jx_done rfl nofun (wkR [] (fix_nil _) allp_nil)
 rintro (_ | _)
 ·refine jx_blkR ?_
  refine jx_seqR ?_
  exact jx_retF (.inr rfl) (v:=bv false) (by kernel_rfl) rfl (fle_refl _)
 refine jx_blkE ?_
 refine jx_seqN ?_
 refine jS ⟨[V 4 (bv true)],[],0⟩ ?_
 refine jc_ret ?_
 exact jx_retF (.inr rfl) (v:=bv true) (by kernel_rfl) rfl (fle_refl _))
abbrev cnf_Fit_r1:List LO:=[lo 1 (.box 25 (.tmp 0)) 0,lo 2 (.assign (.const (.bool false))) 4]
abbrev cnf_Fit_r2:List LO:=[lo 8 (.fieldAddr 25 (.tmp 1) 0) 0,lo 9 (.load 3 (.tmp 8)) 3,lo 10 (.binOp .lss 3 (.tmp 9) (.const (.int .i64 0)) 3) 4,lm 11 10 4,lg 12 (.fieldAddr 25 (.tmp 1) 0) 0 11 false,lg 13 (.load 3 (.tmp 12)) 3 11 false,lg 14 (.binOp .gtr 3 (.tmp 13) (.const (.int .i64 4096)) 3) 4 11 false,lo 15 (.pick (.tmp 11) (.const (.bool true)) (.tmp 14)) 4,lm 16 15 4,lg 17 (.fieldAddr 25 (.tmp 1) 1) 0 16 false,lg 18 (.load 22 (.tmp 17)) 22 16 false,lg 19 (.call ⟨.builtin .len,#[.tmp 18],#[22]⟩) 3 16 false,lg 20 (.binOp .gtr 3 (.tmp 19) (.const (.int .i64 65536)) 3) 4 16 false,lo 21 (.pick (.tmp 16) (.const (.bool true)) (.tmp 20)) 4]
abbrev cnf_Fit_r3:List LO:=[lo 2 (.assign (.const (.bool false))) 4]
abbrev cnf_Fit_r4:List LO:=[lo 22 (.fieldAddr 25 (.tmp 1) 1) 0,lo 23 (.load 22 (.tmp 22)) 22,lo 24 (.call ⟨.builtin .len,#[.tmp 23],#[22]⟩) 3,lo 25 (.move (.const (.int .i64 0))) 3]
abbrev cnf_Fit_r5:List LO:=[lo 26 (.binOp .lss 3 (.tmp 25) (.tmp 24) 3) 0]
abbrev cnf_Fit_r6:List LO:=[lo 27 (.indexAddr 22 (.tmp 23) (.tmp 25)) 0,lo 28 (.load 55 (.tmp 27)) 55,lo 4 (.alloc 55) 0,ln (.store 55 (.tmp 4) (.tmp 28)) 0]
abbrev cnf_Fit_r7:List LO:=[lo 29 (.fieldAddr 55 (.tmp 4) 0) 0,lo 30 (.load 23 (.tmp 29)) 23,lo 31 (.fieldAddr 25 (.tmp 1) 0) 0,lo 32 (.load 3 (.tmp 31)) 3,lo 33 (.call ⟨.value (.func 36),#[.tmp 30,.tmp 32],#[23,3]⟩) 4,lo 34 (.unOp .not 4 (.tmp 33)) 4]
abbrev cnf_Fit_r8:List LO:=[lo 2 (.assign (.const (.bool false))) 4]
abbrev cnf_Fit_r9:List LO:=[lo 35 (.binOp .add 3 (.tmp 25) (.const (.int .i64 1)) 3) 3,lm 25 35 3]
abbrev cnf_Fit_r10:List LO:=[lo 36 (.fieldAddr 25 (.tmp 1) 0) 0,lo 37 (.load 3 (.tmp 36)) 3,lo 38 (.binOp .mul 3 (.const (.int .i64 2)) (.tmp 37) 3) 3,lo 39 (.binOp .add 3 (.tmp 38) (.const (.int .i64 1)) 3) 3,lo 40 (.makeSlice 23 (.tmp 39) (.tmp 39)) 23,lo 5 (.assign (.tmp 40)) 23]
abbrev cnf_Fit_r11:List LO:=[lo 41 (.fieldAddr 25 (.tmp 1) 2) 0,lo 42 (.load 23 (.tmp 41)) 23,lo 43 (.call ⟨.builtin .len,#[.tmp 42],#[23]⟩) 3,lo 44 (.move (.const (.int .i64 0))) 3]
abbrev cnf_Fit_r12:List LO:=[lo 45 (.binOp .lss 3 (.tmp 44) (.tmp 43) 3) 0]
abbrev cnf_Fit_r13:List LO:=[lo 46 (.indexAddr 23 (.tmp 42) (.tmp 44)) 0,lo 47 (.load 3 (.tmp 46)) 3,lo 7 (.assign (.tmp 47)) 3]
abbrev cnf_Fit_r14:List LO:=[lm 48 7 3,lo 49 (.fieldAddr 25 (.tmp 1) 0) 0,lo 50 (.load 3 (.tmp 49)) 3,lo 51 (.call ⟨.value (.func 30),#[.tmp 48,.tmp 50],#[3,3]⟩) 4,lo 52 (.unOp .not 4 (.tmp 51)) 4,lm 53 52 4,lmg 54 5 23 53 false,lmg 55 7 3 53 false,lg 56 (.fieldAddr 25 (.tmp 1) 0) 0 53 false,lg 57 (.load 3 (.tmp 56)) 3 53 false,lg 58 (.binOp .add 3 (.tmp 55) (.tmp 57) 3) 3 53 false,lg 59 (.indexAddr 23 (.tmp 54) (.tmp 58)) 0 53 false,lg 60 (.load 3 (.tmp 59)) 3 53 false,lg 61 (.binOp .gtr 3 (.tmp 60) (.const (.int .i64 0)) 3) 4 53 false,lo 62 (.pick (.tmp 53) (.const (.bool true)) (.tmp 61)) 4]
abbrev cnf_Fit_r15:List LO:=[lo 2 (.assign (.const (.bool false))) 4]
abbrev cnf_Fit_r16:List LO:=[lm 63 5 23,lm 64 7 3,lo 65 (.fieldAddr 25 (.tmp 1) 0) 0,lo 66 (.load 3 (.tmp 65)) 3,lo 67 (.binOp .add 3 (.tmp 64) (.tmp 66) 3) 3,lo 68 (.indexAddr 23 (.tmp 63) (.tmp 67)) 0,lo 69 (.load 3 (.tmp 68)) 3,lo 70 (.binOp .add 3 (.tmp 69) (.const (.int .i64 1)) 3) 3,lo 71 (.indexAddr 23 (.tmp 63) (.tmp 67)) 0,ln (.store 3 (.tmp 71) (.tmp 70)) 0]
abbrev cnf_Fit_r17:List LO:=[lo 72 (.binOp .add 3 (.tmp 44) (.const (.int .i64 1)) 3) 3,lm 44 72 3]
abbrev cnf_Fit_r18:List LO:=[lo 2 (.assign (.const (.bool true))) 4]
abbrev cnf_Fit_c:LC:=.seq (.reg false cnf_Fit_r1) (.seq (.seq (.reg false cnf_Fit_r2) (.cond (.tmp 21) (.seq (.reg false cnf_Fit_r3) .ret) .skip)) (.seq (.seq (.reg false cnf_Fit_r4) (.block 0 (.loop (.seq (.reg false cnf_Fit_r5) (.seq (.cond (.tmp 26) .skip (.exit 0)) (.seq (.block 1 (.seq (.reg false cnf_Fit_r6) (.seq (.reg false cnf_Fit_r7) (.cond (.tmp 34) (.seq (.reg false cnf_Fit_r8) .ret) .skip)))) (.reg false cnf_Fit_r9))))))) (.seq (.reg false cnf_Fit_r10) (.seq (.seq (.reg false cnf_Fit_r11) (.block 2 (.loop (.seq (.reg false cnf_Fit_r12) (.seq (.cond (.tmp 45) .skip (.exit 2)) (.seq (.block 3 (.seq (.reg false cnf_Fit_r13) (.seq (.seq (.reg false cnf_Fit_r14) (.cond (.tmp 62) (.seq (.reg false cnf_Fit_r15) .ret) .skip)) (.reg false cnf_Fit_r16)))) (.reg false cnf_Fit_r17))))))) (.seq (.reg false cnf_Fit_r18) .ret)))))
theorem cnf_Fit_k:FnOk E 9 73 [.tmp 2] cnf_Fit_c:=⟨⟨Go.Proofs.Tryd.f9,by kernel_rfl,by kernel_rfl,by kernel_rfl,by kernel_rfl,by kernel_rfl⟩,rfl,rfl⟩
noncomputable def cnf_Fit_l1 (a0:S_api_Formula):Int→Option (Step (Int) ((Unit) ⊕ (Unit))):=fun x3=>(if (decide (x3 < (List.length a0.Clauses:Int)))=true then Option.bind (ixl a0.Clauses x3) (fun x7=>Option.bind (cnf_clean x7.Lits a0.Vars) (fun x8=>(if (!x8)=true then some (Step.done (Sum.inl ())) else some (Step.next (w64 (x3 + 1)))))) else some (Step.done (Sum.inr ())))
noncomputable def cnf_Fit_l2 (a0:S_api_Formula):(List Int × Int)→Option (Step (List Int × Int) ((Unit) ⊕ (Unit))):=fun (x16,x17)=>(if (decide (x17 < (List.length a0.Order:Int)))=true then Option.bind (ixl a0.Order x17) (fun x26=>Option.bind (cnf_literal x26 a0.Vars) (fun x27=>Option.bind (if (!x27)=true then some true else Option.bind (ixl x16 (w64 (x26 + a0.Vars))) (fun x30=>some (decide (x30 > 0))):Option (Bool)) (fun x29=>(if x29=true then some (Step.done (Sum.inl ())) else Option.bind (ixl x16 (w64 (x26 + a0.Vars))) (fun x31=>Option.bind (ixl x16 (w64 (x26 + a0.Vars))) (fun x32=>some (Step.next ((List.set x16 (Int.toNat (w64 (x26 + a0.Vars))) (w64 (x31 + 1))),(w64 (x17 + 1)))))))))) else some (Step.done (Sum.inr ())))
noncomputable def cnf_Fit (a0:S_api_Formula):Option (Bool):=(if (((decide (a0.Vars < 0)) || (decide (a0.Vars > 4096))) || (decide ((List.length a0.Clauses:Int) > 65536)))=true then some false else Option.bind (loopC (cnf_Fit_l1 a0) 0) (fun y=>match y with | Sum.inl _=>some false | Sum.inr _=>Option.bind (mkl 8 (0:Int) (w64 ((w64 (2 * a0.Vars)) + 1)) (w64 ((w64 (2 * a0.Vars)) + 1))) (fun x9=>Option.bind (loopC (cnf_Fit_l2 a0) (x9,0)) (fun y=>match y with | Sum.inl _=>some false | Sum.inr _=>some true))))
theorem cnf_Fit_ok (a0:S_api_Formula):Ct E 9 [.agg [iv a0.Vars,.fsl 2 (List.map c_S_api_Clause a0.Clauses),.fsl 1 (List.map cI a0.Order)]] (cnf_Fit a0) (fun r:Bool=>bv r):=ct_intro (N:=73) (L:=cnf_Fit_c) cnf_Fit_k rfl (Nat.le_of_ble_eq_true rfl) (by kernel_rfl) (by
 unfold cnf_Fit
 refine jS ⟨[V 1 (pt 0 3)],[W 0 3 [iv a0.Vars,.fsl 2 (List.map c_S_api_Clause a0.Clauses),.fsl 1 (List.map cI a0.Order)]],1⟩ ?_
 refine jc_seq ?_
 refine jR ?_
 refine jG 0 14 ⟨[V 1 (pt 0 3),V 21 (bv (((decide (a0.Vars < 0)) || (decide (a0.Vars > 4096))) || (decide ((List.length (List.map c_S_api_Clause a0.Clauses):Int) > 65536))))],[W 0 3 [iv a0.Vars,.fsl 2 (List.map c_S_api_Clause a0.Clauses),.fsl 1 (List.map cI a0.Order)]],1⟩ ?_
 simp only[List.length_map]
 refine jN ?_
 refine jIf ?_ ?_
 ·refine jS ⟨[V 2 (bv false)],[],1⟩ ?_
  refine jc_ret ?_
  refine jx_seqR ?_
  exact jx_retF (.inr rfl) (v:=bv false) (by kernel_rfl) rfl (fle_refl _)
 refine jc_skip ?_
 refine jx_seqN ?_
 refine jc_seq ?_
 refine jR ?_
 refine jG 0 4 ⟨[V 1 (pt 0 3),V 23 (.fsl 2 (List.map c_S_api_Clause a0.Clauses)),V 24 (iv (List.length (List.map c_S_api_Clause a0.Clauses):Int)),V 25 (iv 0)],[W 0 3 [iv a0.Vars,.fsl 2 (List.map c_S_api_Clause a0.Clauses),.fsl 1 (List.map cI a0.Order)]],1⟩ ?_
 simp only[List.length_map]
 refine jN ?_
 refine jc_block ?_
 refine jc_bind (fun y=>match y with | Sum.inl _=>⟨[V 2 (bv false)],[],0⟩ | Sum.inr _=>⟨[V 1 (pt 0 3)],[W 0 3 [iv a0.Vars,.fsl 2 (List.map c_S_api_Clause a0.Clauses),.fsl 1 (List.map cI a0.Order)]],1⟩) (fun y=>match y with | Sum.inl _=>.ret | Sum.inr _=>(.exit 0)) (jc_loop (fun x3=>⟨[V 1 (pt 0 3),V 23 (.fsl 2 (List.map c_S_api_Clause a0.Clauses)),V 24 (iv (List.length a0.Clauses:Int)),V 25 (iv x3)],[W 0 3 [iv a0.Vars,.fsl 2 (List.map c_S_api_Clause a0.Clauses),.fsl 1 (List.map cI a0.Order)]],1⟩) (wkR [(0,some 0)] (fix_nil _) (pc (hC 0) allp_nil)) ?_) ?_
 ·intro x3
  unfold cnf_Fit_l1
  refine jS ⟨[V 1 (pt 0 3),V 23 (.fsl 2 (List.map c_S_api_Clause a0.Clauses)),V 24 (iv (List.length a0.Clauses:Int)),V 25 (iv x3),V 26 (bv (decide (x3 < (List.length a0.Clauses:Int))))],[W 0 3 [iv a0.Vars,.fsl 2 (List.map c_S_api_Clause a0.Clauses),.fsl 1 (List.map cI a0.Order)]],1⟩ ?_
  refine jc_seq ?_
  refine jIf ?_ ?_
  ·refine jc_skip ?_
   refine jx_seqN ?_
   refine jc_seq ?_
   refine jc_block ?_
   refine jR ?_
   refine jr_part (i:=0) (mo:=ixl a0.Clauses x3) rfl rfl rfl rfl (fun _ hc=>aop_ixf (c:=c_S_api_Clause) (sz:=2) (e:=55) (kk:=.i64) (by kernel_rfl) (by kernel_rfl) (by kernel_rfl) (by kernel_rfl) hc) (fun _=>rfl) ?_
   intro x7 h7
   refine jG 1 3 ⟨[V 1 (pt 0 3),V 4 (pt 1 2),V 23 (.fsl 2 (List.map c_S_api_Clause a0.Clauses)),V 24 (iv (List.length a0.Clauses:Int)),V 25 (iv x3)],[W 0 3 [iv a0.Vars,.fsl 2 (List.map c_S_api_Clause a0.Clauses),.fsl 1 (List.map cI a0.Order)],W 1 2 [.fsl 1 (List.map cI x7.Lits),iv x7.Tag]],2⟩ ?_
   refine jN ?_
   refine jR ?_
   refine jG 0 4 ⟨[V 1 (pt 0 3),V 23 (.fsl 2 (List.map c_S_api_Clause a0.Clauses)),V 24 (iv (List.length a0.Clauses:Int)),V 25 (iv x3),V 30 (.fsl 1 (List.map cI x7.Lits)),V 32 (iv a0.Vars)],[W 0 3 [iv a0.Vars,.fsl 2 (List.map c_S_api_Clause a0.Clauses),.fsl 1 (List.map cI a0.Order)]],2⟩ ?_
   refine jK 4 (cnf_clean_ok x7.Lits a0.Vars) ?_
   intro x8 h8
   refine jG 5 1 ⟨[V 1 (pt 0 3),V 23 (.fsl 2 (List.map c_S_api_Clause a0.Clauses)),V 24 (iv (List.length a0.Clauses:Int)),V 25 (iv x3),V 34 (bv (!x8))],[W 0 3 [iv a0.Vars,.fsl 2 (List.map c_S_api_Clause a0.Clauses),.fsl 1 (List.map cI a0.Order)]],2⟩ ?_
   refine jN ?_
   refine jIf ?_ ?_
   ·refine jS ⟨[V 2 (bv false)],[],2⟩ ?_
    refine jc_ret ?_
    refine jx_blkR ?_
    refine jx_seqR ?_
    exact jx_done rfl nofun (wkR [] (fix_nil _) allp_nil)
   refine jc_skip ?_
   refine jx_blkN ?_
   refine jx_seqN ?_
   refine jT ⟨[V 1 (pt 0 3),V 23 (.fsl 2 (List.map c_S_api_Clause a0.Clauses)),V 24 (iv (List.length a0.Clauses:Int)),V 25 (iv (w64 (x3 + 1)))],[W 0 3 [iv a0.Vars,.fsl 2 (List.map c_S_api_Clause a0.Clauses),.fsl 1 (List.map cI a0.Order)]],2⟩ ?_
   exact jx_next (wkR [(0,some 0)] (fix_nil _) (pc (hC 0) allp_nil))
  refine jc_exit ?_
  refine jx_seqE ?_
  exact jx_done rfl nofun (wkR [(0,some 0)] (fix_nil _) (pc (hC 0) allp_nil))
 rintro (_ | _)
 ·refine jx_blkR ?_
  refine jx_seqR ?_
  exact jx_retF (.inr rfl) (v:=bv false) (by kernel_rfl) rfl (fle_refl _)
 refine jx_blkE ?_
 refine jx_seqN ?_
 refine jR ?_
 refine jG 0 4 ⟨[V 1 (pt 0 3),V 39 (iv (w64 ((w64 (2 * a0.Vars)) + 1)))],[W 0 3 [iv a0.Vars,.fsl 2 (List.map c_S_api_Clause a0.Clauses),.fsl 1 (List.map cI a0.Order)]],1⟩ ?_
 refine jr_part (i:=4) (mo:=mkl 8 (0:Int) (w64 ((w64 (2 * a0.Vars)) + 1)) (w64 ((w64 (2 * a0.Vars)) + 1))) rfl rfl rfl rfl (fun _ hc=>aop_mks (e:=3) (sz:=1) (b:=8) (cc:=cI) (kk:=.i64) (kc:=.i64) (by kernel_rfl) (by kernel_rfl) (by kernel_rfl) (by kernel_rfl) (by kernel_rfl) hc) (fun _=>rfl) ?_
 intro x9 h9
 refine jG 5 1 ⟨[V 1 (pt 0 3),V 5 (.osl 1 0 (List.length x9) 1)],[W 0 3 [iv a0.Vars,.fsl 2 (List.map c_S_api_Clause a0.Clauses),.fsl 1 (List.map cI a0.Order)],(1,.rows 1 (List.map cI x9))],2⟩ ?_
 refine jN ?_
 refine jc_seq ?_
 refine jR ?_
 refine jG 0 4 ⟨[V 1 (pt 0 3),V 5 (.osl 1 0 (List.length x9) 1),V 42 (.fsl 1 (List.map cI a0.Order)),V 43 (iv (List.length (List.map cI a0.Order):Int)),V 44 (iv 0)],[W 0 3 [iv a0.Vars,.fsl 2 (List.map c_S_api_Clause a0.Clauses),.fsl 1 (List.map cI a0.Order)],(1,.rows 1 (List.map cI x9))],2⟩ ?_
 simp only[List.length_map]
 refine jN ?_
 refine jc_block ?_
 refine jc_bind (fun y=>match y with | Sum.inl _=>⟨[V 2 (bv false)],[],0⟩ | Sum.inr _=>⟨[],[],0⟩) (fun y=>match y with | Sum.inl _=>.ret | Sum.inr _=>(.exit 2)) (jc_loop (fun (x16,x17)=>⟨[V 1 (pt 0 3),V 5 (.osl 1 0 (List.length x16) 1),V 42 (.fsl 1 (List.map cI a0.Order)),V 43 (iv (List.length a0.Order:Int)),V 44 (iv x17)],[W 0 3 [iv a0.Vars,.fsl 2 (List.map c_S_api_Clause a0.Clauses),.fsl 1 (List.map cI a0.Order)],(1,.rows 1 (List.map cI x16))],2⟩) (wkR [(0,some 0),(1,some 1)] (fix_nil _) (pc (hC 0) (pc (hL 1 (noid_map ni_I _)) allp_nil))) ?_) ?_
 ·rintro⟨x16,x17⟩
  unfold cnf_Fit_l2
  refine jS ⟨[V 1 (pt 0 3),V 5 (.osl 1 0 (List.length x16) 1),V 42 (.fsl 1 (List.map cI a0.Order)),V 43 (iv (List.length a0.Order:Int)),V 44 (iv x17),V 45 (bv (decide (x17 < (List.length a0.Order:Int))))],[W 0 3 [iv a0.Vars,.fsl 2 (List.map c_S_api_Clause a0.Clauses),.fsl 1 (List.map cI a0.Order)],(1,.rows 1 (List.map cI x16))],2⟩ ?_
  refine jc_seq ?_
  refine jIf ?_ ?_
  ·refine jc_skip ?_
   refine jx_seqN ?_
   refine jc_seq ?_
   refine jc_block ?_
   refine jR ?_
   refine jr_part (i:=0) (mo:=ixl a0.Order x17) rfl rfl rfl rfl (fun _ hc=>aop_ixf (c:=cI) (sz:=1) (e:=3) (kk:=.i64) (by kernel_rfl) (by kernel_rfl) (by kernel_rfl) (by kernel_rfl) hc) (fun _=>rfl) ?_
   intro x26 h26
   refine jG 1 2 ⟨[V 1 (pt 0 3),V 5 (.osl 1 0 (List.length x16) 1),V 7 (iv x26),V 42 (.fsl 1 (List.map cI a0.Order)),V 43 (iv (List.length a0.Order:Int)),V 44 (iv x17)],[W 0 3 [iv a0.Vars,.fsl 2 (List.map c_S_api_Clause a0.Clauses),.fsl 1 (List.map cI a0.Order)],(1,.rows 1 (List.map cI x16))],2⟩ ?_
   refine jN ?_
   refine jc_seq ?_
   refine jR ?_
   refine jG 0 3 ⟨[V 1 (pt 0 3),V 5 (.osl 1 0 (List.length x16) 1),V 7 (iv x26),V 42 (.fsl 1 (List.map cI a0.Order)),V 43 (iv (List.length a0.Order:Int)),V 44 (iv x17),V 48 (iv x26),V 50 (iv a0.Vars)],[W 0 3 [iv a0.Vars,.fsl 2 (List.map c_S_api_Clause a0.Clauses),.fsl 1 (List.map cI a0.Order)],(1,.rows 1 (List.map cI x16))],2⟩ ?_
   refine jK 3 (cnf_literal_ok x26 a0.Vars) ?_
   intro x27 h27
   refine jG 4 2 ⟨[V 1 (pt 0 3),V 5 (.osl 1 0 (List.length x16) 1),V 7 (iv x26),V 42 (.fsl 1 (List.map cI a0.Order)),V 43 (iv (List.length a0.Order:Int)),V 44 (iv x17),V 53 (bv (!x27))],[W 0 3 [iv a0.Vars,.fsl 2 (List.map c_S_api_Clause a0.Clauses),.fsl 1 (List.map cI a0.Order)],(1,.rows 1 (List.map cI x16))],2⟩ ?_
   refine jr_bind 6 9 (fun x29=>⟨[V 1 (pt 0 3),V 5 (.osl 1 0 (List.length x16) 1),V 7 (iv x26),V 42 (.fsl 1 (List.map cI a0.Order)),V 43 (iv (List.length a0.Order:Int)),V 44 (iv x17),V 62 (bv x29)],[W 0 3 [iv a0.Vars,.fsl 2 (List.map c_S_api_Clause a0.Clauses),.fsl 1 (List.map cI a0.Order)],(1,.rows 1 (List.map cI x16))],2⟩) ?_ ?_
   ·refine jSp 53 ?_ ?_
    ·refine jG 0 9 ⟨[V 1 (pt 0 3),V 5 (.osl 1 0 (List.length x16) 1),V 7 (iv x26),V 42 (.fsl 1 (List.map cI a0.Order)),V 43 (iv (List.length a0.Order:Int)),V 44 (iv x17),V 62 (bv true)],[W 0 3 [iv a0.Vars,.fsl 2 (List.map c_S_api_Clause a0.Clauses),.fsl 1 (List.map cI a0.Order)],(1,.rows 1 (List.map cI x16))],2⟩ ?_
     refine jr_nil rfl ?_
     exact jx_mid rfl (wkR [(0,some 0),(1,some 1)] (fix_nil _) (pc (hC 0) (pc (hL 1 (noid_map ni_I _)) allp_nil)))
    refine jG 0 5 ⟨[V 1 (pt 0 3),V 5 (.osl 1 0 (List.length x16) 1),V 7 (iv x26),V 42 (.fsl 1 (List.map cI a0.Order)),V 43 (iv (List.length a0.Order:Int)),V 44 (iv x17),(53,.lit false),V 54 (.osl 1 0 (List.length x16) 1),V 58 (iv (w64 (x26 + a0.Vars)))],[W 0 3 [iv a0.Vars,.fsl 2 (List.map c_S_api_Clause a0.Clauses),.fsl 1 (List.map cI a0.Order)],(1,.rows 1 (List.map cI x16))],2⟩ ?_
    refine jr_part (i:=5) (mo:=ixl x16 (w64 (x26 + a0.Vars))) rfl rfl rfl rfl (fun _ hc=>aop_ixo0 (sz:=1) (e:=3) (kk:=.i64) (id:=1) (by kernel_rfl) (by kernel_rfl) (by kernel_rfl) (by kernel_rfl) hc) (fun _=>rfl) ?_
    intro x30 h30
    refine jr_one (i:=6) (v:=iv x30) rfl rfl rfl rfl (aop_ldo (l:=x16) (c:=cI) (id:=1) (k:=(Int.toNat (w64 (x26 + a0.Vars)))) (sz:=1) (off:=0) (a:=x30) (by kernel_rfl) (by kernel_rfl) (ixl_lt h30).2.2 (by kernel_rfl)) rfl ?_
    refine jG 7 2 ⟨[V 1 (pt 0 3),V 5 (.osl 1 0 (List.length x16) 1),V 7 (iv x26),V 42 (.fsl 1 (List.map cI a0.Order)),V 43 (iv (List.length a0.Order:Int)),V 44 (iv x17),V 62 (bv (decide (x30 > 0)))],[W 0 3 [iv a0.Vars,.fsl 2 (List.map c_S_api_Clause a0.Clauses),.fsl 1 (List.map cI a0.Order)],(1,.rows 1 (List.map cI x16))],2⟩ ?_
    refine jr_nil rfl ?_
    exact jx_mid rfl (wkR [(0,some 0),(1,some 1)] (fix_nil _) (pc (hC 0) (pc (hL 1 (noid_map ni_I _)) allp_nil)))
   intro x29
   refine jN ?_
   refine jIf ?_ ?_
   ·refine jS ⟨[V 2 (bv false)],[],2⟩ ?_
    refine jc_ret ?_
    refine jx_seqR ?_
    refine jx_blkR ?_
    refine jx_seqR ?_
    exact jx_done rfl nofun (wkR [] (fix_nil _) allp_nil)
   refine jc_skip ?_
   refine jx_seqN ?_
   refine jc_reg ?_
   refine jG 0 5 ⟨[V 1 (pt 0 3),V 5 (.osl 1 0 (List.length x16) 1),V 42 (.fsl 1 (List.map cI a0.Order)),V 43 (iv (List.length a0.Order:Int)),V 44 (iv x17),V 63 (.osl 1 0 (List.length x16) 1),V 67 (iv (w64 (x26 + a0.Vars)))],[W 0 3 [iv a0.Vars,.fsl 2 (List.map c_S_api_Clause a0.Clauses),.fsl 1 (List.map cI a0.Order)],(1,.rows 1 (List.map cI x16))],2⟩ ?_
   refine jr_part (i:=5) (mo:=ixl x16 (w64 (x26 + a0.Vars))) rfl rfl rfl rfl (fun _ hc=>aop_ixo0 (sz:=1) (e:=3) (kk:=.i64) (id:=1) (by kernel_rfl) (by kernel_rfl) (by kernel_rfl) (by kernel_rfl) hc) (fun _=>rfl) ?_
   intro x31 h31
   refine jr_one (i:=6) (v:=iv x31) rfl rfl rfl rfl (aop_ldo (l:=x16) (c:=cI) (id:=1) (k:=(Int.toNat (w64 (x26 + a0.Vars)))) (sz:=1) (off:=0) (a:=x31) (by kernel_rfl) (by kernel_rfl) (ixl_lt h31).2.2 (by kernel_rfl)) rfl ?_
   refine jG 7 1 ⟨[V 1 (pt 0 3),V 5 (.osl 1 0 (List.length x16) 1),V 42 (.fsl 1 (List.map cI a0.Order)),V 43 (iv (List.length a0.Order:Int)),V 44 (iv x17),V 63 (.osl 1 0 (List.length x16) 1),V 67 (iv (w64 (x26 + a0.Vars))),V 70 (iv (w64 (x31 + 1)))],[W 0 3 [iv a0.Vars,.fsl 2 (List.map c_S_api_Clause a0.Clauses),.fsl 1 (List.map cI a0.Order)],(1,.rows 1 (List.map cI x16))],2⟩ ?_
   refine jr_part (i:=8) (mo:=ixl x16 (w64 (x26 + a0.Vars))) rfl rfl rfl rfl (fun _ hc=>aop_ixo0 (sz:=1) (e:=3) (kk:=.i64) (id:=1) (by kernel_rfl) (by kernel_rfl) (by kernel_rfl) (by kernel_rfl) hc) (fun _=>rfl) ?_
   intro x32 h32
   refine jr_sto (i:=9) [1,5,42,43,44] [0,1] (st1:=⟨[V 1 (pt 0 3),V 5 (.osl 1 0 (List.length (List.set x16 (Int.toNat (w64 (x26 + a0.Vars))) (w64 (x31 + 1)))) 1),V 42 (.fsl 1 (List.map cI a0.Order)),V 43 (iv (List.length a0.Order:Int)),V 44 (iv x17)],[W 0 3 [iv a0.Vars,.fsl 2 (List.map c_S_api_Clause a0.Clauses),.fsl 1 (List.map cI a0.Order)],(1,.rows 1 (List.map cI (List.set x16 (Int.toNat (w64 (x26 + a0.Vars))) (w64 (x31 + 1)))))],2⟩) rfl rfl rfl rfl (aop_sto (l:=x16) (c:=cI) (id:=1) (k:=(Int.toNat (w64 (x26 + a0.Vars)))) (sz:=1) (off:=0) (a:=x32) (a':=(w64 (x31 + 1))) (w:=iv (w64 (x31 + 1))) (cs:=[iv (w64 (x31 + 1))]) (by kernel_rfl) (by kernel_rfl) (by kernel_rfl) (by kernel_rfl) (by kernel_rfl) (ixl_lt h32).2.2 (Nat.le_of_ble_eq_true rfl) (by kernel_rfl)) (by simp only[List.length_set]; kernel_rfl) ?_
   refine jr_nil rfl ?_
   refine jx_blkN ?_
   refine jx_seqN ?_
   refine jT ⟨[V 1 (pt 0 3),V 5 (.osl 1 0 (List.length (List.set x16 (Int.toNat (w64 (x26 + a0.Vars))) (w64 (x31 + 1)))) 1),V 42 (.fsl 1 (List.map cI a0.Order)),V 43 (iv (List.length a0.Order:Int)),V 44 (iv (w64 (x17 + 1)))],[W 0 3 [iv a0.Vars,.fsl 2 (List.map c_S_api_Clause a0.Clauses),.fsl 1 (List.map cI a0.Order)],(1,.rows 1 (List.map cI (List.set x16 (Int.toNat (w64 (x26 + a0.Vars))) (w64 (x31 + 1)))))],2⟩ ?_
   exact jx_next (wkR [(0,some 0),(1,some 1)] (fix_nil _) (pc (hC 0) (pc (hL 1 (noid_map ni_I _)) allp_nil)))
  refine jc_exit ?_
  refine jx_seqE ?_
  exact jx_done rfl nofun (wkR [] (fix_nil _) allp_nil)
 rintro (_ | _)
 ·refine jx_blkR ?_
  refine jx_seqR ?_
  exact jx_retF (.inr rfl) (v:=bv false) (by kernel_rfl) rfl (fle_refl _)
 refine jx_blkE ?_
 refine jx_seqN ?_
 refine jS ⟨[V 2 (bv true)],[],0⟩ ?_
 refine jc_ret ?_
 exact jx_retF (.inr rfl) (v:=bv true) (by kernel_rfl) rfl (fle_refl _))
abbrev ref24_Fit_r1:List LO:=[lo 1 (.box 25 (.tmp 0)) 0,lo 2 (.assign (.const (.bool false))) 4]
abbrev ref24_Fit_r2:List LO:=[lo 8 (.fieldAddr 25 (.tmp 1) 0) 0,lo 9 (.load 3 (.tmp 8)) 3,lo 10 (.binOp .lss 3 (.tmp 9) (.const (.int .i64 0)) 3) 4,lm 11 10 4,lg 12 (.fieldAddr 25 (.tmp 1) 0) 0 11 false,lg 13 (.load 3 (.tmp 12)) 3 11 false,lg 14 (.binOp .gtr 3 (.tmp 13) (.const (.int .i64 4096)) 3) 4 11 false,lo 15 (.pick (.tmp 11) (.const (.bool true)) (.tmp 14)) 4,lm 16 15 4,lg 17 (.fieldAddr 25 (.tmp 1) 1) 0 16 false,lg 18 (.load 22 (.tmp 17)) 22 16 false,lg 19 (.call ⟨.builtin .len,#[.tmp 18],#[22]⟩) 3 16 false,lg 20 (.binOp .gtr 3 (.tmp 19) (.const (.int .i64 65536)) 3) 4 16 false,lo 21 (.pick (.tmp 16) (.const (.bool true)) (.tmp 20)) 4]
abbrev ref24_Fit_r3:List LO:=[lo 2 (.assign (.const (.bool false))) 4]
abbrev ref24_Fit_r4:List LO:=[lo 3 (.assign (.const (.int .i64 0))) 3]
abbrev ref24_Fit_r5:List LO:=[lm 22 3 3,lo 23 (.fieldAddr 25 (.tmp 1) 1) 0,lo 24 (.load 22 (.tmp 23)) 22,lo 25 (.call ⟨.builtin .len,#[.tmp 24],#[22]⟩) 3,lo 26 (.binOp .lss 3 (.tmp 22) (.tmp 25) 3) 4]
abbrev ref24_Fit_r6:List LO:=[lo 29 (.fieldAddr 25 (.tmp 1) 1) 0,lo 30 (.load 22 (.tmp 29)) 22,lm 31 3 3,lo 32 (.indexAddr 22 (.tmp 30) (.tmp 31)) 0,lo 33 (.fieldAddr 55 (.tmp 32) 0) 0,lo 34 (.load 23 (.tmp 33)) 23,lo 4 (.assign (.tmp 34)) 23]
abbrev ref24_Fit_r7:List LO:=[lo 5 (.assign (.const (.int .i64 0))) 3]
abbrev ref24_Fit_r8:List LO:=[lm 35 5 3,lm 36 4 23,lo 37 (.call ⟨.builtin .len,#[.tmp 36],#[23]⟩) 3,lo 38 (.binOp .lss 3 (.tmp 35) (.tmp 37) 3) 4]
abbrev ref24_Fit_r9:List LO:=[lm 41 4 23,lm 42 5 3,lo 43 (.indexAddr 23 (.tmp 41) (.tmp 42)) 0,lo 44 (.load 3 (.tmp 43)) 3,lo 45 (.fieldAddr 25 (.tmp 1) 0) 0,lo 46 (.load 3 (.tmp 45)) 3,lo 47 (.call ⟨.value (.func 34),#[.tmp 44,.tmp 46],#[3,3]⟩) 4,lo 48 (.unOp .not 4 (.tmp 47)) 4,lm 49 48 4,lmg 50 5 3 49 false,lg 51 (.binOp .gtr 3 (.tmp 50) (.const (.int .i64 0)) 3) 4 49 false,lmg 52 51 4 49 false,lmg 53 4 23 52 true,lmg 54 5 3 52 true,lg 55 (.binOp .sub 3 (.tmp 54) (.const (.int .i64 1)) 3) 3 52 true,lg 56 (.indexAddr 23 (.tmp 53) (.tmp 55)) 0 52 true,lg 57 (.load 3 (.tmp 56)) 3 52 true,lg 58 (.call ⟨.value (.func 35),#[.tmp 57],#[3]⟩) 3 52 true,lmg 59 4 23 52 true,lmg 60 5 3 52 true,lg 61 (.indexAddr 23 (.tmp 59) (.tmp 60)) 0 52 true,lg 62 (.load 3 (.tmp 61)) 3 52 true,lg 63 (.call ⟨.value (.func 35),#[.tmp 62],#[3]⟩) 3 52 true,lg 64 (.binOp .geq 3 (.tmp 58) (.tmp 63) 3) 4 52 true,lg 65 (.pick (.tmp 52) (.tmp 64) (.const (.bool false))) 4 49 false,lo 66 (.pick (.tmp 49) (.const (.bool true)) (.tmp 65)) 4]
abbrev ref24_Fit_r10:List LO:=[lo 2 (.assign (.const (.bool false))) 4]
abbrev ref24_Fit_r11:List LO:=[lm 39 5 3,lo 40 (.binOp .add 3 (.tmp 39) (.const (.int .i64 1)) 3) 3,lo 5 (.assign (.tmp 40)) 3]
abbrev ref24_Fit_r12:List LO:=[lm 27 3 3,lo 28 (.binOp .add 3 (.tmp 27) (.const (.int .i64 1)) 3) 3,lo 3 (.assign (.tmp 28)) 3]
abbrev ref24_Fit_r13:List LO:=[lo 67 (.fieldAddr 25 (.tmp 1) 0) 0,lo 68 (.load 3 (.tmp 67)) 3,lo 69 (.binOp .mul 3 (.const (.int .i64 2)) (.tmp 68) 3) 3,lo 70 (.binOp .add 3 (.tmp 69) (.const (.int .i64 1)) 3) 3,lo 71 (.makeSlice 63 (.tmp 70) (.tmp 70)) 63,lo 6 (.assign (.tmp 71)) 63]
abbrev ref24_Fit_r14:List LO:=[lo 7 (.assign (.const (.int .i64 0))) 3]
abbrev ref24_Fit_r15:List LO:=[lm 72 7 3,lo 73 (.fieldAddr 25 (.tmp 1) 2) 0,lo 74 (.load 23 (.tmp 73)) 23,lo 75 (.call ⟨.builtin .len,#[.tmp 74],#[23]⟩) 3,lo 76 (.binOp .lss 3 (.tmp 72) (.tmp 75) 3) 4]
abbrev ref24_Fit_r16:List LO:=[lo 79 (.fieldAddr 25 (.tmp 1) 2) 0,lo 80 (.load 23 (.tmp 79)) 23,lm 81 7 3,lo 82 (.indexAddr 23 (.tmp 80) (.tmp 81)) 0,lo 83 (.load 3 (.tmp 82)) 3,lo 84 (.fieldAddr 25 (.tmp 1) 0) 0,lo 85 (.load 3 (.tmp 84)) 3,lo 86 (.call ⟨.value (.func 34),#[.tmp 83,.tmp 85],#[3,3]⟩) 4,lo 87 (.unOp .not 4 (.tmp 86)) 4,lm 88 87 4,lmg 89 6 63 88 false,lg 90 (.fieldAddr 25 (.tmp 1) 2) 0 88 false,lg 91 (.load 23 (.tmp 90)) 23 88 false,lmg 92 7 3 88 false,lg 93 (.indexAddr 23 (.tmp 91) (.tmp 92)) 0 88 false,lg 94 (.load 3 (.tmp 93)) 3 88 false,lg 95 (.fieldAddr 25 (.tmp 1) 0) 0 88 false,lg 96 (.load 3 (.tmp 95)) 3 88 false,lg 97 (.binOp .add 3 (.tmp 94) (.tmp 96) 3) 3 88 false,lg 98 (.indexAddr 63 (.tmp 89) (.tmp 97)) 0 88 false,lg 99 (.load 4 (.tmp 98)) 4 88 false,lo 100 (.pick (.tmp 88) (.const (.bool true)) (.tmp 99)) 4]
abbrev ref24_Fit_r17:List LO:=[lo 2 (.assign (.const (.bool false))) 4]
abbrev ref24_Fit_r18:List LO:=[lm 101 6 63,lo 102 (.fieldAddr 25 (.tmp 1) 2) 0,lo 103 (.load 23 (.tmp 102)) 23,lm 104 7 3,lo 105 (.indexAddr 23 (.tmp 103) (.tmp 104)) 0,lo 106 (.load 3 (.tmp 105)) 3,lo 107 (.fieldAddr 25 (.tmp 1) 0) 0,lo 108 (.load 3 (.tmp 107)) 3,lo 109 (.binOp .add 3 (.tmp 106) (.tmp 108) 3) 3,lo 110 (.indexAddr 63 (.tmp 101) (.tmp 109)) 0,ln (.store 4 (.tmp 110) (.const (.bool true))) 0]
abbrev ref24_Fit_r19:List LO:=[lm 77 7 3,lo 78 (.binOp .add 3 (.tmp 77) (.const (.int .i64 1)) 3) 3,lo 7 (.assign (.tmp 78)) 3]
abbrev ref24_Fit_r20:List LO:=[lo 2 (.assign (.const (.bool true))) 4]
abbrev ref24_Fit_c:LC:=.seq (.reg false ref24_Fit_r1) (.seq (.seq (.reg false ref24_Fit_r2) (.cond (.tmp 21) (.seq (.reg false ref24_Fit_r3) .ret) .skip)) (.seq (.seq (.reg false ref24_Fit_r4) (.block 0 (.loop (.seq (.seq (.reg false ref24_Fit_r5) (.cond (.tmp 26) .skip (.exit 0))) (.seq (.block 1 (.seq (.reg false ref24_Fit_r6) (.seq (.reg false ref24_Fit_r7) (.block 2 (.loop (.seq (.seq (.reg false ref24_Fit_r8) (.cond (.tmp 38) .skip (.exit 2))) (.seq (.block 3 (.seq (.reg true ref24_Fit_r9) (.cond (.tmp 66) (.seq (.reg false ref24_Fit_r10) .ret) .skip))) (.reg false ref24_Fit_r11)))))))) (.reg false ref24_Fit_r12)))))) (.seq (.reg false ref24_Fit_r13) (.seq (.seq (.reg false ref24_Fit_r14) (.block 4 (.loop (.seq (.seq (.reg false ref24_Fit_r15) (.cond (.tmp 76) .skip (.exit 4))) (.seq (.block 5 (.seq (.seq (.reg true ref24_Fit_r16) (.cond (.tmp 100) (.seq (.reg false ref24_Fit_r17) .ret) .skip)) (.reg true ref24_Fit_r18))) (.reg false ref24_Fit_r19)))))) (.seq (.reg false ref24_Fit_r20) .ret)))))
theorem ref24_Fit_k:FnOk E 10 111 [.tmp 2] ref24_Fit_c:=⟨⟨Go.Proofs.Tryd.f10,by kernel_rfl,by kernel_rfl,by kernel_rfl,by kernel_rfl,by kernel_rfl⟩,rfl,rfl⟩
noncomputable def ref24_Fit_l1 (a0:S_api_Formula) (x31:S_api_Clause):Int→Option (Step (Int) ((Unit) ⊕ (Unit))):=fun x35=>(if (decide (x35 < (List.length x31.Lits:Int)))=true then Option.bind (ixl x31.Lits x35) (fun x45=>Option.bind (ref24_good x45 a0.Vars) (fun x46=>Option.bind (if (!x46)=true then some true else Option.bind (if (decide (x35 > 0))=true then Option.bind (ixl x31.Lits (w64 (x35 - 1))) (fun x58=>Option.bind (ref24_abs x58) (fun x59=>Option.bind (ixl x31.Lits x35) (fun x60=>Option.bind (ref24_abs x60) (fun x61=>some (decide (x59≥x61)))))) else some false:Option (Bool)) (fun x57=>some (false || x57)):Option (Bool)) (fun x52=>(if x52=true then some (Step.done (Sum.inl ())) else some (Step.next (w64 (x35 + 1))))))) else some (Step.done (Sum.inr ())))
noncomputable def ref24_Fit_l2 (a0:S_api_Formula):Int→Option (Step (Int) ((Unit) ⊕ (Unit))):=fun x15=>(if (decide (x15 < (List.length a0.Clauses:Int)))=true then Option.bind (ixl a0.Clauses x15) (fun x31=>Option.bind (loopC (ref24_Fit_l1 a0 x31) 0) (fun y=>match y with | Sum.inl _=>some (Step.done (Sum.inl ())) | Sum.inr _=>some (Step.next (w64 (x15 + 1))))) else some (Step.done (Sum.inr ())))
noncomputable def ref24_Fit_l3 (a0:S_api_Formula):(List Bool × Int)→Option (Step (List Bool × Int) ((Unit) ⊕ (Unit))):=fun (x70,x71)=>(if (decide (x71 < (List.length a0.Order:Int)))=true then Option.bind (ixl a0.Order x71) (fun x81=>Option.bind (ref24_good x81 a0.Vars) (fun x82=>Option.bind (if (!x82)=true then some true else Option.bind (ixl a0.Order x71) (fun x86=>Option.bind (ixl x70 (w64 (x86 + a0.Vars))) (fun x87=>some x87)):Option (Bool)) (fun x85=>(if x85=true then some (Step.done (Sum.inl ())) else Option.bind (ixl a0.Order x71) (fun x88=>Option.bind (ixl x70 (w64 (x88 + a0.Vars))) (fun x89=>some (Step.next ((List.set x70 (Int.toNat (w64 (x88 + a0.Vars))) true),(w64 (x71 + 1)))))))))) else some (Step.done (Sum.inr ())))
noncomputable def ref24_Fit (a0:S_api_Formula):Option (Bool):=(if (((decide (a0.Vars < 0)) || (decide (a0.Vars > 4096))) || (decide ((List.length a0.Clauses:Int) > 65536)))=true then some false else Option.bind (loopC (ref24_Fit_l2 a0) 0) (fun y=>match y with | Sum.inl _=>some false | Sum.inr _=>Option.bind (mkl 1 (false:Bool) (w64 ((w64 (2 * a0.Vars)) + 1)) (w64 ((w64 (2 * a0.Vars)) + 1))) (fun x62=>Option.bind (loopC (ref24_Fit_l3 a0) (x62,0)) (fun y=>match y with | Sum.inl _=>some false | Sum.inr _=>some true))))
theorem ref24_Fit_ok (a0:S_api_Formula):Ct E 10 [.agg [iv a0.Vars,.fsl 2 (List.map c_S_api_Clause a0.Clauses),.fsl 1 (List.map cI a0.Order)]] (ref24_Fit a0) (fun r:Bool=>bv r):=ct_intro (N:=111) (L:=ref24_Fit_c) ref24_Fit_k rfl (Nat.le_of_ble_eq_true rfl) (by kernel_rfl) (by
 unfold ref24_Fit
 refine jS ⟨[V 1 (pt 0 3)],[W 0 3 [iv a0.Vars,.fsl 2 (List.map c_S_api_Clause a0.Clauses),.fsl 1 (List.map cI a0.Order)]],1⟩ ?_
 refine jc_seq ?_
 refine jR ?_
 refine jG 0 14 ⟨[V 1 (pt 0 3),V 21 (bv (((decide (a0.Vars < 0)) || (decide (a0.Vars > 4096))) || (decide ((List.length (List.map c_S_api_Clause a0.Clauses):Int) > 65536))))],[W 0 3 [iv a0.Vars,.fsl 2 (List.map c_S_api_Clause a0.Clauses),.fsl 1 (List.map cI a0.Order)]],1⟩ ?_
 simp only[List.length_map]
 refine jN ?_
 refine jIf ?_ ?_
 ·refine jS ⟨[V 2 (bv false)],[],1⟩ ?_
  refine jc_ret ?_
  refine jx_seqR ?_
  exact jx_retF (.inr rfl) (v:=bv false) (by kernel_rfl) rfl (fle_refl _)
 refine jc_skip ?_
 refine jx_seqN ?_
 refine jc_seq ?_
 refine jS ⟨[V 1 (pt 0 3),V 3 (iv 0)],[W 0 3 [iv a0.Vars,.fsl 2 (List.map c_S_api_Clause a0.Clauses),.fsl 1 (List.map cI a0.Order)]],1⟩ ?_
 refine jc_block ?_
 refine jc_bind (fun y=>match y with | Sum.inl _=>⟨[V 2 (bv false)],[],0⟩ | Sum.inr _=>⟨[V 1 (pt 0 3)],[W 0 3 [iv a0.Vars,.fsl 2 (List.map c_S_api_Clause a0.Clauses),.fsl 1 (List.map cI a0.Order)]],1⟩) (fun y=>match y with | Sum.inl _=>.ret | Sum.inr _=>(.exit 0)) (jc_loop (fun x15=>⟨[V 1 (pt 0 3),V 3 (iv x15)],[W 0 3 [iv a0.Vars,.fsl 2 (List.map c_S_api_Clause a0.Clauses),.fsl 1 (List.map cI a0.Order)]],1⟩) (wkR [(0,some 0)] (fix_nil _) (pc (hC 0) allp_nil)) ?_) ?_
 ·intro x15
  unfold ref24_Fit_l2
  refine jc_seq ?_
  refine jR ?_
  refine jG 0 5 ⟨[V 1 (pt 0 3),V 3 (iv x15),V 26 (bv (decide (x15 < (List.length (List.map c_S_api_Clause a0.Clauses):Int))))],[W 0 3 [iv a0.Vars,.fsl 2 (List.map c_S_api_Clause a0.Clauses),.fsl 1 (List.map cI a0.Order)]],1⟩ ?_
  simp only[List.length_map]
  refine jN ?_
  refine jIf ?_ ?_
  ·refine jc_skip ?_
   refine jx_seqN ?_
   refine jc_seq ?_
   refine jc_block ?_
   refine jR ?_
   refine jG 0 3 ⟨[V 1 (pt 0 3),V 3 (iv x15),V 30 (.fsl 2 (List.map c_S_api_Clause a0.Clauses)),V 31 (iv x15)],[W 0 3 [iv a0.Vars,.fsl 2 (List.map c_S_api_Clause a0.Clauses),.fsl 1 (List.map cI a0.Order)]],1⟩ ?_
   refine jr_part (i:=3) (mo:=ixl a0.Clauses x15) rfl rfl rfl rfl (fun _ hc=>aop_ixf (c:=c_S_api_Clause) (sz:=2) (e:=55) (kk:=.i64) (by kernel_rfl) (by kernel_rfl) (by kernel_rfl) (by kernel_rfl) hc) (fun _=>rfl) ?_
   intro x31 h31
   refine jG 4 3 ⟨[V 1 (pt 0 3),V 3 (iv x15),V 4 (.fsl 1 (List.map cI x31.Lits))],[W 0 3 [iv a0.Vars,.fsl 2 (List.map c_S_api_Clause a0.Clauses),.fsl 1 (List.map cI a0.Order)]],1⟩ ?_
   refine jN ?_
   refine jS ⟨[V 1 (pt 0 3),V 3 (iv x15),V 4 (.fsl 1 (List.map cI x31.Lits)),V 5 (iv 0)],[W 0 3 [iv a0.Vars,.fsl 2 (List.map c_S_api_Clause a0.Clauses),.fsl 1 (List.map cI a0.Order)]],1⟩ ?_
   refine jc_block ?_
   refine jc_bind (fun y=>match y with | Sum.inl _=>⟨[V 2 (bv false)],[],0⟩ | Sum.inr _=>⟨[V 1 (pt 0 3),V 3 (iv x15)],[W 0 3 [iv a0.Vars,.fsl 2 (List.map c_S_api_Clause a0.Clauses),.fsl 1 (List.map cI a0.Order)]],1⟩) (fun y=>match y with | Sum.inl _=>.ret | Sum.inr _=>(.exit 2)) (jc_loop (fun x35=>⟨[V 1 (pt 0 3),V 3 (iv x15),V 4 (.fsl 1 (List.map cI x31.Lits)),V 5 (iv x35)],[W 0 3 [iv a0.Vars,.fsl 2 (List.map c_S_api_Clause a0.Clauses),.fsl 1 (List.map cI a0.Order)]],1⟩) (wkR [(0,some 0)] (fix_nil _) (pc (hC 0) allp_nil)) ?_) ?_
   ·intro x35
    unfold ref24_Fit_l1
    refine jc_seq ?_
    refine jR ?_
    refine jG 0 4 ⟨[V 1 (pt 0 3),V 3 (iv x15),V 4 (.fsl 1 (List.map cI x31.Lits)),V 5 (iv x35),V 38 (bv (decide (x35 < (List.length (List.map cI x31.Lits):Int))))],[W 0 3 [iv a0.Vars,.fsl 2 (List.map c_S_api_Clause a0.Clauses),.fsl 1 (List.map cI a0.Order)]],1⟩ ?_
    simp only[List.length_map]
    refine jN ?_
    refine jIf ?_ ?_
    ·refine jc_skip ?_
     refine jx_seqN ?_
     refine jc_seq ?_
     refine jc_block ?_
     refine jR ?_
     refine jG 0 2 ⟨[V 1 (pt 0 3),V 3 (iv x15),V 4 (.fsl 1 (List.map cI x31.Lits)),V 5 (iv x35),V 41 (.fsl 1 (List.map cI x31.Lits)),V 42 (iv x35)],[W 0 3 [iv a0.Vars,.fsl 2 (List.map c_S_api_Clause a0.Clauses),.fsl 1 (List.map cI a0.Order)]],1⟩ ?_
     refine jr_part (i:=2) (mo:=ixl x31.Lits x35) rfl rfl rfl rfl (fun _ hc=>aop_ixf (c:=cI) (sz:=1) (e:=3) (kk:=.i64) (by kernel_rfl) (by kernel_rfl) (by kernel_rfl) (by kernel_rfl) hc) (fun _=>rfl) ?_
     intro x45 h45
     refine jG 3 3 ⟨[V 1 (pt 0 3),V 3 (iv x15),V 4 (.fsl 1 (List.map cI x31.Lits)),V 5 (iv x35),V 44 (iv x45),V 46 (iv a0.Vars)],[W 0 3 [iv a0.Vars,.fsl 2 (List.map c_S_api_Clause a0.Clauses),.fsl 1 (List.map cI a0.Order)]],1⟩ ?_
     refine jK 6 (ref24_good_ok x45 a0.Vars) ?_
     intro x46 h46
     refine jG 7 2 ⟨[V 1 (pt 0 3),V 3 (iv x15),V 4 (.fsl 1 (List.map cI x31.Lits)),V 5 (iv x35),V 49 (bv (!x46))],[W 0 3 [iv a0.Vars,.fsl 2 (List.map c_S_api_Clause a0.Clauses),.fsl 1 (List.map cI a0.Order)]],1⟩ ?_
     refine jr_bind 9 17 (fun x52=>⟨[V 1 (pt 0 3),V 3 (iv x15),V 4 (.fsl 1 (List.map cI x31.Lits)),V 5 (iv x35),V 66 (bv x52)],[W 0 3 [iv a0.Vars,.fsl 2 (List.map c_S_api_Clause a0.Clauses),.fsl 1 (List.map cI a0.Order)]],1⟩) ?_ ?_
     ·refine jSp 49 ?_ ?_
      ·refine jG 0 17 ⟨[V 1 (pt 0 3),V 3 (iv x15),V 4 (.fsl 1 (List.map cI x31.Lits)),V 5 (iv x35),V 66 (bv true)],[W 0 3 [iv a0.Vars,.fsl 2 (List.map c_S_api_Clause a0.Clauses),.fsl 1 (List.map cI a0.Order)]],1⟩ ?_
       refine jr_nil rfl ?_
       exact jx_mid rfl (wkR [(0,some 0)] (fix_nil _) (pc (hC 0) allp_nil))
      refine jG 0 3 ⟨[V 1 (pt 0 3),V 3 (iv x15),V 4 (.fsl 1 (List.map cI x31.Lits)),V 5 (iv x35),(49,.lit false),V 52 (bv (decide (x35 > 0)))],[W 0 3 [iv a0.Vars,.fsl 2 (List.map c_S_api_Clause a0.Clauses),.fsl 1 (List.map cI a0.Order)]],1⟩ ?_
      refine jr_bind 3 13 (fun x57=>⟨[V 1 (pt 0 3),V 3 (iv x15),V 4 (.fsl 1 (List.map cI x31.Lits)),V 5 (iv x35),V 49 (bv false),V 65 (bv x57)],[W 0 3 [iv a0.Vars,.fsl 2 (List.map c_S_api_Clause a0.Clauses),.fsl 1 (List.map cI a0.Order)]],1⟩) ?_ ?_
      ·refine jSp 52 ?_ ?_
       ·refine jG 0 3 ⟨[V 1 (pt 0 3),V 3 (iv x15),V 4 (.fsl 1 (List.map cI x31.Lits)),V 5 (iv x35),(49,.lit false),(52,.lit true),V 53 (.fsl 1 (List.map cI x31.Lits)),V 55 (iv (w64 (x35 - 1)))],[W 0 3 [iv a0.Vars,.fsl 2 (List.map c_S_api_Clause a0.Clauses),.fsl 1 (List.map cI a0.Order)]],1⟩ ?_
        refine jr_part (i:=3) (mo:=ixl x31.Lits (w64 (x35 - 1))) rfl rfl rfl rfl (fun _ hc=>aop_ixf (c:=cI) (sz:=1) (e:=3) (kk:=.i64) (by kernel_rfl) (by kernel_rfl) (by kernel_rfl) (by kernel_rfl) hc) (fun _=>rfl) ?_
        intro x58 h58
        refine jG 4 1 ⟨[V 1 (pt 0 3),V 3 (iv x15),V 4 (.fsl 1 (List.map cI x31.Lits)),V 5 (iv x35),(49,.lit false),(52,.lit true),V 57 (iv x58)],[W 0 3 [iv a0.Vars,.fsl 2 (List.map c_S_api_Clause a0.Clauses),.fsl 1 (List.map cI a0.Order)]],1⟩ ?_
        refine jK 5 (ref24_abs_ok x58) ?_
        intro x59 h59
        refine jG 6 2 ⟨[V 1 (pt 0 3),V 3 (iv x15),V 4 (.fsl 1 (List.map cI x31.Lits)),V 5 (iv x35),(49,.lit false),(52,.lit true),V 58 (iv x59),V 59 (.fsl 1 (List.map cI x31.Lits)),V 60 (iv x35)],[W 0 3 [iv a0.Vars,.fsl 2 (List.map c_S_api_Clause a0.Clauses),.fsl 1 (List.map cI a0.Order)]],1⟩ ?_
        refine jr_part (i:=8) (mo:=ixl x31.Lits x35) rfl rfl rfl rfl (fun _ hc=>aop_ixf (c:=cI) (sz:=1) (e:=3) (kk:=.i64) (by kernel_rfl) (by kernel_rfl) (by kernel_rfl) (by kernel_rfl) hc) (fun _=>rfl) ?_
        intro x60 h60
        refine jG 9 1 ⟨[V 1 (pt 0 3),V 3 (iv x15),V 4 (.fsl 1 (List.map cI x31.Lits)),V 5 (iv x35),(49,.lit false),(52,.lit true),V 58 (iv x59),V 62 (iv x60)],[W 0 3 [iv a0.Vars,.fsl 2 (List.map c_S_api_Clause a0.Clauses),.fsl 1 (List.map cI a0.Order)]],1⟩ ?_
        refine jK 10 (ref24_abs_ok x60) ?_
        intro x61 h61
        refine jG 11 2 ⟨[V 1 (pt 0 3),V 3 (iv x15),V 4 (.fsl 1 (List.map cI x31.Lits)),V 5 (iv x35),(49,.lit false),V 65 (bv (decide (x59≥x61)))],[W 0 3 [iv a0.Vars,.fsl 2 (List.map c_S_api_Clause a0.Clauses),.fsl 1 (List.map cI a0.Order)]],1⟩ ?_
        refine jr_nil rfl ?_
        exact jx_mid rfl (wkR [(0,some 0)] (fix_nil _) (pc (hC 0) allp_nil))
       refine jG 0 13 ⟨[V 1 (pt 0 3),V 3 (iv x15),V 4 (.fsl 1 (List.map cI x31.Lits)),V 5 (iv x35),(49,.lit false),V 65 (bv false)],[W 0 3 [iv a0.Vars,.fsl 2 (List.map c_S_api_Clause a0.Clauses),.fsl 1 (List.map cI a0.Order)]],1⟩ ?_
       refine jr_nil rfl ?_
       exact jx_mid rfl (wkR [(0,some 0)] (fix_nil _) (pc (hC 0) allp_nil))
      intro x57
      refine jG 16 1 ⟨[V 1 (pt 0 3),V 3 (iv x15),V 4 (.fsl 1 (List.map cI x31.Lits)),V 5 (iv x35),V 66 (bv (false || x57))],[W 0 3 [iv a0.Vars,.fsl 2 (List.map c_S_api_Clause a0.Clauses),.fsl 1 (List.map cI a0.Order)]],1⟩ ?_
      refine jr_nil rfl ?_
      exact jx_mid rfl (wkR [(0,some 0)] (fix_nil _) (pc (hC 0) allp_nil))
     intro x52
     refine jN ?_
     refine jIf ?_ ?_
     ·refine jS ⟨[V 2 (bv false)],[],1⟩ ?_
      refine jc_ret ?_
      refine jx_blkR ?_
      refine jx_seqR ?_
      exact jx_done rfl nofun (wkR [] (fix_nil _) allp_nil)
     refine jc_skip ?_
     refine jx_blkN ?_
     refine jx_seqN ?_
     refine jT ⟨[V 1 (pt 0 3),V 3 (iv x15),V 4 (.fsl 1 (List.map cI x31.Lits)),V 5 (iv (w64 (x35 + 1)))],[W 0 3 [iv a0.Vars,.fsl 2 (List.map c_S_api_Clause a0.Clauses),.fsl 1 (List.map cI a0.Order)]],1⟩ ?_
     exact jx_next (wkR [(0,some 0)] (fix_nil _) (pc (hC 0) allp_nil))
    refine jc_exit ?_
    refine jx_seqE ?_
    exact jx_done rfl nofun (wkR [(0,some 0)] (fix_nil _) (pc (hC 0) allp_nil))
   rintro (_ | _)
   ·refine jx_blkR ?_
    refine jx_blkR ?_
    refine jx_seqR ?_
    exact jx_done rfl nofun (wkR [] (fix_nil _) allp_nil)
   refine jx_blkE ?_
   refine jx_blkN ?_
   refine jx_seqN ?_
   refine jT ⟨[V 1 (pt 0 3),V 3 (iv (w64 (x15 + 1)))],[W 0 3 [iv a0.Vars,.fsl 2 (List.map c_S_api_Clause a0.Clauses),.fsl 1 (List.map cI a0.Order)]],1⟩ ?_
   exact jx_next (wkR [(0,some 0)] (fix_nil _) (pc (hC 0) allp_nil))
  refine jc_exit ?_
  refine jx_seqE ?_
  exact jx_done rfl nofun (wkR [(0,some 0)] (fix_nil _) (pc (hC 0) allp_nil))
 rintro (_ | _)
 ·refine jx_blkR ?_
  refine jx_seqR ?_
  exact jx_retF (.inr rfl) (v:=bv false) (by kernel_rfl) rfl (fle_refl _)
 refine jx_blkE ?_
 refine jx_seqN ?_
 refine jR ?_
 refine jG 0 4 ⟨[V 1 (pt 0 3),V 70 (iv (w64 ((w64 (2 * a0.Vars)) + 1)))],[W 0 3 [iv a0.Vars,.fsl 2 (List.map c_S_api_Clause a0.Clauses),.fsl 1 (List.map cI a0.Order)]],1⟩ ?_
 refine jr_part (i:=4) (mo:=mkl 1 (false:Bool) (w64 ((w64 (2 * a0.Vars)) + 1)) (w64 ((w64 (2 * a0.Vars)) + 1))) rfl rfl rfl rfl (fun _ hc=>aop_mks (e:=4) (sz:=1) (b:=1) (cc:=cT) (kk:=.i64) (kc:=.i64) (by kernel_rfl) (by kernel_rfl) (by kernel_rfl) (by kernel_rfl) (by kernel_rfl) hc) (fun _=>rfl) ?_
 intro x62 h62
 refine jG 5 1 ⟨[V 1 (pt 0 3),V 6 (.osl 1 0 (List.length x62) 1)],[W 0 3 [iv a0.Vars,.fsl 2 (List.map c_S_api_Clause a0.Clauses),.fsl 1 (List.map cI a0.Order)],(1,.rows 1 (List.map cT x62))],2⟩ ?_
 refine jN ?_
 refine jc_seq ?_
 refine jS ⟨[V 1 (pt 0 3),V 6 (.osl 1 0 (List.length x62) 1),V 7 (iv 0)],[W 0 3 [iv a0.Vars,.fsl 2 (List.map c_S_api_Clause a0.Clauses),.fsl 1 (List.map cI a0.Order)],(1,.rows 1 (List.map cT x62))],2⟩ ?_
 refine jc_block ?_
 refine jc_bind (fun y=>match y with | Sum.inl _=>⟨[V 2 (bv false)],[],0⟩ | Sum.inr _=>⟨[],[],0⟩) (fun y=>match y with | Sum.inl _=>.ret | Sum.inr _=>(.exit 4)) (jc_loop (fun (x70,x71)=>⟨[V 1 (pt 0 3),V 6 (.osl 1 0 (List.length x70) 1),V 7 (iv x71)],[W 0 3 [iv a0.Vars,.fsl 2 (List.map c_S_api_Clause a0.Clauses),.fsl 1 (List.map cI a0.Order)],(1,.rows 1 (List.map cT x70))],2⟩) (wkR [(0,some 0),(1,some 1)] (fix_nil _) (pc (hC 0) (pc (hL 1 (noid_map ni_T _)) allp_nil))) ?_) ?_
 ·rintro⟨x70,x71⟩
  unfold ref24_Fit_l3
  refine jc_seq ?_
  refine jR ?_
  refine jG 0 5 ⟨[V 1 (pt 0 3),V 6 (.osl 1 0 (List.length x70) 1),V 7 (iv x71),V 76 (bv (decide (x71 < (List.length (List.map cI a0.Order):Int))))],[W 0 3 [iv a0.Vars,.fsl 2 (List.map c_S_api_Clause a0.Clauses),.fsl 1 (List.map cI a0.Order)],(1,.rows 1 (List.map cT x70))],2⟩ ?_
  simp only[List.length_map]
  refine jN ?_
  refine jIf ?_ ?_
  ·refine jc_skip ?_
   refine jx_seqN ?_
   refine jc_seq ?_
   refine jc_block ?_
   refine jc_seq ?_
   refine jR ?_
   refine jG 0 3 ⟨[V 1 (pt 0 3),V 6 (.osl 1 0 (List.length x70) 1),V 7 (iv x71),V 80 (.fsl 1 (List.map cI a0.Order)),V 81 (iv x71)],[W 0 3 [iv a0.Vars,.fsl 2 (List.map c_S_api_Clause a0.Clauses),.fsl 1 (List.map cI a0.Order)],(1,.rows 1 (List.map cT x70))],2⟩ ?_
   refine jr_part (i:=3) (mo:=ixl a0.Order x71) rfl rfl rfl rfl (fun _ hc=>aop_ixf (c:=cI) (sz:=1) (e:=3) (kk:=.i64) (by kernel_rfl) (by kernel_rfl) (by kernel_rfl) (by kernel_rfl) hc) (fun _=>rfl) ?_
   intro x81 h81
   refine jG 4 3 ⟨[V 1 (pt 0 3),V 6 (.osl 1 0 (List.length x70) 1),V 7 (iv x71),V 83 (iv x81),V 85 (iv a0.Vars)],[W 0 3 [iv a0.Vars,.fsl 2 (List.map c_S_api_Clause a0.Clauses),.fsl 1 (List.map cI a0.Order)],(1,.rows 1 (List.map cT x70))],2⟩ ?_
   refine jK 7 (ref24_good_ok x81 a0.Vars) ?_
   intro x82 h82
   refine jG 8 2 ⟨[V 1 (pt 0 3),V 6 (.osl 1 0 (List.length x70) 1),V 7 (iv x71),V 88 (bv (!x82))],[W 0 3 [iv a0.Vars,.fsl 2 (List.map c_S_api_Clause a0.Clauses),.fsl 1 (List.map cI a0.Order)],(1,.rows 1 (List.map cT x70))],2⟩ ?_
   refine jr_bind 10 12 (fun x85=>⟨[V 1 (pt 0 3),V 6 (.osl 1 0 (List.length x70) 1),V 7 (iv x71),V 100 (bv x85)],[W 0 3 [iv a0.Vars,.fsl 2 (List.map c_S_api_Clause a0.Clauses),.fsl 1 (List.map cI a0.Order)],(1,.rows 1 (List.map cT x70))],2⟩) ?_ ?_
   ·refine jSp 88 ?_ ?_
    ·refine jG 0 12 ⟨[V 1 (pt 0 3),V 6 (.osl 1 0 (List.length x70) 1),V 7 (iv x71),V 100 (bv true)],[W 0 3 [iv a0.Vars,.fsl 2 (List.map c_S_api_Clause a0.Clauses),.fsl 1 (List.map cI a0.Order)],(1,.rows 1 (List.map cT x70))],2⟩ ?_
     refine jr_nil rfl ?_
     exact jx_mid rfl (wkR [(0,some 0),(1,some 1)] (fix_nil _) (pc (hC 0) (pc (hL 1 (noid_map ni_T _)) allp_nil)))
    refine jG 0 4 ⟨[V 1 (pt 0 3),V 6 (.osl 1 0 (List.length x70) 1),V 7 (iv x71),(88,.lit false),V 89 (.osl 1 0 (List.length x70) 1),V 91 (.fsl 1 (List.map cI a0.Order)),V 92 (iv x71)],[W 0 3 [iv a0.Vars,.fsl 2 (List.map c_S_api_Clause a0.Clauses),.fsl 1 (List.map cI a0.Order)],(1,.rows 1 (List.map cT x70))],2⟩ ?_
    refine jr_part (i:=4) (mo:=ixl a0.Order x71) rfl rfl rfl rfl (fun _ hc=>aop_ixf (c:=cI) (sz:=1) (e:=3) (kk:=.i64) (by kernel_rfl) (by kernel_rfl) (by kernel_rfl) (by kernel_rfl) hc) (fun _=>rfl) ?_
    intro x86 h86
    refine jG 5 4 ⟨[V 1 (pt 0 3),V 6 (.osl 1 0 (List.length x70) 1),V 7 (iv x71),(88,.lit false),V 89 (.osl 1 0 (List.length x70) 1),V 97 (iv (w64 (x86 + a0.Vars)))],[W 0 3 [iv a0.Vars,.fsl 2 (List.map c_S_api_Clause a0.Clauses),.fsl 1 (List.map cI a0.Order)],(1,.rows 1 (List.map cT x70))],2⟩ ?_
    refine jr_part (i:=9) (mo:=ixl x70 (w64 (x86 + a0.Vars))) rfl rfl rfl rfl (fun _ hc=>aop_ixo0 (sz:=1) (e:=4) (kk:=.i64) (id:=1) (by kernel_rfl) (by kernel_rfl) (by kernel_rfl) (by kernel_rfl) hc) (fun _=>rfl) ?_
    intro x87 h87
    refine jr_one (i:=10) (v:=bv x87) rfl rfl rfl rfl (aop_ldo (l:=x70) (c:=cT) (id:=1) (k:=(Int.toNat (w64 (x86 + a0.Vars)))) (sz:=1) (off:=0) (a:=x87) (by kernel_rfl) (by kernel_rfl) (ixl_lt h87).2.2 (by kernel_rfl)) rfl ?_
    refine jG 11 1 ⟨[V 1 (pt 0 3),V 6 (.osl 1 0 (List.length x70) 1),V 7 (iv x71),V 100 (bv x87)],[W 0 3 [iv a0.Vars,.fsl 2 (List.map c_S_api_Clause a0.Clauses),.fsl 1 (List.map cI a0.Order)],(1,.rows 1 (List.map cT x70))],2⟩ ?_
    refine jr_nil rfl ?_
    exact jx_mid rfl (wkR [(0,some 0),(1,some 1)] (fix_nil _) (pc (hC 0) (pc (hL 1 (noid_map ni_T _)) allp_nil)))
   intro x85
   refine jN ?_
   refine jIf ?_ ?_
   ·refine jS ⟨[V 2 (bv false)],[],2⟩ ?_
    refine jc_ret ?_
    refine jx_seqR ?_
    refine jx_blkR ?_
    refine jx_seqR ?_
    exact jx_done rfl nofun (wkR [] (fix_nil _) allp_nil)
   refine jc_skip ?_
   refine jx_seqN ?_
   refine jc_reg ?_
   refine jG 0 4 ⟨[V 1 (pt 0 3),V 6 (.osl 1 0 (List.length x70) 1),V 7 (iv x71),V 101 (.osl 1 0 (List.length x70) 1),V 103 (.fsl 1 (List.map cI a0.Order)),V 104 (iv x71)],[W 0 3 [iv a0.Vars,.fsl 2 (List.map c_S_api_Clause a0.Clauses),.fsl 1 (List.map cI a0.Order)],(1,.rows 1 (List.map cT x70))],2⟩ ?_
   refine jr_part (i:=4) (mo:=ixl a0.Order x71) rfl rfl rfl rfl (fun _ hc=>aop_ixf (c:=cI) (sz:=1) (e:=3) (kk:=.i64) (by kernel_rfl) (by kernel_rfl) (by kernel_rfl) (by kernel_rfl) hc) (fun _=>rfl) ?_
   intro x88 h88
   refine jG 5 4 ⟨[V 1 (pt 0 3),V 6 (.osl 1 0 (List.length x70) 1),V 7 (iv x71),V 101 (.osl 1 0 (List.length x70) 1),V 109 (iv (w64 (x88 + a0.Vars)))],[W 0 3 [iv a0.Vars,.fsl 2 (List.map c_S_api_Clause a0.Clauses),.fsl 1 (List.map cI a0.Order)],(1,.rows 1 (List.map cT x70))],2⟩ ?_
   refine jr_part (i:=9) (mo:=ixl x70 (w64 (x88 + a0.Vars))) rfl rfl rfl rfl (fun _ hc=>aop_ixo0 (sz:=1) (e:=4) (kk:=.i64) (id:=1) (by kernel_rfl) (by kernel_rfl) (by kernel_rfl) (by kernel_rfl) hc) (fun _=>rfl) ?_
   intro x89 h89
   refine jr_sto (i:=10) [1,6,7] [0,1] (st1:=⟨[V 1 (pt 0 3),V 6 (.osl 1 0 (List.length (List.set x70 (Int.toNat (w64 (x88 + a0.Vars))) true)) 1),V 7 (iv x71)],[W 0 3 [iv a0.Vars,.fsl 2 (List.map c_S_api_Clause a0.Clauses),.fsl 1 (List.map cI a0.Order)],(1,.rows 1 (List.map cT (List.set x70 (Int.toNat (w64 (x88 + a0.Vars))) true)))],2⟩) rfl rfl rfl rfl (aop_sto (l:=x70) (c:=cT) (id:=1) (k:=(Int.toNat (w64 (x88 + a0.Vars)))) (sz:=1) (off:=0) (a:=x89) (a':=true) (w:=bv true) (cs:=[bv true]) (by kernel_rfl) (by kernel_rfl) (by kernel_rfl) (by kernel_rfl) (by kernel_rfl) (ixl_lt h89).2.2 (Nat.le_of_ble_eq_true rfl) (by kernel_rfl)) (by simp only[List.length_set]; kernel_rfl) ?_
   refine jr_nil rfl ?_
   refine jx_blkN ?_
   refine jx_seqN ?_
   refine jT ⟨[V 1 (pt 0 3),V 6 (.osl 1 0 (List.length (List.set x70 (Int.toNat (w64 (x88 + a0.Vars))) true)) 1),V 7 (iv (w64 (x71 + 1)))],[W 0 3 [iv a0.Vars,.fsl 2 (List.map c_S_api_Clause a0.Clauses),.fsl 1 (List.map cI a0.Order)],(1,.rows 1 (List.map cT (List.set x70 (Int.toNat (w64 (x88 + a0.Vars))) true)))],2⟩ ?_
   exact jx_next (wkR [(0,some 0),(1,some 1)] (fix_nil _) (pc (hC 0) (pc (hL 1 (noid_map ni_T _)) allp_nil)))
  refine jc_exit ?_
  refine jx_seqE ?_
  exact jx_done rfl nofun (wkR [] (fix_nil _) allp_nil)
 rintro (_ | _)
 ·refine jx_blkR ?_
  refine jx_seqR ?_
  exact jx_retF (.inr rfl) (v:=bv false) (by kernel_rfl) rfl (fle_refl _)
 refine jx_blkE ?_
 refine jx_seqN ?_
 refine jS ⟨[V 2 (bv true)],[],0⟩ ?_
 refine jc_ret ?_
 exact jx_retF (.inr rfl) (v:=bv true) (by kernel_rfl) rfl (fle_refl _))
abbrev slices_Index_int_int_r1:List LO:=[lo 4 (.assign (.const (.int .i64 0))) 3]
abbrev slices_Index_int_int_r2:List LO:=[lm 6 0 23,lo 7 (.call ⟨.builtin .len,#[.tmp 6],#[23]⟩) 3,lo 8 (.move (.const (.int .i64 0))) 3]
abbrev slices_Index_int_int_r3:List LO:=[lo 9 (.binOp .lss 3 (.tmp 8) (.tmp 7) 3) 0]
abbrev slices_Index_int_int_r4:List LO:=[lm 10 8 3,lo 5 (.assign (.tmp 10)) 3]
abbrev slices_Index_int_int_r5:List LO:=[lm 11 1 3,lm 12 0 23,lm 13 5 3,lo 14 (.indexAddr 23 (.tmp 12) (.tmp 13)) 0,lo 15 (.load 3 (.tmp 14)) 3,lo 16 (.binOp .eql 3 (.tmp 11) (.tmp 15) 3) 4]
abbrev slices_Index_int_int_r6:List LO:=[lm 17 5 3,lo 4 (.assign (.tmp 17)) 3]
abbrev slices_Index_int_int_r7:List LO:=[lo 18 (.binOp .add 3 (.tmp 8) (.const (.int .i64 1)) 3) 3,lm 8 18 3]
abbrev slices_Index_int_int_r8:List LO:=[lo 4 (.assign (.const (.int .i64 (-1)))) 3]
abbrev slices_Index_int_int_c:LC:=.seq (.reg false slices_Index_int_int_r1) (.seq (.seq (.reg false slices_Index_int_int_r2) (.block 0 (.loop (.seq (.reg false slices_Index_int_int_r3) (.seq (.cond (.tmp 9) .skip (.exit 0)) (.seq (.block 1 (.seq (.reg false slices_Index_int_int_r4) (.seq (.reg false slices_Index_int_int_r5) (.cond (.tmp 16) (.seq (.reg false slices_Index_int_int_r6) .ret) .skip)))) (.reg false slices_Index_int_int_r7))))))) (.seq (.reg false slices_Index_int_int_r8) .ret))
theorem slices_Index_int_int_k:FnOk E 72 19 [.tmp 4] slices_Index_int_int_c:=⟨⟨Go.Proofs.Tryd.f72,by kernel_rfl,by kernel_rfl,by kernel_rfl,by kernel_rfl,by kernel_rfl⟩,rfl,rfl⟩
noncomputable def slices_Index_int_int_l1 (a0:(List Int)) (a1:Int):Int→Option (Step (Int) ((Int) ⊕ (Unit))):=fun x2=>(if (decide (x2 < (List.length a0:Int)))=true then Option.bind (ixl a0 x2) (fun x6=>(if (a1 == x6)=true then some (Step.done (Sum.inl x2)) else some (Step.next (w64 (x2 + 1))))) else some (Step.done (Sum.inr ())))
noncomputable def slices_Index_int_int (a0:(List Int)) (a1:Int):Option (Int):=Option.bind (loopC (slices_Index_int_int_l1 a0 a1) 0) (fun y=>match y with | Sum.inl x5=>some x5 | Sum.inr _=>some (-1))
theorem slices_Index_int_int_ok (a0:(List Int)) (a1:Int):Ct E 72 [.fsl 1 (List.map cI a0),iv a1] (slices_Index_int_int a0 a1) (fun r:Int=>iv r):=ct_intro (N:=19) (L:=slices_Index_int_int_c) slices_Index_int_int_k rfl (Nat.le_of_ble_eq_true rfl) (by kernel_rfl) (by
 unfold slices_Index_int_int
 refine jS ⟨[V 0 (.fsl 1 (List.map cI a0)),V 1 (iv a1)],[],0⟩ ?_
 refine jc_seq ?_
 refine jR ?_
 refine jG 0 3 ⟨[V 0 (.fsl 1 (List.map cI a0)),V 1 (iv a1),V 7 (iv (List.length (List.map cI a0):Int)),V 8 (iv 0)],[],0⟩ ?_
 simp only[List.length_map]
 refine jN ?_
 refine jc_block ?_
 refine jc_bind (fun y=>match y with | Sum.inl x5=>⟨[V 4 (iv x5)],[],0⟩ | Sum.inr _=>⟨[],[],0⟩) (fun y=>match y with | Sum.inl x5=>.ret | Sum.inr _=>(.exit 0)) (jc_loop (fun x2=>⟨[V 0 (.fsl 1 (List.map cI a0)),V 1 (iv a1),V 7 (iv (List.length a0:Int)),V 8 (iv x2)],[],0⟩) (wkR [] (fix_nil _) allp_nil) ?_) ?_
 ·intro x2
  unfold slices_Index_int_int_l1
  refine jS ⟨[V 0 (.fsl 1 (List.map cI a0)),V 1 (iv a1),V 7 (iv (List.length a0:Int)),V 8 (iv x2),V 9 (bv (decide (x2 < (List.length a0:Int))))],[],0⟩ ?_
  refine jc_seq ?_
  refine jIf ?_ ?_
  ·refine jc_skip ?_
   refine jx_seqN ?_
   refine jc_seq ?_
   refine jc_block ?_
   refine jS ⟨[V 0 (.fsl 1 (List.map cI a0)),V 1 (iv a1),V 5 (iv x2),V 7 (iv (List.length a0:Int)),V 8 (iv x2)],[],0⟩ ?_
   refine jR ?_
   refine jG 0 3 ⟨[V 0 (.fsl 1 (List.map cI a0)),V 1 (iv a1),V 5 (iv x2),V 7 (iv (List.length a0:Int)),V 8 (iv x2),V 11 (iv a1),V 12 (.fsl 1 (List.map cI a0)),V 13 (iv x2)],[],0⟩ ?_
   refine jr_part (i:=3) (mo:=ixl a0 x2) rfl rfl rfl rfl (fun _ hc=>aop_ixf (c:=cI) (sz:=1) (e:=3) (kk:=.i64) (by kernel_rfl) (by kernel_rfl) (by kernel_rfl) (by kernel_rfl) hc) (fun _=>rfl) ?_
   intro x6 h6
   refine jG 4 2 ⟨[V 0 (.fsl 1 (List.map cI a0)),V 1 (iv a1),V 5 (iv x2),V 7 (iv (List.length a0:Int)),V 8 (iv x2),V 16 (bv (a1 == x6))],[],0⟩ ?_
   refine jN ?_
   refine jIf ?_ ?_
   ·refine jS ⟨[V 4 (iv x2)],[],0⟩ ?_
    refine jc_ret ?_
    refine jx_blkR ?_
    refine jx_seqR ?_
    exact jx_done rfl nofun (wkR [] (fix_nil _) allp_nil)
   refine jc_skip ?_
   refine jx_blkN ?_
   refine jx_seqN ?_
   refine jT ⟨[V 0 (.fsl 1 (List.map cI a0)),V 1 (iv a1),V 7 (iv (List.length a0:Int)),V 8 (iv (w64 (x2 + 1)))],[],0⟩ ?_
   exact jx_next (wkR [] (fix_nil _) allp_nil)
  refine jc_exit ?_
  refine jx_seqE ?_
  exact jx_done rfl nofun (wkR [] (fix_nil _) allp_nil)
 rintro (x5 | _)
 ·refine jx_blkR ?_
  refine jx_seqR ?_
  exact jx_retF (.inr rfl) (v:=iv x5) (by kernel_rfl) rfl (fle_refl _)
 refine jx_blkE ?_
 refine jx_seqN ?_
 refine jS ⟨[V 4 (iv (-1))],[],0⟩ ?_
 refine jc_ret ?_
 exact jx_retF (.inr rfl) (v:=iv (-1)) (by kernel_rfl) rfl (fle_refl _))
abbrev slices_Contains_int_int_r1:List LO:=[lo 4 (.assign (.const (.bool false))) 4]
abbrev slices_Contains_int_int_r2:List LO:=[lm 5 0 23,lm 6 1 3,lo 7 (.call ⟨.value (.func 72),#[.tmp 5,.tmp 6],#[23,3]⟩) 3,lo 8 (.binOp .geq 3 (.tmp 7) (.const (.int .i64 0)) 3) 4,lo 4 (.assign (.tmp 8)) 4]
abbrev slices_Contains_int_int_c:LC:=.seq (.reg false slices_Contains_int_int_r1) (.seq (.reg false slices_Contains_int_int_r2) .ret)
theorem slices_Contains_int_int_k:FnOk E 39 9 [.tmp 4] slices_Contains_int_int_c:=⟨⟨Go.Proofs.Tryd.f39,by kernel_rfl,by kernel_rfl,by kernel_rfl,by kernel_rfl,by kernel_rfl⟩,rfl,rfl⟩
noncomputable def slices_Contains_int_int (a0:(List Int)) (a1:Int):Option (Bool):=Option.bind (slices_Index_int_int a0 a1) (fun x1=>some (decide (x1≥0)))
theorem slices_Contains_int_int_ok (a0:(List Int)) (a1:Int):Ct E 39 [.fsl 1 (List.map cI a0),iv a1] (slices_Contains_int_int a0 a1) (fun r:Bool=>bv r):=ct_intro (N:=9) (L:=slices_Contains_int_int_c) slices_Contains_int_int_k rfl (Nat.le_of_ble_eq_true rfl) (by kernel_rfl) (by
 unfold slices_Contains_int_int
 refine jS ⟨[V 0 (.fsl 1 (List.map cI a0)),V 1 (iv a1)],[],0⟩ ?_
 refine jR ?_
 refine jG 0 2 ⟨[V 5 (.fsl 1 (List.map cI a0)),V 6 (iv a1)],[],0⟩ ?_
 refine jK 2 (slices_Index_int_int_ok a0 a1) ?_
 intro x1 h1
 refine jG 3 2 ⟨[V 4 (bv (decide (x1≥0)))],[],0⟩ ?_
 refine jN ?_
 refine jc_ret ?_
 exact jx_retF (.inr rfl) (v:=bv (decide (x1≥0))) (by kernel_rfl) rfl (fle_refl _))
abbrev cnf_True_1_s9024_r1:List LO:=[lo 3 (.assign (.const (.bool false))) 4]
abbrev cnf_True_1_s9024_r2:List LO:=[lo 4 (.load 23 (.tmp 1)) 23,lm 5 0 3,lo 6 (.call ⟨.value (.func 39),#[.tmp 4,.tmp 5],#[23,3]⟩) 4,lo 3 (.assign (.tmp 6)) 4]
abbrev cnf_True_1_s9024_c:LC:=.seq (.reg false cnf_True_1_s9024_r1) (.seq (.reg false cnf_True_1_s9024_r2) .ret)
theorem cnf_True_1_s9024_k:FnOk E 38 7 [.tmp 3] cnf_True_1_s9024_c:=⟨⟨Go.Proofs.Tryd.f38,by kernel_rfl,by kernel_rfl,by kernel_rfl,by kernel_rfl,by kernel_rfl⟩,rfl,rfl⟩
noncomputable def cnf_True_1_s9024 (a0:Int) (a1:List Int):Option (Bool):=Option.bind (slices_Contains_int_int a1 a0) (fun x1=>some x1)
theorem cnf_True_1_s9024_ok (a0:Int) (a1:List Int):Ct E 38 [iv a0,.fptr [.fsl 1 (List.map cI a1)] 0] (cnf_True_1_s9024 a0 a1) (fun r:Bool=>bv r):=ct_intro (N:=7) (L:=cnf_True_1_s9024_c) cnf_True_1_s9024_k rfl (Nat.le_of_ble_eq_true rfl) (by kernel_rfl) (by
 unfold cnf_True_1_s9024
 refine jS ⟨[V 0 (iv a0),V 1 (.fptr [.fsl 1 (List.map cI a1)] 0)],[],0⟩ ?_
 refine jR ?_
 refine jG 0 2 ⟨[V 4 (.fsl 1 (List.map cI a1)),V 5 (iv a0)],[],0⟩ ?_
 refine jK 2 (slices_Contains_int_int_ok a1 a0) ?_
 intro x1 h1
 refine jG 3 1 ⟨[V 3 (bv x1)],[],0⟩ ?_
 refine jN ?_
 refine jc_ret ?_
 exact jx_retF (.inr rfl) (v:=bv x1) (by kernel_rfl) rfl (fle_refl _))
abbrev slices_IndexFunc_int_int_sef3f_r1:List LO:=[lo 4 (.assign (.const (.int .i64 0))) 3]
abbrev slices_IndexFunc_int_int_sef3f_r2:List LO:=[lm 6 0 23,lo 7 (.call ⟨.builtin .len,#[.tmp 6],#[23]⟩) 3,lo 8 (.move (.const (.int .i64 0))) 3]
abbrev slices_IndexFunc_int_int_sef3f_r3:List LO:=[lo 9 (.binOp .lss 3 (.tmp 8) (.tmp 7) 3) 0]
abbrev slices_IndexFunc_int_int_sef3f_r4:List LO:=[lm 10 8 3,lo 5 (.assign (.tmp 10)) 3]
abbrev slices_IndexFunc_int_int_sef3f_r5:List LO:=[lm 11 1 65,lm 12 0 23,lm 13 5 3,lo 14 (.indexAddr 23 (.tmp 12) (.tmp 13)) 0,lo 15 (.load 3 (.tmp 14)) 3,lo 16 (.call ⟨.value (.tmp 11),#[.tmp 15],#[3]⟩) 4]
abbrev slices_IndexFunc_int_int_sef3f_r6:List LO:=[lm 17 5 3,lo 4 (.assign (.tmp 17)) 3]
abbrev slices_IndexFunc_int_int_sef3f_r7:List LO:=[lo 18 (.binOp .add 3 (.tmp 8) (.const (.int .i64 1)) 3) 3,lm 8 18 3]
abbrev slices_IndexFunc_int_int_sef3f_r8:List LO:=[lo 4 (.assign (.const (.int .i64 (-1)))) 3]
abbrev slices_IndexFunc_int_int_sef3f_c:LC:=.seq (.reg false slices_IndexFunc_int_int_sef3f_r1) (.seq (.seq (.reg false slices_IndexFunc_int_int_sef3f_r2) (.block 0 (.loop (.seq (.reg false slices_IndexFunc_int_int_sef3f_r3) (.seq (.cond (.tmp 9) .skip (.exit 0)) (.seq (.block 1 (.seq (.reg false slices_IndexFunc_int_int_sef3f_r4) (.seq (.reg false slices_IndexFunc_int_int_sef3f_r5) (.cond (.tmp 16) (.seq (.reg false slices_IndexFunc_int_int_sef3f_r6) .ret) .skip)))) (.reg false slices_IndexFunc_int_int_sef3f_r7))))))) (.seq (.reg false slices_IndexFunc_int_int_sef3f_r8) .ret))
theorem slices_IndexFunc_int_int_sef3f_k:FnOk E 71 19 [.tmp 4] slices_IndexFunc_int_int_sef3f_c:=⟨⟨Go.Proofs.Tryd.f71,by kernel_rfl,by kernel_rfl,by kernel_rfl,by kernel_rfl,by kernel_rfl⟩,rfl,rfl⟩
noncomputable def slices_IndexFunc_int_int_sef3f_l1 (a0:(List Int)) (a1:List Int):Int→Option (Step (Int) ((Int) ⊕ (Unit))):=fun x3=>(if (decide (x3 < (List.length a0:Int)))=true then Option.bind (ixl a0 x3) (fun x8=>Option.bind (cnf_True_1_s9024 x8 a1) (fun x9=>(if x9=true then some (Step.done (Sum.inl x3)) else some (Step.next (w64 (x3 + 1)))))) else some (Step.done (Sum.inr ())))
noncomputable def slices_IndexFunc_int_int_sef3f (a0:(List Int)) (a1:List Int):Option (Int):=Option.bind (loopC (slices_IndexFunc_int_int_sef3f_l1 a0 a1) 0) (fun y=>match y with | Sum.inl x7=>some x7 | Sum.inr _=>some (-1))
theorem slices_IndexFunc_int_int_sef3f_ok (a0:(List Int)) (a1:List Int):Ct E 71 [.fsl 1 (List.map cI a0),.fn 38 [.fptr [.fsl 1 (List.map cI a1)] 0]] (slices_IndexFunc_int_int_sef3f a0 a1) (fun r:Int=>iv r):=ct_intro (N:=19) (L:=slices_IndexFunc_int_int_sef3f_c) slices_IndexFunc_int_int_sef3f_k rfl (Nat.le_of_ble_eq_true rfl) (by kernel_rfl) (by
 unfold slices_IndexFunc_int_int_sef3f
 refine jS ⟨[V 0 (.fsl 1 (List.map cI a0)),V 1 (.fn 38 [.fptr [.fsl 1 (List.map cI a1)] 0])],[],0⟩ ?_
 refine jc_seq ?_
 refine jR ?_
 refine jG 0 3 ⟨[V 0 (.fsl 1 (List.map cI a0)),V 1 (.fn 38 [.fptr [.fsl 1 (List.map cI a1)] 0]),V 7 (iv (List.length (List.map cI a0):Int)),V 8 (iv 0)],[],0⟩ ?_
 simp only[List.length_map]
 refine jN ?_
 refine jc_block ?_
 refine jc_bind (fun y=>match y with | Sum.inl x7=>⟨[V 4 (iv x7)],[],0⟩ | Sum.inr _=>⟨[],[],0⟩) (fun y=>match y with | Sum.inl x7=>.ret | Sum.inr _=>(.exit 0)) (jc_loop (fun x3=>⟨[V 0 (.fsl 1 (List.map cI a0)),V 1 (.fn 38 [.fptr [.fsl 1 (List.map cI a1)] 0]),V 7 (iv (List.length a0:Int)),V 8 (iv x3)],[],0⟩) (wkR [] (fix_nil _) allp_nil) ?_) ?_
 ·intro x3
  unfold slices_IndexFunc_int_int_sef3f_l1
  refine jS ⟨[V 0 (.fsl 1 (List.map cI a0)),V 1 (.fn 38 [.fptr [.fsl 1 (List.map cI a1)] 0]),V 7 (iv (List.length a0:Int)),V 8 (iv x3),V 9 (bv (decide (x3 < (List.length a0:Int))))],[],0⟩ ?_
  refine jc_seq ?_
  refine jIf ?_ ?_
  ·refine jc_skip ?_
   refine jx_seqN ?_
   refine jc_seq ?_
   refine jc_block ?_
   refine jS ⟨[V 0 (.fsl 1 (List.map cI a0)),V 1 (.fn 38 [.fptr [.fsl 1 (List.map cI a1)] 0]),V 5 (iv x3),V 7 (iv (List.length a0:Int)),V 8 (iv x3)],[],0⟩ ?_
   refine jR ?_
   refine jG 0 3 ⟨[V 0 (.fsl 1 (List.map cI a0)),V 1 (.fn 38 [.fptr [.fsl 1 (List.map cI a1)] 0]),V 5 (iv x3),V 7 (iv (List.length a0:Int)),V 8 (iv x3),V 11 (.fn 38 [.fptr [.fsl 1 (List.map cI a1)] 0]),V 12 (.fsl 1 (List.map cI a0)),V 13 (iv x3)],[],0⟩ ?_
   refine jr_part (i:=3) (mo:=ixl a0 x3) rfl rfl rfl rfl (fun _ hc=>aop_ixf (c:=cI) (sz:=1) (e:=3) (kk:=.i64) (by kernel_rfl) (by kernel_rfl) (by kernel_rfl) (by kernel_rfl) hc) (fun _=>rfl) ?_
   intro x8 h8
   refine jG 4 1 ⟨[V 0 (.fsl 1 (List.map cI a0)),V 1 (.fn 38 [.fptr [.fsl 1 (List.map cI a1)] 0]),V 5 (iv x3),V 7 (iv (List.length a0:Int)),V 8 (iv x3),V 11 (.fn 38 [.fptr [.fsl 1 (List.map cI a1)] 0]),V 15 (iv x8)],[],0⟩ ?_
   refine jr_callV (i:=5) rfl rfl rfl rfl (g:=38) (caps:=[.fptr [.fsl 1 (List.map cI a1)] 0]) (avs:=[iv x8]) (vs:=[iv x8,.fptr [.fsl 1 (List.map cI a1)] 0]) (by kernel_rfl) (by kernel_rfl) rfl (snapL_cons rfl (snapL_cons rfl (snapL_nil _))) (all2_cons (fle_refl _) (all2_cons (fle_refl _) all2_nil)) (cnf_True_1_s9024_ok x8 a1) (fun _=>rfl) (fun _=>rfl) ?_
   intro x9 h9
   refine jN ?_
   refine jIf ?_ ?_
   ·refine jS ⟨[V 4 (iv x3)],[],0⟩ ?_
    refine jc_ret ?_
    refine jx_blkR ?_
    refine jx_seqR ?_
    exact jx_done rfl nofun (wkR [] (fix_nil _) allp_nil)
   refine jc_skip ?_
   refine jx_blkN ?_
   refine jx_seqN ?_
   refine jT ⟨[V 0 (.fsl 1 (List.map cI a0)),V 1 (.fn 38 [.fptr [.fsl 1 (List.map cI a1)] 0]),V 7 (iv (List.length a0:Int)),V 8 (iv (w64 (x3 + 1)))],[],0⟩ ?_
   exact jx_next (wkR [] (fix_nil _) allp_nil)
  refine jc_exit ?_
  refine jx_seqE ?_
  exact jx_done rfl nofun (wkR [] (fix_nil _) allp_nil)
 rintro (x7 | _)
 ·refine jx_blkR ?_
  refine jx_seqR ?_
  exact jx_retF (.inr rfl) (v:=iv x7) (by kernel_rfl) rfl (fle_refl _)
 refine jx_blkE ?_
 refine jx_seqN ?_
 refine jS ⟨[V 4 (iv (-1))],[],0⟩ ?_
 refine jc_ret ?_
 exact jx_retF (.inr rfl) (v:=iv (-1)) (by kernel_rfl) rfl (fle_refl _))
abbrev slices_ContainsFunc_int_int_sef3f_r1:List LO:=[lo 4 (.assign (.const (.bool false))) 4]
abbrev slices_ContainsFunc_int_int_sef3f_r2:List LO:=[lm 5 0 23,lm 6 1 65,lo 7 (.call ⟨.value (.func 71),#[.tmp 5,.tmp 6],#[23,65]⟩) 3,lo 8 (.binOp .geq 3 (.tmp 7) (.const (.int .i64 0)) 3) 4,lo 4 (.assign (.tmp 8)) 4]
abbrev slices_ContainsFunc_int_int_sef3f_c:LC:=.seq (.reg false slices_ContainsFunc_int_int_sef3f_r1) (.seq (.reg false slices_ContainsFunc_int_int_sef3f_r2) .ret)
theorem slices_ContainsFunc_int_int_sef3f_k:FnOk E 37 9 [.tmp 4] slices_ContainsFunc_int_int_sef3f_c:=⟨⟨Go.Proofs.Tryd.f37,by kernel_rfl,by kernel_rfl,by kernel_rfl,by kernel_rfl,by kernel_rfl⟩,rfl,rfl⟩
noncomputable def slices_ContainsFunc_int_int_sef3f (a0:(List Int)) (a1:List Int):Option (Bool):=Option.bind (slices_IndexFunc_int_int_sef3f a0 a1) (fun x1=>some (decide (x1≥0)))
theorem slices_ContainsFunc_int_int_sef3f_ok (a0:(List Int)) (a1:List Int):Ct E 37 [.fsl 1 (List.map cI a0),.fn 38 [.fptr [.fsl 1 (List.map cI a1)] 0]] (slices_ContainsFunc_int_int_sef3f a0 a1) (fun r:Bool=>bv r):=ct_intro (N:=9) (L:=slices_ContainsFunc_int_int_sef3f_c) slices_ContainsFunc_int_int_sef3f_k rfl (Nat.le_of_ble_eq_true rfl) (by kernel_rfl) (by
 unfold slices_ContainsFunc_int_int_sef3f
 refine jS ⟨[V 0 (.fsl 1 (List.map cI a0)),V 1 (.fn 38 [.fptr [.fsl 1 (List.map cI a1)] 0])],[],0⟩ ?_
 refine jR ?_
 refine jG 0 2 ⟨[V 5 (.fsl 1 (List.map cI a0)),V 6 (.fn 38 [.fptr [.fsl 1 (List.map cI a1)] 0])],[],0⟩ ?_
 refine jK 2 (slices_IndexFunc_int_int_sef3f_ok a0 a1) ?_
 intro x1 h1
 refine jG 3 2 ⟨[V 4 (bv (decide (x1≥0)))],[],0⟩ ?_
 refine jN ?_
 refine jc_ret ?_
 exact jx_retF (.inr rfl) (v:=bv (decide (x1≥0))) (by kernel_rfl) rfl (fle_refl _))
abbrev cnf_True_r1:List LO:=[lo 3 (.box 23 (.tmp 1)) 0,lo 4 (.assign (.const (.bool false))) 4]
abbrev cnf_True_r2:List LO:=[lm 5 0 23,lo 6 (.makeFunc (Fn.func 38) #[] #[.tmp 3]) 65,lo 7 (.call ⟨.value (.func 37),#[.tmp 5,.tmp 6],#[23,65]⟩) 4,lo 4 (.assign (.tmp 7)) 4]
abbrev cnf_True_c:LC:=.seq (.reg false cnf_True_r1) (.seq (.reg false cnf_True_r2) .ret)
theorem cnf_True_k:FnOk E 12 8 [.tmp 4] cnf_True_c:=⟨⟨Go.Proofs.Tryd.f12,by kernel_rfl,by kernel_rfl,by kernel_rfl,by kernel_rfl,by kernel_rfl⟩,rfl,rfl⟩
noncomputable def cnf_True (a0:(List Int)) (a1:(List Int)):Option (Bool):=Option.bind (slices_ContainsFunc_int_int_sef3f a0 a1) (fun x1=>some x1)
theorem cnf_True_ok (a0:(List Int)) (a1:(List Int)):Ct E 12 [.fsl 1 (List.map cI a0),.fsl 1 (List.map cI a1)] (cnf_True a0 a1) (fun r:Bool=>bv r):=ct_intro (N:=8) (L:=cnf_True_c) cnf_True_k rfl (Nat.le_of_ble_eq_true rfl) (by kernel_rfl) (by
 unfold cnf_True
 refine jS ⟨[V 0 (.fsl 1 (List.map cI a0)),V 3 (pt 0 1)],[W 0 1 [.fsl 1 (List.map cI a1)]],1⟩ ?_
 refine jR ?_
 refine jG 0 2 ⟨[V 5 (.fsl 1 (List.map cI a0)),V 6 (.fn 38 [pt 0 1])],[W 0 1 [.fsl 1 (List.map cI a1)]],1⟩ ?_
 refine jr_callF (i:=2) rfl rfl rfl rfl (vs:=[.fsl 1 (List.map cI a0),.fn 38 [pt 0 1]]) (vs0:=[.fsl 1 (List.map cI a0),.fn 38 [.fptr [.fsl 1 (List.map cI a1)] 0]]) (b:=true) (by kernel_rfl) (by kernel_rfl) (all2_cons (fle_refl _) (all2_cons (fle_refl _) all2_nil)) (slices_ContainsFunc_int_int_sef3f_ok a0 a1) (fun _=>rfl) (fun _=>rfl) ?_
 intro x1 h1
 refine jG 3 1 ⟨[V 4 (bv x1)],[],1⟩ ?_
 refine jN ?_
 refine jc_ret ?_
 exact jx_retF (.inr rfl) (v:=bv x1) (by kernel_rfl) rfl (fle_refl _))
abbrev ref24_Ints_r1:List LO:=[lo 4 (.assign (.const (.bool false))) 4]
abbrev ref24_Ints_r2:List LO:=[lm 6 0 23,lo 7 (.call ⟨.builtin .len,#[.tmp 6],#[23]⟩) 3,lm 8 1 23,lo 9 (.call ⟨.builtin .len,#[.tmp 8],#[23]⟩) 3,lo 10 (.binOp .neq 3 (.tmp 7) (.tmp 9) 3) 4]
abbrev ref24_Ints_r3:List LO:=[lo 4 (.assign (.const (.bool false))) 4]
abbrev ref24_Ints_r4:List LO:=[lo 5 (.assign (.const (.int .i64 0))) 3]
abbrev ref24_Ints_r5:List LO:=[lm 11 5 3,lm 12 0 23,lo 13 (.call ⟨.builtin .len,#[.tmp 12],#[23]⟩) 3,lo 14 (.binOp .lss 3 (.tmp 11) (.tmp 13) 3) 4]
abbrev ref24_Ints_r6:List LO:=[lm 17 0 23,lm 18 5 3,lo 19 (.indexAddr 23 (.tmp 17) (.tmp 18)) 0,lo 20 (.load 3 (.tmp 19)) 3,lm 21 1 23,lm 22 5 3,lo 23 (.indexAddr 23 (.tmp 21) (.tmp 22)) 0,lo 24 (.load 3 (.tmp 23)) 3,lo 25 (.binOp .neq 3 (.tmp 20) (.tmp 24) 3) 4]
abbrev ref24_Ints_r7:List LO:=[lo 4 (.assign (.const (.bool false))) 4]
abbrev ref24_Ints_r8:List LO:=[lm 15 5 3,lo 16 (.binOp .add 3 (.tmp 15) (.const (.int .i64 1)) 3) 3,lo 5 (.assign (.tmp 16)) 3]
abbrev ref24_Ints_r9:List LO:=[lo 4 (.assign (.const (.bool true))) 4]
abbrev ref24_Ints_c:LC:=.seq (.reg false ref24_Ints_r1) (.seq (.seq (.reg false ref24_Ints_r2) (.cond (.tmp 10) (.seq (.reg false ref24_Ints_r3) .ret) .skip)) (.seq (.seq (.reg false ref24_Ints_r4) (.block 0 (.loop (.seq (.seq (.reg false ref24_Ints_r5) (.cond (.tmp 14) .skip (.exit 0))) (.seq (.block 1 (.seq (.reg true ref24_Ints_r6) (.cond (.tmp 25) (.seq (.reg false ref24_Ints_r7) .ret) .skip))) (.reg false ref24_Ints_r8)))))) (.seq (.reg false ref24_Ints_r9) .ret)))
theorem ref24_Ints_k:FnOk E 11 26 [.tmp 4] ref24_Ints_c:=⟨⟨Go.Proofs.Tryd.f11,by kernel_rfl,by kernel_rfl,by kernel_rfl,by kernel_rfl,by kernel_rfl⟩,rfl,rfl⟩
noncomputable def ref24_Ints_l1 (a0:(List Int)) (a1:(List Int)):Int→Option (Step (Int) ((Unit) ⊕ (Unit))):=fun x3=>(if (decide (x3 < (List.length a0:Int)))=true then Option.bind (ixl a0 x3) (fun x7=>Option.bind (ixl a1 x3) (fun x8=>(if (x7 != x8)=true then some (Step.done (Sum.inl ())) else some (Step.next (w64 (x3 + 1)))))) else some (Step.done (Sum.inr ())))
noncomputable def ref24_Ints (a0:(List Int)) (a1:(List Int)):Option (Bool):=(if ((List.length a0:Int) != (List.length a1:Int))=true then some false else Option.bind (loopC (ref24_Ints_l1 a0 a1) 0) (fun y=>match y with | Sum.inl _=>some false | Sum.inr _=>some true))
theorem ref24_Ints_ok (a0:(List Int)) (a1:(List Int)):Ct E 11 [.fsl 1 (List.map cI a0),.fsl 1 (List.map cI a1)] (ref24_Ints a0 a1) (fun r:Bool=>bv r):=ct_intro (N:=26) (L:=ref24_Ints_c) ref24_Ints_k rfl (Nat.le_of_ble_eq_true rfl) (by kernel_rfl) (by
 unfold ref24_Ints
 refine jS ⟨[V 0 (.fsl 1 (List.map cI a0)),V 1 (.fsl 1 (List.map cI a1))],[],0⟩ ?_
 refine jc_seq ?_
 refine jR ?_
 refine jG 0 5 ⟨[V 0 (.fsl 1 (List.map cI a0)),V 1 (.fsl 1 (List.map cI a1)),V 10 (bv ((List.length (List.map cI a0):Int) != (List.length (List.map cI a1):Int)))],[],0⟩ ?_
 simp only[List.length_map]
 refine jN ?_
 refine jIf ?_ ?_
 ·refine jS ⟨[V 4 (bv false)],[],0⟩ ?_
  refine jc_ret ?_
  refine jx_seqR ?_
  exact jx_retF (.inr rfl) (v:=bv false) (by kernel_rfl) rfl (fle_refl _)
 refine jc_skip ?_
 refine jx_seqN ?_
 refine jc_seq ?_
 refine jS ⟨[V 0 (.fsl 1 (List.map cI a0)),V 1 (.fsl 1 (List.map cI a1)),V 5 (iv 0)],[],0⟩ ?_
 refine jc_block ?_
 refine jc_bind (fun y=>match y with | Sum.inl _=>⟨[V 4 (bv false)],[],0⟩ | Sum.inr _=>⟨[],[],0⟩) (fun y=>match y with | Sum.inl _=>.ret | Sum.inr _=>(.exit 0)) (jc_loop (fun x3=>⟨[V 0 (.fsl 1 (List.map cI a0)),V 1 (.fsl 1 (List.map cI a1)),V 5 (iv x3)],[],0⟩) (wkR [] (fix_nil _) allp_nil) ?_) ?_
 ·intro x3
  unfold ref24_Ints_l1
  refine jc_seq ?_
  refine jR ?_
  refine jG 0 4 ⟨[V 0 (.fsl 1 (List.map cI a0)),V 1 (.fsl 1 (List.map cI a1)),V 5 (iv x3),V 14 (bv (decide (x3 < (List.length (List.map cI a0):Int))))],[],0⟩ ?_
  simp only[List.length_map]
  refine jN ?_
  refine jIf ?_ ?_
  ·refine jc_skip ?_
   refine jx_seqN ?_
   refine jc_seq ?_
   refine jc_block ?_
   refine jR ?_
   refine jG 0 2 ⟨[V 0 (.fsl 1 (List.map cI a0)),V 1 (.fsl 1 (List.map cI a1)),V 5 (iv x3),V 17 (.fsl 1 (List.map cI a0)),V 18 (iv x3)],[],0⟩ ?_
   refine jr_part (i:=2) (mo:=ixl a0 x3) rfl rfl rfl rfl (fun _ hc=>aop_ixf (c:=cI) (sz:=1) (e:=3) (kk:=.i64) (by kernel_rfl) (by kernel_rfl) (by kernel_rfl) (by kernel_rfl) hc) (fun _=>rfl) ?_
   intro x7 h7
   refine jG 3 3 ⟨[V 0 (.fsl 1 (List.map cI a0)),V 1 (.fsl 1 (List.map cI a1)),V 5 (iv x3),V 20 (iv x7),V 21 (.fsl 1 (List.map cI a1)),V 22 (iv x3)],[],0⟩ ?_
   refine jr_part (i:=6) (mo:=ixl a1 x3) rfl rfl rfl rfl (fun _ hc=>aop_ixf (c:=cI) (sz:=1) (e:=3) (kk:=.i64) (by kernel_rfl) (by kernel_rfl) (by kernel_rfl) (by kernel_rfl) hc) (fun _=>rfl) ?_
   intro x8 h8
   refine jG 7 2 ⟨[V 0 (.fsl 1 (List.map cI a0)),V 1 (.fsl 1 (List.map cI a1)),V 5 (iv x3),V 25 (bv (x7 != x8))],[],0⟩ ?_
   refine jN ?_
   refine jIf ?_ ?_
   ·refine jS ⟨[V 4 (bv false)],[],0⟩ ?_
    refine jc_ret ?_
    refine jx_blkR ?_
    refine jx_seqR ?_
    exact jx_done rfl nofun (wkR [] (fix_nil _) allp_nil)
   refine jc_skip ?_
   refine jx_blkN ?_
   refine jx_seqN ?_
   refine jT ⟨[V 0 (.fsl 1 (List.map cI a0)),V 1 (.fsl 1 (List.map cI a1)),V 5 (iv (w64 (x3 + 1)))],[],0⟩ ?_
   exact jx_next (wkR [] (fix_nil _) allp_nil)
  refine jc_exit ?_
  refine jx_seqE ?_
  exact jx_done rfl nofun (wkR [] (fix_nil _) allp_nil)
 rintro (_ | _)
 ·refine jx_blkR ?_
  refine jx_seqR ?_
  exact jx_retF (.inr rfl) (v:=bv false) (by kernel_rfl) rfl (fle_refl _)
 refine jx_blkE ?_
 refine jx_seqN ?_
 refine jS ⟨[V 4 (bv true)],[],0⟩ ?_
 refine jc_ret ?_
 exact jx_retF (.inr rfl) (v:=bv true) (by kernel_rfl) rfl (fle_refl _))
abbrev ref24_has_r1:List LO:=[lo 4 (.assign (.const (.bool false))) 4]
abbrev ref24_has_r2:List LO:=[lo 5 (.assign (.const (.int .i64 0))) 3]
abbrev ref24_has_r3:List LO:=[lm 6 5 3,lm 7 0 23,lo 8 (.call ⟨.builtin .len,#[.tmp 7],#[23]⟩) 3,lo 9 (.binOp .lss 3 (.tmp 6) (.tmp 8) 3) 4]
abbrev ref24_has_r4:List LO:=[lm 12 0 23,lm 13 5 3,lo 14 (.indexAddr 23 (.tmp 12) (.tmp 13)) 0,lo 15 (.load 3 (.tmp 14)) 3,lm 16 1 3,lo 17 (.binOp .eql 3 (.tmp 15) (.tmp 16) 3) 4]
abbrev ref24_has_r5:List LO:=[lo 4 (.assign (.const (.bool true))) 4]
abbrev ref24_has_r6:List LO:=[lm 10 5 3,lo 11 (.binOp .add 3 (.tmp 10) (.const (.int .i64 1)) 3) 3,lo 5 (.assign (.tmp 11)) 3]
abbrev ref24_has_r7:List LO:=[lo 4 (.assign (.const (.bool false))) 4]
abbrev ref24_has_c:LC:=.seq (.reg false ref24_has_r1) (.seq (.seq (.reg false ref24_has_r2) (.block 0 (.loop (.seq (.seq (.reg false ref24_has_r3) (.cond (.tmp 9) .skip (.exit 0))) (.seq (.block 1 (.seq (.reg false ref24_has_r4) (.cond (.tmp 17) (.seq (.reg false ref24_has_r5) .ret) .skip))) (.reg false ref24_has_r6)))))) (.seq (.reg false ref24_has_r7) .ret))
theorem ref24_has_k:FnOk E 40 18 [.tmp 4] ref24_has_c:=⟨⟨Go.Proofs.Tryd.f40,by kernel_rfl,by kernel_rfl,by kernel_rfl,by kernel_rfl,by kernel_rfl⟩,rfl,rfl⟩
noncomputable def ref24_has_l1 (a0:(List Int)) (a1:Int):Int→Option (Step (Int) ((Unit) ⊕ (Unit))):=fun x2=>(if (decide (x2 < (List.length a0:Int)))=true then Option.bind (ixl a0 x2) (fun x5=>(if (x5 == a1)=true then some (Step.done (Sum.inl ())) else some (Step.next (w64 (x2 + 1))))) else some (Step.done (Sum.inr ())))
noncomputable def ref24_has (a0:(List Int)) (a1:Int):Option (Bool):=Option.bind (loopC (ref24_has_l1 a0 a1) 0) (fun y=>match y with | Sum.inl _=>some true | Sum.inr _=>some false)
theorem ref24_has_ok (a0:(List Int)) (a1:Int):Ct E 40 [.fsl 1 (List.map cI a0),iv a1] (ref24_has a0 a1) (fun r:Bool=>bv r):=ct_intro (N:=18) (L:=ref24_has_c) ref24_has_k rfl (Nat.le_of_ble_eq_true rfl) (by kernel_rfl) (by
 unfold ref24_has
 refine jS ⟨[V 0 (.fsl 1 (List.map cI a0)),V 1 (iv a1)],[],0⟩ ?_
 refine jc_seq ?_
 refine jS ⟨[V 0 (.fsl 1 (List.map cI a0)),V 1 (iv a1),V 5 (iv 0)],[],0⟩ ?_
 refine jc_block ?_
 refine jc_bind (fun y=>match y with | Sum.inl _=>⟨[V 4 (bv true)],[],0⟩ | Sum.inr _=>⟨[],[],0⟩) (fun y=>match y with | Sum.inl _=>.ret | Sum.inr _=>(.exit 0)) (jc_loop (fun x2=>⟨[V 0 (.fsl 1 (List.map cI a0)),V 1 (iv a1),V 5 (iv x2)],[],0⟩) (wkR [] (fix_nil _) allp_nil) ?_) ?_
 ·intro x2
  unfold ref24_has_l1
  refine jc_seq ?_
  refine jR ?_
  refine jG 0 4 ⟨[V 0 (.fsl 1 (List.map cI a0)),V 1 (iv a1),V 5 (iv x2),V 9 (bv (decide (x2 < (List.length (List.map cI a0):Int))))],[],0⟩ ?_
  simp only[List.length_map]
  refine jN ?_
  refine jIf ?_ ?_
  ·refine jc_skip ?_
   refine jx_seqN ?_
   refine jc_seq ?_
   refine jc_block ?_
   refine jR ?_
   refine jG 0 2 ⟨[V 0 (.fsl 1 (List.map cI a0)),V 1 (iv a1),V 5 (iv x2),V 12 (.fsl 1 (List.map cI a0)),V 13 (iv x2)],[],0⟩ ?_
   refine jr_part (i:=2) (mo:=ixl a0 x2) rfl rfl rfl rfl (fun _ hc=>aop_ixf (c:=cI) (sz:=1) (e:=3) (kk:=.i64) (by kernel_rfl) (by kernel_rfl) (by kernel_rfl) (by kernel_rfl) hc) (fun _=>rfl) ?_
   intro x5 h5
   refine jG 3 3 ⟨[V 0 (.fsl 1 (List.map cI a0)),V 1 (iv a1),V 5 (iv x2),V 17 (bv (x5 == a1))],[],0⟩ ?_
   refine jN ?_
   refine jIf ?_ ?_
   ·refine jS ⟨[V 4 (bv true)],[],0⟩ ?_
    refine jc_ret ?_
    refine jx_blkR ?_
    refine jx_seqR ?_
    exact jx_done rfl nofun (wkR [] (fix_nil _) allp_nil)
   refine jc_skip ?_
   refine jx_blkN ?_
   refine jx_seqN ?_
   refine jT ⟨[V 0 (.fsl 1 (List.map cI a0)),V 1 (iv a1),V 5 (iv (w64 (x2 + 1)))],[],0⟩ ?_
   exact jx_next (wkR [] (fix_nil _) allp_nil)
  refine jc_exit ?_
  refine jx_seqE ?_
  exact jx_done rfl nofun (wkR [] (fix_nil _) allp_nil)
 rintro (_ | _)
 ·refine jx_blkR ?_
  refine jx_seqR ?_
  exact jx_retF (.inr rfl) (v:=bv true) (by kernel_rfl) rfl (fle_refl _)
 refine jx_blkE ?_
 refine jx_seqN ?_
 refine jS ⟨[V 4 (bv false)],[],0⟩ ?_
 refine jc_ret ?_
 exact jx_retF (.inr rfl) (v:=bv false) (by kernel_rfl) rfl (fle_refl _))
abbrev ref24_True_r1:List LO:=[lo 4 (.assign (.const (.bool false))) 4]
abbrev ref24_True_r2:List LO:=[lo 5 (.assign (.const (.int .i64 0))) 3]
abbrev ref24_True_r3:List LO:=[lm 6 5 3,lm 7 0 23,lo 8 (.call ⟨.builtin .len,#[.tmp 7],#[23]⟩) 3,lo 9 (.binOp .lss 3 (.tmp 6) (.tmp 8) 3) 4]
abbrev ref24_True_r4:List LO:=[lm 12 1 23,lm 13 0 23,lm 14 5 3,lo 15 (.indexAddr 23 (.tmp 13) (.tmp 14)) 0,lo 16 (.load 3 (.tmp 15)) 3,lo 17 (.call ⟨.value (.func 40),#[.tmp 12,.tmp 16],#[23,3]⟩) 4]
abbrev ref24_True_r5:List LO:=[lo 4 (.assign (.const (.bool true))) 4]
abbrev ref24_True_r6:List LO:=[lm 10 5 3,lo 11 (.binOp .add 3 (.tmp 10) (.const (.int .i64 1)) 3) 3,lo 5 (.assign (.tmp 11)) 3]
abbrev ref24_True_r7:List LO:=[lo 4 (.assign (.const (.bool false))) 4]
abbrev ref24_True_c:LC:=.seq (.reg false ref24_True_r1) (.seq (.seq (.reg false ref24_True_r2) (.block 0 (.loop (.seq (.seq (.reg false ref24_True_r3) (.cond (.tmp 9) .skip (.exit 0))) (.seq (.block 1 (.seq (.reg false ref24_True_r4) (.cond (.tmp 17) (.seq (.reg false ref24_True_r5) .ret) .skip))) (.reg false ref24_True_r6)))))) (.seq (.reg false ref24_True_r7) .ret))
theorem ref24_True_k:FnOk E 13 18 [.tmp 4] ref24_True_c:=⟨⟨Go.Proofs.Tryd.f13,by kernel_rfl,by kernel_rfl,by kernel_rfl,by kernel_rfl,by kernel_rfl⟩,rfl,rfl⟩
noncomputable def ref24_True_l1 (a0:(List Int)) (a1:(List Int)):Int→Option (Step (Int) ((Unit) ⊕ (Unit))):=fun x3=>(if (decide (x3 < (List.length a0:Int)))=true then Option.bind (ixl a0 x3) (fun x7=>Option.bind (ref24_has a1 x7) (fun x8=>(if x8=true then some (Step.done (Sum.inl ())) else some (Step.next (w64 (x3 + 1)))))) else some (Step.done (Sum.inr ())))
noncomputable def ref24_True (a0:(List Int)) (a1:(List Int)):Option (Bool):=Option.bind (loopC (ref24_True_l1 a0 a1) 0) (fun y=>match y with | Sum.inl _=>some true | Sum.inr _=>some false)
theorem ref24_True_ok (a0:(List Int)) (a1:(List Int)):Ct E 13 [.fsl 1 (List.map cI a0),.fsl 1 (List.map cI a1)] (ref24_True a0 a1) (fun r:Bool=>bv r):=ct_intro (N:=18) (L:=ref24_True_c) ref24_True_k rfl (Nat.le_of_ble_eq_true rfl) (by kernel_rfl) (by
 unfold ref24_True
 refine jS ⟨[V 0 (.fsl 1 (List.map cI a0)),V 1 (.fsl 1 (List.map cI a1))],[],0⟩ ?_
 refine jc_seq ?_
 refine jS ⟨[V 0 (.fsl 1 (List.map cI a0)),V 1 (.fsl 1 (List.map cI a1)),V 5 (iv 0)],[],0⟩ ?_
 refine jc_block ?_
 refine jc_bind (fun y=>match y with | Sum.inl _=>⟨[V 4 (bv true)],[],0⟩ | Sum.inr _=>⟨[],[],0⟩) (fun y=>match y with | Sum.inl _=>.ret | Sum.inr _=>(.exit 0)) (jc_loop (fun x3=>⟨[V 0 (.fsl 1 (List.map cI a0)),V 1 (.fsl 1 (List.map cI a1)),V 5 (iv x3)],[],0⟩) (wkR [] (fix_nil _) allp_nil) ?_) ?_
 ·intro x3
  unfold ref24_True_l1
  refine jc_seq ?_
  refine jR ?_
  refine jG 0 4 ⟨[V 0 (.fsl 1 (List.map cI a0)),V 1 (.fsl 1 (List.map cI a1)),V 5 (iv x3),V 9 (bv (decide (x3 < (List.length (List.map cI a0):Int))))],[],0⟩ ?_
  simp only[List.length_map]
  refine jN ?_
  refine jIf ?_ ?_
  ·refine jc_skip ?_
   refine jx_seqN ?_
   refine jc_seq ?_
   refine jc_block ?_
   refine jR ?_
   refine jG 0 3 ⟨[V 0 (.fsl 1 (List.map cI a0)),V 1 (.fsl 1 (List.map cI a1)),V 5 (iv x3),V 12 (.fsl 1 (List.map cI a1)),V 13 (.fsl 1 (List.map cI a0)),V 14 (iv x3)],[],0⟩ ?_
   refine jr_part (i:=3) (mo:=ixl a0 x3) rfl rfl rfl rfl (fun _ hc=>aop_ixf (c:=cI) (sz:=1) (e:=3) (kk:=.i64) (by kernel_rfl) (by kernel_rfl) (by kernel_rfl) (by kernel_rfl) hc) (fun _=>rfl) ?_
   intro x7 h7
   refine jG 4 1 ⟨[V 0 (.fsl 1 (List.map cI a0)),V 1 (.fsl 1 (List.map cI a1)),V 5 (iv x3),V 12 (.fsl 1 (List.map cI a1)),V 16 (iv x7)],[],0⟩ ?_
   refine jK 5 (ref24_has_ok a1 x7) ?_
   intro x8 h8
   refine jN ?_
   refine jIf ?_ ?_
   ·refine jS ⟨[V 4 (bv true)],[],0⟩ ?_
    refine jc_ret ?_
    refine jx_blkR ?_
    refine jx_seqR ?_
    exact jx_done rfl nofun (wkR [] (fix_nil _) allp_nil)
   refine jc_skip ?_
   refine jx_blkN ?_
   refine jx_seqN ?_
   refine jT ⟨[V 0 (.fsl 1 (List.map cI a0)),V 1 (.fsl 1 (List.map cI a1)),V 5 (iv (w64 (x3 + 1)))],[],0⟩ ?_
   exact jx_next (wkR [] (fix_nil _) allp_nil)
  refine jc_exit ?_
  refine jx_seqE ?_
  exact jx_done rfl nofun (wkR [] (fix_nil _) allp_nil)
 rintro (_ | _)
 ·refine jx_blkR ?_
  refine jx_seqR ?_
  exact jx_retF (.inr rfl) (v:=bv true) (by kernel_rfl) rfl (fle_refl _)
 refine jx_blkE ?_
 refine jx_seqN ?_
 refine jS ⟨[V 4 (bv false)],[],0⟩ ?_
 refine jc_ret ?_
 exact jx_retF (.inr rfl) (v:=bv false) (by kernel_rfl) rfl (fle_refl _))
abbrev cnf_Holds_1_s9024_r1:List LO:=[lo 3 (.assign (.const (.bool false))) 4]
abbrev cnf_Holds_1_s9024_r2:List LO:=[lo 4 (.load 23 (.tmp 1)) 23,lm 5 0 3,lo 6 (.call ⟨.value (.func 43),#[.tmp 5],#[3]⟩) 3,lo 7 (.binOp .sub 3 (.tmp 6) (.const (.int .i64 1)) 3) 3,lo 8 (.indexAddr 23 (.tmp 4) (.tmp 7)) 0,lo 9 (.load 3 (.tmp 8)) 3,lm 10 0 3,lo 11 (.binOp .eql 3 (.tmp 9) (.tmp 10) 3) 4,lo 3 (.assign (.tmp 11)) 4]
abbrev cnf_Holds_1_s9024_c:LC:=.seq (.reg false cnf_Holds_1_s9024_r1) (.seq (.reg true cnf_Holds_1_s9024_r2) .ret)
theorem cnf_Holds_1_s9024_k:FnOk E 42 12 [.tmp 3] cnf_Holds_1_s9024_c:=⟨⟨Go.Proofs.Tryd.f42,by kernel_rfl,by kernel_rfl,by kernel_rfl,by kernel_rfl,by kernel_rfl⟩,rfl,rfl⟩
noncomputable def cnf_Holds_1_s9024 (a0:Int) (a1:List Int):Option (Bool):=Option.bind (cnf_size a0) (fun x1=>Option.bind (ixl a1 (w64 (x1 - 1))) (fun x2=>some (x2 == a0)))
theorem cnf_Holds_1_s9024_ok (a0:Int) (a1:List Int):Ct E 42 [iv a0,.fptr [.fsl 1 (List.map cI a1)] 0] (cnf_Holds_1_s9024 a0 a1) (fun r:Bool=>bv r):=ct_intro (N:=12) (L:=cnf_Holds_1_s9024_c) cnf_Holds_1_s9024_k rfl (Nat.le_of_ble_eq_true rfl) (by kernel_rfl) (by
 unfold cnf_Holds_1_s9024
 refine jS ⟨[V 0 (iv a0),V 1 (.fptr [.fsl 1 (List.map cI a1)] 0)],[],0⟩ ?_
 refine jR ?_
 refine jG 0 2 ⟨[V 0 (iv a0),V 4 (.fsl 1 (List.map cI a1)),V 5 (iv a0)],[],0⟩ ?_
 refine jK 2 (cnf_size_ok a0) ?_
 intro x1 h1
 refine jG 3 1 ⟨[V 0 (iv a0),V 4 (.fsl 1 (List.map cI a1)),V 7 (iv (w64 (x1 - 1)))],[],0⟩ ?_
 refine jr_part (i:=4) (mo:=ixl a1 (w64 (x1 - 1))) rfl rfl rfl rfl (fun _ hc=>aop_ixf (c:=cI) (sz:=1) (e:=3) (kk:=.i64) (by kernel_rfl) (by kernel_rfl) (by kernel_rfl) (by kernel_rfl) hc) (fun _=>rfl) ?_
 intro x2 h2
 refine jG 5 4 ⟨[V 3 (bv (x2 == a0))],[],0⟩ ?_
 refine jN ?_
 refine jc_ret ?_
 exact jx_retF (.inr rfl) (v:=bv (x2 == a0)) (by kernel_rfl) rfl (fle_refl _))
abbrev slices_IndexFunc_int_int_s0c84_r1:List LO:=[lo 4 (.assign (.const (.int .i64 0))) 3]
abbrev slices_IndexFunc_int_int_s0c84_r2:List LO:=[lm 6 0 23,lo 7 (.call ⟨.builtin .len,#[.tmp 6],#[23]⟩) 3,lo 8 (.move (.const (.int .i64 0))) 3]
abbrev slices_IndexFunc_int_int_s0c84_r3:List LO:=[lo 9 (.binOp .lss 3 (.tmp 8) (.tmp 7) 3) 0]
abbrev slices_IndexFunc_int_int_s0c84_r4:List LO:=[lm 10 8 3,lo 5 (.assign (.tmp 10)) 3]
abbrev slices_IndexFunc_int_int_s0c84_r5:List LO:=[lm 11 1 65,lm 12 0 23,lm 13 5 3,lo 14 (.indexAddr 23 (.tmp 12) (.tmp 13)) 0,lo 15 (.load 3 (.tmp 14)) 3,lo 16 (.call ⟨.value (.tmp 11),#[.tmp 15],#[3]⟩) 4]
abbrev slices_IndexFunc_int_int_s0c84_r6:List LO:=[lm 17 5 3,lo 4 (.assign (.tmp 17)) 3]
abbrev slices_IndexFunc_int_int_s0c84_r7:List LO:=[lo 18 (.binOp .add 3 (.tmp 8) (.const (.int .i64 1)) 3) 3,lm 8 18 3]
abbrev slices_IndexFunc_int_int_s0c84_r8:List LO:=[lo 4 (.assign (.const (.int .i64 (-1)))) 3]
abbrev slices_IndexFunc_int_int_s0c84_c:LC:=.seq (.reg false slices_IndexFunc_int_int_s0c84_r1) (.seq (.seq (.reg false slices_IndexFunc_int_int_s0c84_r2) (.block 0 (.loop (.seq (.reg false slices_IndexFunc_int_int_s0c84_r3) (.seq (.cond (.tmp 9) .skip (.exit 0)) (.seq (.block 1 (.seq (.reg false slices_IndexFunc_int_int_s0c84_r4) (.seq (.reg false slices_IndexFunc_int_int_s0c84_r5) (.cond (.tmp 16) (.seq (.reg false slices_IndexFunc_int_int_s0c84_r6) .ret) .skip)))) (.reg false slices_IndexFunc_int_int_s0c84_r7))))))) (.seq (.reg false slices_IndexFunc_int_int_s0c84_r8) .ret))
theorem slices_IndexFunc_int_int_s0c84_k:FnOk E 71 19 [.tmp 4] slices_IndexFunc_int_int_s0c84_c:=⟨⟨Go.Proofs.Tryd.f71,by kernel_rfl,by kernel_rfl,by kernel_rfl,by kernel_rfl,by kernel_rfl⟩,rfl,rfl⟩
noncomputable def slices_IndexFunc_int_int_s0c84_l1 (a0:(List Int)) (a1:List Int):Int→Option (Step (Int) ((Int) ⊕ (Unit))):=fun x3=>(if (decide (x3 < (List.length a0:Int)))=true then Option.bind (ixl a0 x3) (fun x8=>Option.bind (cnf_Holds_1_s9024 x8 a1) (fun x9=>(if x9=true then some (Step.done (Sum.inl x3)) else some (Step.next (w64 (x3 + 1)))))) else some (Step.done (Sum.inr ())))
noncomputable def slices_IndexFunc_int_int_s0c84 (a0:(List Int)) (a1:List Int):Option (Int):=Option.bind (loopC (slices_IndexFunc_int_int_s0c84_l1 a0 a1) 0) (fun y=>match y with | Sum.inl x7=>some x7 | Sum.inr _=>some (-1))
theorem slices_IndexFunc_int_int_s0c84_ok (a0:(List Int)) (a1:List Int):Ct E 71 [.fsl 1 (List.map cI a0),.fn 42 [.fptr [.fsl 1 (List.map cI a1)] 0]] (slices_IndexFunc_int_int_s0c84 a0 a1) (fun r:Int=>iv r):=ct_intro (N:=19) (L:=slices_IndexFunc_int_int_s0c84_c) slices_IndexFunc_int_int_s0c84_k rfl (Nat.le_of_ble_eq_true rfl) (by kernel_rfl) (by
 unfold slices_IndexFunc_int_int_s0c84
 refine jS ⟨[V 0 (.fsl 1 (List.map cI a0)),V 1 (.fn 42 [.fptr [.fsl 1 (List.map cI a1)] 0])],[],0⟩ ?_
 refine jc_seq ?_
 refine jR ?_
 refine jG 0 3 ⟨[V 0 (.fsl 1 (List.map cI a0)),V 1 (.fn 42 [.fptr [.fsl 1 (List.map cI a1)] 0]),V 7 (iv (List.length (List.map cI a0):Int)),V 8 (iv 0)],[],0⟩ ?_
 simp only[List.length_map]
 refine jN ?_
 refine jc_block ?_
 refine jc_bind (fun y=>match y with | Sum.inl x7=>⟨[V 4 (iv x7)],[],0⟩ | Sum.inr _=>⟨[],[],0⟩) (fun y=>match y with | Sum.inl x7=>.ret | Sum.inr _=>(.exit 0)) (jc_loop (fun x3=>⟨[V 0 (.fsl 1 (List.map cI a0)),V 1 (.fn 42 [.fptr [.fsl 1 (List.map cI a1)] 0]),V 7 (iv (List.length a0:Int)),V 8 (iv x3)],[],0⟩) (wkR [] (fix_nil _) allp_nil) ?_) ?_
 ·intro x3
  unfold slices_IndexFunc_int_int_s0c84_l1
  refine jS ⟨[V 0 (.fsl 1 (List.map cI a0)),V 1 (.fn 42 [.fptr [.fsl 1 (List.map cI a1)] 0]),V 7 (iv (List.length a0:Int)),V 8 (iv x3),V 9 (bv (decide (x3 < (List.length a0:Int))))],[],0⟩ ?_
  refine jc_seq ?_
  refine jIf ?_ ?_
  ·refine jc_skip ?_
   refine jx_seqN ?_
   refine jc_seq ?_
   refine jc_block ?_
   refine jS ⟨[V 0 (.fsl 1 (List.map cI a0)),V 1 (.fn 42 [.fptr [.fsl 1 (List.map cI a1)] 0]),V 5 (iv x3),V 7 (iv (List.length a0:Int)),V 8 (iv x3)],[],0⟩ ?_
   refine jR ?_
   refine jG 0 3 ⟨[V 0 (.fsl 1 (List.map cI a0)),V 1 (.fn 42 [.fptr [.fsl 1 (List.map cI a1)] 0]),V 5 (iv x3),V 7 (iv (List.length a0:Int)),V 8 (iv x3),V 11 (.fn 42 [.fptr [.fsl 1 (List.map cI a1)] 0]),V 12 (.fsl 1 (List.map cI a0)),V 13 (iv x3)],[],0⟩ ?_
   refine jr_part (i:=3) (mo:=ixl a0 x3) rfl rfl rfl rfl (fun _ hc=>aop_ixf (c:=cI) (sz:=1) (e:=3) (kk:=.i64) (by kernel_rfl) (by kernel_rfl) (by kernel_rfl) (by kernel_rfl) hc) (fun _=>rfl) ?_
   intro x8 h8
   refine jG 4 1 ⟨[V 0 (.fsl 1 (List.map cI a0)),V 1 (.fn 42 [.fptr [.fsl 1 (List.map cI a1)] 0]),V 5 (iv x3),V 7 (iv (List.length a0:Int)),V 8 (iv x3),V 11 (.fn 42 [.fptr [.fsl 1 (List.map cI a1)] 0]),V 15 (iv x8)],[],0⟩ ?_
   refine jr_callV (i:=5) rfl rfl rfl rfl (g:=42) (caps:=[.fptr [.fsl 1 (List.map cI a1)] 0]) (avs:=[iv x8]) (vs:=[iv x8,.fptr [.fsl 1 (List.map cI a1)] 0]) (by kernel_rfl) (by kernel_rfl) rfl (snapL_cons rfl (snapL_cons rfl (snapL_nil _))) (all2_cons (fle_refl _) (all2_cons (fle_refl _) all2_nil)) (cnf_Holds_1_s9024_ok x8 a1) (fun _=>rfl) (fun _=>rfl) ?_
   intro x9 h9
   refine jN ?_
   refine jIf ?_ ?_
   ·refine jS ⟨[V 4 (iv x3)],[],0⟩ ?_
    refine jc_ret ?_
    refine jx_blkR ?_
    refine jx_seqR ?_
    exact jx_done rfl nofun (wkR [] (fix_nil _) allp_nil)
   refine jc_skip ?_
   refine jx_blkN ?_
   refine jx_seqN ?_
   refine jT ⟨[V 0 (.fsl 1 (List.map cI a0)),V 1 (.fn 42 [.fptr [.fsl 1 (List.map cI a1)] 0]),V 7 (iv (List.length a0:Int)),V 8 (iv (w64 (x3 + 1)))],[],0⟩ ?_
   exact jx_next (wkR [] (fix_nil _) allp_nil)
  refine jc_exit ?_
  refine jx_seqE ?_
  exact jx_done rfl nofun (wkR [] (fix_nil _) allp_nil)
 rintro (x7 | _)
 ·refine jx_blkR ?_
  refine jx_seqR ?_
  exact jx_retF (.inr rfl) (v:=iv x7) (by kernel_rfl) rfl (fle_refl _)
 refine jx_blkE ?_
 refine jx_seqN ?_
 refine jS ⟨[V 4 (iv (-1))],[],0⟩ ?_
 refine jc_ret ?_
 exact jx_retF (.inr rfl) (v:=iv (-1)) (by kernel_rfl) rfl (fle_refl _))
abbrev slices_ContainsFunc_int_int_s0c84_r1:List LO:=[lo 4 (.assign (.const (.bool false))) 4]
abbrev slices_ContainsFunc_int_int_s0c84_r2:List LO:=[lm 5 0 23,lm 6 1 65,lo 7 (.call ⟨.value (.func 71),#[.tmp 5,.tmp 6],#[23,65]⟩) 3,lo 8 (.binOp .geq 3 (.tmp 7) (.const (.int .i64 0)) 3) 4,lo 4 (.assign (.tmp 8)) 4]
abbrev slices_ContainsFunc_int_int_s0c84_c:LC:=.seq (.reg false slices_ContainsFunc_int_int_s0c84_r1) (.seq (.reg false slices_ContainsFunc_int_int_s0c84_r2) .ret)
theorem slices_ContainsFunc_int_int_s0c84_k:FnOk E 37 9 [.tmp 4] slices_ContainsFunc_int_int_s0c84_c:=⟨⟨Go.Proofs.Tryd.f37,by kernel_rfl,by kernel_rfl,by kernel_rfl,by kernel_rfl,by kernel_rfl⟩,rfl,rfl⟩
noncomputable def slices_ContainsFunc_int_int_s0c84 (a0:(List Int)) (a1:List Int):Option (Bool):=Option.bind (slices_IndexFunc_int_int_s0c84 a0 a1) (fun x1=>some (decide (x1≥0)))
theorem slices_ContainsFunc_int_int_s0c84_ok (a0:(List Int)) (a1:List Int):Ct E 37 [.fsl 1 (List.map cI a0),.fn 42 [.fptr [.fsl 1 (List.map cI a1)] 0]] (slices_ContainsFunc_int_int_s0c84 a0 a1) (fun r:Bool=>bv r):=ct_intro (N:=9) (L:=slices_ContainsFunc_int_int_s0c84_c) slices_ContainsFunc_int_int_s0c84_k rfl (Nat.le_of_ble_eq_true rfl) (by kernel_rfl) (by
 unfold slices_ContainsFunc_int_int_s0c84
 refine jS ⟨[V 0 (.fsl 1 (List.map cI a0)),V 1 (.fn 42 [.fptr [.fsl 1 (List.map cI a1)] 0])],[],0⟩ ?_
 refine jR ?_
 refine jG 0 2 ⟨[V 5 (.fsl 1 (List.map cI a0)),V 6 (.fn 42 [.fptr [.fsl 1 (List.map cI a1)] 0])],[],0⟩ ?_
 refine jK 2 (slices_IndexFunc_int_int_s0c84_ok a0 a1) ?_
 intro x1 h1
 refine jG 3 2 ⟨[V 4 (bv (decide (x1≥0)))],[],0⟩ ?_
 refine jN ?_
 refine jc_ret ?_
 exact jx_retF (.inr rfl) (v:=bv (decide (x1≥0))) (by kernel_rfl) rfl (fle_refl _))
abbrev cnf_model_r1:List LO:=[lo 4 (.assign (.const (.bool false))) 4]
abbrev cnf_model_r2:List LO:=[lm 7 0 23,lo 8 (.call ⟨.builtin .len,#[.tmp 7],#[23]⟩) 3,lo 9 (.move (.const (.int .i64 0))) 3]
abbrev cnf_model_r3:List LO:=[lo 10 (.binOp .lss 3 (.tmp 9) (.tmp 8) 3) 0]
abbrev cnf_model_r4:List LO:=[lm 11 9 3,lo 12 (.indexAddr 23 (.tmp 7) (.tmp 9)) 0,lo 13 (.load 3 (.tmp 12)) 3,lo 5 (.assign (.tmp 11)) 3,lo 6 (.assign (.tmp 13)) 3]
abbrev cnf_model_r5:List LO:=[lm 14 6 3,lo 15 (.call ⟨.value (.func 43),#[.tmp 14],#[3]⟩) 3,lm 16 5 3,lo 17 (.binOp .add 3 (.tmp 16) (.const (.int .i64 1)) 3) 3,lo 18 (.binOp .neq 3 (.tmp 15) (.tmp 17) 3) 4]
abbrev cnf_model_r6:List LO:=[lo 4 (.assign (.const (.bool false))) 4]
abbrev cnf_model_r7:List LO:=[lo 19 (.binOp .add 3 (.tmp 9) (.const (.int .i64 1)) 3) 3,lm 9 19 3]
abbrev cnf_model_r8:List LO:=[lm 20 0 23,lo 21 (.call ⟨.builtin .len,#[.tmp 20],#[23]⟩) 3,lm 22 1 3,lo 23 (.binOp .eql 3 (.tmp 21) (.tmp 22) 3) 4,lo 4 (.assign (.tmp 23)) 4]
abbrev cnf_model_c:LC:=.seq (.reg false cnf_model_r1) (.seq (.seq (.reg false cnf_model_r2) (.block 0 (.loop (.seq (.reg false cnf_model_r3) (.seq (.cond (.tmp 10) .skip (.exit 0)) (.seq (.block 1 (.seq (.reg false cnf_model_r4) (.seq (.reg false cnf_model_r5) (.cond (.tmp 18) (.seq (.reg false cnf_model_r6) .ret) .skip)))) (.reg false cnf_model_r7))))))) (.seq (.reg false cnf_model_r8) .ret))
theorem cnf_model_k:FnOk E 41 24 [.tmp 4] cnf_model_c:=⟨⟨Go.Proofs.Tryd.f41,by kernel_rfl,by kernel_rfl,by kernel_rfl,by kernel_rfl,by kernel_rfl⟩,rfl,rfl⟩
noncomputable def cnf_model_l1 (a0:(List Int)):Int→Option (Step (Int) ((Unit) ⊕ (Unit))):=fun x3=>(if (decide (x3 < (List.length a0:Int)))=true then Option.bind (ixl a0 x3) (fun x7=>Option.bind (cnf_size x7) (fun x8=>(if (x8 != (w64 (x3 + 1)))=true then some (Step.done (Sum.inl ())) else some (Step.next (w64 (x3 + 1)))))) else some (Step.done (Sum.inr ())))
noncomputable def cnf_model (a0:(List Int)) (a1:Int):Option (Bool):=Option.bind (loopC (cnf_model_l1 a0) 0) (fun y=>match y with | Sum.inl _=>some false | Sum.inr _=>some ((List.length a0:Int) == a1))
theorem cnf_model_ok (a0:(List Int)) (a1:Int):Ct E 41 [.fsl 1 (List.map cI a0),iv a1] (cnf_model a0 a1) (fun r:Bool=>bv r):=ct_intro (N:=24) (L:=cnf_model_c) cnf_model_k rfl (Nat.le_of_ble_eq_true rfl) (by kernel_rfl) (by
 unfold cnf_model
 refine jS ⟨[V 0 (.fsl 1 (List.map cI a0)),V 1 (iv a1)],[],0⟩ ?_
 refine jc_seq ?_
 refine jR ?_
 refine jG 0 3 ⟨[V 0 (.fsl 1 (List.map cI a0)),V 1 (iv a1),V 7 (.fsl 1 (List.map cI a0)),V 8 (iv (List.length (List.map cI a0):Int)),V 9 (iv 0)],[],0⟩ ?_
 simp only[List.length_map]
 refine jN ?_
 refine jc_block ?_
 refine jc_bind (fun y=>match y with | Sum.inl _=>⟨[V 4 (bv false)],[],0⟩ | Sum.inr _=>⟨[V 0 (.fsl 1 (List.map cI a0)),V 1 (iv a1)],[],0⟩) (fun y=>match y with | Sum.inl _=>.ret | Sum.inr _=>(.exit 0)) (jc_loop (fun x3=>⟨[V 0 (.fsl 1 (List.map cI a0)),V 1 (iv a1),V 7 (.fsl 1 (List.map cI a0)),V 8 (iv (List.length a0:Int)),V 9 (iv x3)],[],0⟩) (wkR [] (fix_nil _) allp_nil) ?_) ?_
 ·intro x3
  unfold cnf_model_l1
  refine jS ⟨[V 0 (.fsl 1 (List.map cI a0)),V 1 (iv a1),V 7 (.fsl 1 (List.map cI a0)),V 8 (iv (List.length a0:Int)),V 9 (iv x3),V 10 (bv (decide (x3 < (List.length a0:Int))))],[],0⟩ ?_
  refine jc_seq ?_
  refine jIf ?_ ?_
  ·refine jc_skip ?_
   refine jx_seqN ?_
   refine jc_seq ?_
   refine jc_block ?_
   refine jR ?_
   refine jG 0 1 ⟨[V 0 (.fsl 1 (List.map cI a0)),V 1 (iv a1),V 7 (.fsl 1 (List.map cI a0)),V 8 (iv (List.length a0:Int)),V 9 (iv x3),V 11 (iv x3)],[],0⟩ ?_
   refine jr_part (i:=1) (mo:=ixl a0 x3) rfl rfl rfl rfl (fun _ hc=>aop_ixf (c:=cI) (sz:=1) (e:=3) (kk:=.i64) (by kernel_rfl) (by kernel_rfl) (by kernel_rfl) (by kernel_rfl) hc) (fun _=>rfl) ?_
   intro x7 h7
   refine jG 2 3 ⟨[V 0 (.fsl 1 (List.map cI a0)),V 1 (iv a1),V 5 (iv x3),V 6 (iv x7),V 7 (.fsl 1 (List.map cI a0)),V 8 (iv (List.length a0:Int)),V 9 (iv x3)],[],0⟩ ?_
   refine jN ?_
   refine jR ?_
   refine jG 0 1 ⟨[V 0 (.fsl 1 (List.map cI a0)),V 1 (iv a1),V 5 (iv x3),V 7 (.fsl 1 (List.map cI a0)),V 8 (iv (List.length a0:Int)),V 9 (iv x3),V 14 (iv x7)],[],0⟩ ?_
   refine jK 1 (cnf_size_ok x7) ?_
   intro x8 h8
   refine jG 2 3 ⟨[V 0 (.fsl 1 (List.map cI a0)),V 1 (iv a1),V 7 (.fsl 1 (List.map cI a0)),V 8 (iv (List.length a0:Int)),V 9 (iv x3),V 18 (bv (x8 != (w64 (x3 + 1))))],[],0⟩ ?_
   refine jN ?_
   refine jIf ?_ ?_
   ·refine jS ⟨[V 4 (bv false)],[],0⟩ ?_
    refine jc_ret ?_
    refine jx_blkR ?_
    refine jx_seqR ?_
    exact jx_done rfl nofun (wkR [] (fix_nil _) allp_nil)
   refine jc_skip ?_
   refine jx_blkN ?_
   refine jx_seqN ?_
   refine jT ⟨[V 0 (.fsl 1 (List.map cI a0)),V 1 (iv a1),V 7 (.fsl 1 (List.map cI a0)),V 8 (iv (List.length a0:Int)),V 9 (iv (w64 (x3 + 1)))],[],0⟩ ?_
   exact jx_next (wkR [] (fix_nil _) allp_nil)
  refine jc_exit ?_
  refine jx_seqE ?_
  exact jx_done rfl nofun (wkR [] (fix_nil _) allp_nil)
 rintro (_ | _)
 ·refine jx_blkR ?_
  refine jx_seqR ?_
  exact jx_retF (.inr rfl) (v:=bv false) (by kernel_rfl) rfl (fle_refl _)
 refine jx_blkE ?_
 refine jx_seqN ?_
 refine jR ?_
 refine jG 0 5 ⟨[V 4 (bv ((List.length (List.map cI a0):Int) == a1))],[],0⟩ ?_
 simp only[List.length_map]
 refine jN ?_
 refine jc_ret ?_
 exact jx_retF (.inr rfl) (v:=bv ((List.length a0:Int) == a1)) (by kernel_rfl) rfl (fle_refl _))
abbrev cnf_Holds_r1:List LO:=[lo 2 (.box 25 (.tmp 0)) 0,lo 3 (.box 23 (.tmp 1)) 0,lo 4 (.assign (.const (.bool false))) 4]
abbrev cnf_Holds_r2:List LO:=[lo 7 (.load 25 (.tmp 2)) 25,lo 8 (.call ⟨.value (.func 9),#[.tmp 7],#[25]⟩) 4,lo 9 (.unOp .not 4 (.tmp 8)) 4,lm 10 9 4,lg 11 (.load 23 (.tmp 3)) 23 10 false,lg 12 (.fieldAddr 25 (.tmp 2) 0) 0 10 false,lg 13 (.load 3 (.tmp 12)) 3 10 false,lg 14 (.call ⟨.value (.func 41),#[.tmp 11,.tmp 13],#[23,3]⟩) 4 10 false,lg 15 (.unOp .not 4 (.tmp 14)) 4 10 false,lo 16 (.pick (.tmp 10) (.const (.bool true)) (.tmp 15)) 4]
abbrev cnf_Holds_r3:List LO:=[lo 4 (.assign (.const (.bool false))) 4]
abbrev cnf_Holds_r4:List LO:=[lo 17 (.fieldAddr 25 (.tmp 2) 1) 0,lo 18 (.load 22 (.tmp 17)) 22,lo 19 (.call ⟨.builtin .len,#[.tmp 18],#[22]⟩) 3,lo 20 (.move (.const (.int .i64 0))) 3]
abbrev cnf_Holds_r5:List LO:=[lo 21 (.binOp .lss 3 (.tmp 20) (.tmp 19) 3) 0]
abbrev cnf_Holds_r6:List LO:=[lo 22 (.indexAddr 22 (.tmp 18) (.tmp 20)) 0,lo 23 (.load 55 (.tmp 22)) 55,lo 6 (.alloc 55) 0,ln (.store 55 (.tmp 6) (.tmp 23)) 0]
abbrev cnf_Holds_r7:List LO:=[lo 24 (.fieldAddr 55 (.tmp 6) 0) 0,lo 25 (.load 23 (.tmp 24)) 23,lo 26 (.makeFunc (Fn.func 42) #[] #[.tmp 3]) 65,lo 27 (.call ⟨.value (.func 37),#[.tmp 25,.tmp 26],#[23,65]⟩) 4,lo 28 (.unOp .not 4 (.tmp 27)) 4]
abbrev cnf_Holds_r8:List LO:=[lo 4 (.assign (.const (.bool false))) 4]
abbrev cnf_Holds_r9:List LO:=[lo 29 (.binOp .add 3 (.tmp 20) (.const (.int .i64 1)) 3) 3,lm 20 29 3]
abbrev cnf_Holds_r10:List LO:=[lo 4 (.assign (.const (.bool true))) 4]
abbrev cnf_Holds_c:LC:=.seq (.reg false cnf_Holds_r1) (.seq (.seq (.reg false cnf_Holds_r2) (.cond (.tmp 16) (.seq (.reg false cnf_Holds_r3) .ret) .skip)) (.seq (.seq (.reg false cnf_Holds_r4) (.block 0 (.loop (.seq (.reg false cnf_Holds_r5) (.seq (.cond (.tmp 21) .skip (.exit 0)) (.seq (.block 1 (.seq (.reg false cnf_Holds_r6) (.seq (.reg false cnf_Holds_r7) (.cond (.tmp 28) (.seq (.reg false cnf_Holds_r8) .ret) .skip)))) (.reg false cnf_Holds_r9))))))) (.seq (.reg false cnf_Holds_r10) .ret)))
theorem cnf_Holds_k:FnOk E 14 30 [.tmp 4] cnf_Holds_c:=⟨⟨Go.Proofs.Tryd.f14,by kernel_rfl,by kernel_rfl,by kernel_rfl,by kernel_rfl,by kernel_rfl⟩,rfl,rfl⟩
noncomputable def cnf_Holds_l1 (a0:S_api_Formula) (a1:(List Int)):Int→Option (Step (Int) ((Unit) ⊕ (Unit))):=fun x7=>(if (decide (x7 < (List.length a0.Clauses:Int)))=true then Option.bind (ixl a0.Clauses x7) (fun x11=>Option.bind (slices_ContainsFunc_int_int_s0c84 x11.Lits a1) (fun x12=>(if (!x12)=true then some (Step.done (Sum.inl ())) else some (Step.next (w64 (x7 + 1)))))) else some (Step.done (Sum.inr ())))
noncomputable def cnf_Holds (a0:S_api_Formula) (a1:(List Int)):Option (Bool):=Option.bind (cnf_Fit a0) (fun x1=>Option.bind (if (!x1)=true then some true else Option.bind (cnf_model a1 a0.Vars) (fun x4=>some (!x4)):Option (Bool)) (fun x3=>(if x3=true then some false else Option.bind (loopC (cnf_Holds_l1 a0 a1) 0) (fun y=>match y with | Sum.inl _=>some false | Sum.inr _=>some true))))
theorem cnf_Holds_ok (a0:S_api_Formula) (a1:(List Int)):Ct E 14 [.agg [iv a0.Vars,.fsl 2 (List.map c_S_api_Clause a0.Clauses),.fsl 1 (List.map cI a0.Order)],.fsl 1 (List.map cI a1)] (cnf_Holds a0 a1) (fun r:Bool=>bv r):=ct_intro (N:=30) (L:=cnf_Holds_c) cnf_Holds_k rfl (Nat.le_of_ble_eq_true rfl) (by kernel_rfl) (by
 unfold cnf_Holds
 refine jS ⟨[V 2 (pt 0 3),V 3 (pt 1 1)],[W 0 3 [iv a0.Vars,.fsl 2 (List.map c_S_api_Clause a0.Clauses),.fsl 1 (List.map cI a0.Order)],W 1 1 [.fsl 1 (List.map cI a1)]],2⟩ ?_
 refine jc_seq ?_
 refine jR ?_
 refine jG 0 1 ⟨[V 2 (pt 0 3),V 3 (pt 1 1),V 7 (.agg [iv a0.Vars,.fsl 2 (List.map c_S_api_Clause a0.Clauses),.fsl 1 (List.map cI a0.Order)])],[W 0 3 [iv a0.Vars,.fsl 2 (List.map c_S_api_Clause a0.Clauses),.fsl 1 (List.map cI a0.Order)],W 1 1 [.fsl 1 (List.map cI a1)]],2⟩ ?_
 refine jK 1 (cnf_Fit_ok a0) ?_
 intro x1 h1
 refine jG 2 2 ⟨[V 2 (pt 0 3),V 3 (pt 1 1),V 10 (bv (!x1))],[W 0 3 [iv a0.Vars,.fsl 2 (List.map c_S_api_Clause a0.Clauses),.fsl 1 (List.map cI a0.Order)],W 1 1 [.fsl 1 (List.map cI a1)]],2⟩ ?_
 refine jr_bind 4 6 (fun x3=>⟨[V 2 (pt 0 3),V 3 (pt 1 1),V 16 (bv x3)],[W 0 3 [iv a0.Vars,.fsl 2 (List.map c_S_api_Clause a0.Clauses),.fsl 1 (List.map cI a0.Order)],W 1 1 [.fsl 1 (List.map cI a1)]],2⟩) ?_ ?_
 ·refine jSp 10 ?_ ?_
  ·refine jG 0 6 ⟨[V 2 (pt 0 3),V 3 (pt 1 1),V 16 (bv true)],[W 0 3 [iv a0.Vars,.fsl 2 (List.map c_S_api_Clause a0.Clauses),.fsl 1 (List.map cI a0.Order)],W 1 1 [.fsl 1 (List.map cI a1)]],2⟩ ?_
   refine jr_nil rfl ?_
   exact jx_mid rfl (wkR [(0,some 0),(1,some 1)] (fix_nil _) (pc (hC 0) (pc (hC 1) allp_nil)))
  refine jG 0 3 ⟨[V 2 (pt 0 3),V 3 (pt 1 1),(10,.lit false),V 11 (.fsl 1 (List.map cI a1)),V 13 (iv a0.Vars)],[W 0 3 [iv a0.Vars,.fsl 2 (List.map c_S_api_Clause a0.Clauses),.fsl 1 (List.map cI a0.Order)],W 1 1 [.fsl 1 (List.map cI a1)]],2⟩ ?_
  refine jK 3 (cnf_model_ok a1 a0.Vars) ?_
  intro x4 h4
  refine jG 4 2 ⟨[V 2 (pt 0 3),V 3 (pt 1 1),V 16 (bv (!x4))],[W 0 3 [iv a0.Vars,.fsl 2 (List.map c_S_api_Clause a0.Clauses),.fsl 1 (List.map cI a0.Order)],W 1 1 [.fsl 1 (List.map cI a1)]],2⟩ ?_
  refine jr_nil rfl ?_
  exact jx_mid rfl (wkR [(0,some 0),(1,some 1)] (fix_nil _) (pc (hC 0) (pc (hC 1) allp_nil)))
 intro x3
 refine jN ?_
 refine jIf ?_ ?_
 ·refine jS ⟨[V 4 (bv false)],[],2⟩ ?_
  refine jc_ret ?_
  refine jx_seqR ?_
  exact jx_retF (.inr rfl) (v:=bv false) (by kernel_rfl) rfl (fle_refl _)
 refine jc_skip ?_
 refine jx_seqN ?_
 refine jc_seq ?_
 refine jR ?_
 refine jG 0 4 ⟨[V 3 (pt 1 1),V 18 (.fsl 2 (List.map c_S_api_Clause a0.Clauses)),V 19 (iv (List.length (List.map c_S_api_Clause a0.Clauses):Int)),V 20 (iv 0)],[W 1 1 [.fsl 1 (List.map cI a1)]],2⟩ ?_
 simp only[List.length_map]
 refine jN ?_
 refine jc_block ?_
 refine jc_bind (fun y=>match y with | Sum.inl _=>⟨[V 4 (bv false)],[],0⟩ | Sum.inr _=>⟨[],[],0⟩) (fun y=>match y with | Sum.inl _=>.ret | Sum.inr _=>(.exit 0)) (jc_loop (fun x7=>⟨[V 3 (pt 0 1),V 18 (.fsl 2 (List.map c_S_api_Clause a0.Clauses)),V 19 (iv (List.length a0.Clauses:Int)),V 20 (iv x7)],[W 0 1 [.fsl 1 (List.map cI a1)]],1⟩) (wkR [(0,some 1)] (fix_nil _) (pc (hC 1) allp_nil)) ?_) ?_
 ·intro x7
  unfold cnf_Holds_l1
  refine jS ⟨[V 3 (pt 0 1),V 18 (.fsl 2 (List.map c_S_api_Clause a0.Clauses)),V 19 (iv (List.length a0.Clauses:Int)),V 20 (iv x7),V 21 (bv (decide (x7 < (List.length a0.Clauses:Int))))],[W 0 1 [.fsl 1 (List.map cI a1)]],1⟩ ?_
  refine jc_seq ?_
  refine jIf ?_ ?_
  ·refine jc_skip ?_
   refine jx_seqN ?_
   refine jc_seq ?_
   refine jc_block ?_
   refine jR ?_
   refine jr_part (i:=0) (mo:=ixl a0.Clauses x7) rfl rfl rfl rfl (fun _ hc=>aop_ixf (c:=c_S_api_Clause) (sz:=2) (e:=55) (kk:=.i64) (by kernel_rfl) (by kernel_rfl) (by kernel_rfl) (by kernel_rfl) hc) (fun _=>rfl) ?_
   intro x11 h11
   refine jG 1 3 ⟨[V 3 (pt 0 1),V 6 (pt 1 2),V 18 (.fsl 2 (List.map c_S_api_Clause a0.Clauses)),V 19 (iv (List.length a0.Clauses:Int)),V 20 (iv x7)],[W 0 1 [.fsl 1 (List.map cI a1)],W 1 2 [.fsl 1 (List.map cI x11.Lits),iv x11.Tag]],2⟩ ?_
   refine jN ?_
   refine jR ?_
   refine jG 0 3 ⟨[V 3 (pt 0 1),V 18 (.fsl 2 (List.map c_S_api_Clause a0.Clauses)),V 19 (iv (List.length a0.Clauses:Int)),V 20 (iv x7),V 25 (.fsl 1 (List.map cI x11.Lits)),V 26 (.fn 42 [pt 0 1])],[W 0 1 [.fsl 1 (List.map cI a1)]],2⟩ ?_
   refine jr_callF (i:=3) rfl rfl rfl rfl (vs:=[.fsl 1 (List.map cI x11.Lits),.fn 42 [pt 0 1]]) (vs0:=[.fsl 1 (List.map cI x11.Lits),.fn 42 [.fptr [.fsl 1 (List.map cI a1)] 0]]) (b:=true) (by kernel_rfl) (by kernel_rfl) (all2_cons (fle_refl _) (all2_cons (fle_refl _) all2_nil)) (slices_ContainsFunc_int_int_s0c84_ok x11.Lits a1) (fun _=>rfl) (fun _=>rfl) ?_
   intro x12 h12
   refine jG 4 1 ⟨[V 3 (pt 0 1),V 18 (.fsl 2 (List.map c_S_api_Clause a0.Clauses)),V 19 (iv (List.length a0.Clauses:Int)),V 20 (iv x7),V 28 (bv (!x12))],[W 0 1 [.fsl 1 (List.map cI a1)]],2⟩ ?_
   refine jN ?_
   refine jIf ?_ ?_
   ·refine jS ⟨[V 4 (bv false)],[],2⟩ ?_
    refine jc_ret ?_
    refine jx_blkR ?_
    refine jx_seqR ?_
    exact jx_done rfl nofun (wkR [] (fix_nil _) allp_nil)
   refine jc_skip ?_
   refine jx_blkN ?_
   refine jx_seqN ?_
   refine jT ⟨[V 3 (pt 0 1),V 18 (.fsl 2 (List.map c_S_api_Clause a0.Clauses)),V 19 (iv (List.length a0.Clauses:Int)),V 20 (iv (w64 (x7 + 1)))],[W 0 1 [.fsl 1 (List.map cI a1)]],2⟩ ?_
   exact jx_next (wkR [(0,some 0)] (fix_nil _) (pc (hC 0) allp_nil))
  refine jc_exit ?_
  refine jx_seqE ?_
  exact jx_done rfl nofun (wkR [] (fix_nil _) allp_nil)
 rintro (_ | _)
 ·refine jx_blkR ?_
  refine jx_seqR ?_
  exact jx_retF (.inr rfl) (v:=bv false) (by kernel_rfl) rfl (fle_refl _)
 refine jx_blkE ?_
 refine jx_seqN ?_
 refine jS ⟨[V 4 (bv true)],[],0⟩ ?_
 refine jc_ret ?_
 exact jx_retF (.inr rfl) (v:=bv true) (by kernel_rfl) rfl (fle_refl _))
abbrev ref24_Model_r1:List LO:=[lo 4 (.assign (.const (.bool false))) 4]
abbrev ref24_Model_r2:List LO:=[lm 6 0 23,lo 7 (.call ⟨.builtin .len,#[.tmp 6],#[23]⟩) 3,lm 8 1 3,lo 9 (.binOp .neq 3 (.tmp 7) (.tmp 8) 3) 4]
abbrev ref24_Model_r3:List LO:=[lo 4 (.assign (.const (.bool false))) 4]
abbrev ref24_Model_r4:List LO:=[lo 5 (.assign (.const (.int .i64 0))) 3]
abbrev ref24_Model_r5:List LO:=[lm 10 5 3,lm 11 1 3,lo 12 (.binOp .lss 3 (.tmp 10) (.tmp 11) 3) 4]
abbrev ref24_Model_r6:List LO:=[lm 15 0 23,lm 16 5 3,lo 17 (.indexAddr 23 (.tmp 15) (.tmp 16)) 0,lo 18 (.load 3 (.tmp 17)) 3,lm 19 5 3,lo 20 (.binOp .add 3 (.tmp 19) (.const (.int .i64 1)) 3) 3,lo 21 (.binOp .neq 3 (.tmp 18) (.tmp 20) 3) 4,lm 22 21 4,lmg 23 0 23 22 true,lmg 24 5 3 22 true,lg 25 (.indexAddr 23 (.tmp 23) (.tmp 24)) 0 22 true,lg 26 (.load 3 (.tmp 25)) 3 22 true,lmg 27 5 3 22 true,lg 28 (.unOp .neg 3 (.tmp 27)) 3 22 true,lg 29 (.binOp .sub 3 (.tmp 28) (.const (.int .i64 1)) 3) 3 22 true,lg 30 (.binOp .neq 3 (.tmp 26) (.tmp 29) 3) 4 22 true,lo 31 (.pick (.tmp 22) (.tmp 30) (.const (.bool false))) 4]
abbrev ref24_Model_r7:List LO:=[lo 4 (.assign (.const (.bool false))) 4]
abbrev ref24_Model_r8:List LO:=[lm 13 5 3,lo 14 (.binOp .add 3 (.tmp 13) (.const (.int .i64 1)) 3) 3,lo 5 (.assign (.tmp 14)) 3]
abbrev ref24_Model_r9:List LO:=[lo 4 (.assign (.const (.bool true))) 4]
abbrev ref24_Model_c:LC:=.seq (.reg false ref24_Model_r1) (.seq (.seq (.reg false ref24_Model_r2) (.cond (.tmp 9) (.seq (.reg false ref24_Model_r3) .ret) .skip)) (.seq (.seq (.reg false ref24_Model_r4) (.block 0 (.loop (.seq (.seq (.reg false ref24_Model_r5) (.cond (.tmp 12) .skip (.exit 0))) (.seq (.block 1 (.seq (.reg false ref24_Model_r6) (.cond (.tmp 31) (.seq (.reg false ref24_Model_r7) .ret) .skip))) (.reg false ref24_Model_r8)))))) (.seq (.reg false ref24_Model_r9) .ret)))
theorem ref24_Model_k:FnOk E 44 32 [.tmp 4] ref24_Model_c:=⟨⟨Go.Proofs.Tryd.f44,by kernel_rfl,by kernel_rfl,by kernel_rfl,by kernel_rfl,by kernel_rfl⟩,rfl,rfl⟩
noncomputable def ref24_Model_l1 (a0:(List Int)) (a1:Int):Int→Option (Step (Int) ((Unit) ⊕ (Unit))):=fun x4=>(if (decide (x4 < a1))=true then Option.bind (ixl a0 x4) (fun x9=>Option.bind (if (x9 != (w64 (x4 + 1)))=true then Option.bind (ixl a0 x4) (fun x12=>some (x12 != (w64 ((w64 (0 - x4)) - 1)))) else some false:Option (Bool)) (fun x11=>(if x11=true then some (Step.done (Sum.inl ())) else some (Step.next (w64 (x4 + 1)))))) else some (Step.done (Sum.inr ())))
noncomputable def ref24_Model (a0:(List Int)) (a1:Int):Option (Bool):=(if ((List.length a0:Int) != a1)=true then some false else Option.bind (loopC (ref24_Model_l1 a0 a1) 0) (fun y=>match y with | Sum.inl _=>some false | Sum.inr _=>some true))
theorem ref24_Model_ok (a0:(List Int)) (a1:Int):Ct E 44 [.fsl 1 (List.map cI a0),iv a1] (ref24_Model a0 a1) (fun r:Bool=>bv r):=ct_intro (N:=32) (L:=ref24_Model_c) ref24_Model_k rfl (Nat.le_of_ble_eq_true rfl) (by kernel_rfl) (by
 unfold ref24_Model
 refine jS ⟨[V 0 (.fsl 1 (List.map cI a0)),V 1 (iv a1)],[],0⟩ ?_
 refine jc_seq ?_
 refine jR ?_
 refine jG 0 4 ⟨[V 0 (.fsl 1 (List.map cI a0)),V 1 (iv a1),V 9 (bv ((List.length (List.map cI a0):Int) != a1))],[],0⟩ ?_
 simp only[List.length_map]
 refine jN ?_
 refine jIf ?_ ?_
 ·refine jS ⟨[V 4 (bv false)],[],0⟩ ?_
  refine jc_ret ?_
  refine jx_seqR ?_
  exact jx_retF (.inr rfl) (v:=bv false) (by kernel_rfl) rfl (fle_refl _)
 refine jc_skip ?_
 refine jx_seqN ?_
 refine jc_seq ?_
 refine jS ⟨[V 0 (.fsl 1 (List.map cI a0)),V 1 (iv a1),V 5 (iv 0)],[],0⟩ ?_
 refine jc_block ?_
 refine jc_bind (fun y=>match y with | Sum.inl _=>⟨[V 4 (bv false)],[],0⟩ | Sum.inr _=>⟨[],[],0⟩) (fun y=>match y with | Sum.inl _=>.ret | Sum.inr _=>(.exit 0)) (jc_loop (fun x4=>⟨[V 0 (.fsl 1 (List.map cI a0)),V 1 (iv a1),V 5 (iv x4)],[],0⟩) (wkR [] (fix_nil _) allp_nil) ?_) ?_
 ·intro x4
  unfold ref24_Model_l1
  refine jc_seq ?_
  refine jS ⟨[V 0 (.fsl 1 (List.map cI a0)),V 1 (iv a1),V 5 (iv x4),V 12 (bv (decide (x4 < a1)))],[],0⟩ ?_
  refine jIf ?_ ?_
  ·refine jc_skip ?_
   refine jx_seqN ?_
   refine jc_seq ?_
   refine jc_block ?_
   refine jR ?_
   refine jG 0 2 ⟨[V 0 (.fsl 1 (List.map cI a0)),V 1 (iv a1),V 5 (iv x4),V 15 (.fsl 1 (List.map cI a0)),V 16 (iv x4)],[],0⟩ ?_
   refine jr_part (i:=2) (mo:=ixl a0 x4) rfl rfl rfl rfl (fun _ hc=>aop_ixf (c:=cI) (sz:=1) (e:=3) (kk:=.i64) (by kernel_rfl) (by kernel_rfl) (by kernel_rfl) (by kernel_rfl) hc) (fun _=>rfl) ?_
   intro x9 h9
   refine jG 3 5 ⟨[V 0 (.fsl 1 (List.map cI a0)),V 1 (iv a1),V 5 (iv x4),V 22 (bv (x9 != (w64 (x4 + 1))))],[],0⟩ ?_
   refine jr_bind 8 9 (fun x11=>⟨[V 0 (.fsl 1 (List.map cI a0)),V 1 (iv a1),V 5 (iv x4),V 31 (bv x11)],[],0⟩) ?_ ?_
   ·refine jSp 22 ?_ ?_
    ·refine jG 0 2 ⟨[V 0 (.fsl 1 (List.map cI a0)),V 1 (iv a1),V 5 (iv x4),(22,.lit true),V 23 (.fsl 1 (List.map cI a0)),V 24 (iv x4)],[],0⟩ ?_
     refine jr_part (i:=2) (mo:=ixl a0 x4) rfl rfl rfl rfl (fun _ hc=>aop_ixf (c:=cI) (sz:=1) (e:=3) (kk:=.i64) (by kernel_rfl) (by kernel_rfl) (by kernel_rfl) (by kernel_rfl) hc) (fun _=>rfl) ?_
     intro x12 h12
     refine jG 3 6 ⟨[V 0 (.fsl 1 (List.map cI a0)),V 1 (iv a1),V 5 (iv x4),V 31 (bv (x12 != (w64 ((w64 (0 - x4)) - 1))))],[],0⟩ ?_
     refine jr_nil rfl ?_
     exact jx_mid rfl (wkR [] (fix_nil _) allp_nil)
    refine jG 0 9 ⟨[V 0 (.fsl 1 (List.map cI a0)),V 1 (iv a1),V 5 (iv x4),V 31 (bv false)],[],0⟩ ?_
    refine jr_nil rfl ?_
    exact jx_mid rfl (wkR [] (fix_nil _) allp_nil)
   intro x11
   refine jN ?_
   refine jIf ?_ ?_
   ·refine jS ⟨[V 4 (bv false)],[],0⟩ ?_
    refine jc_ret ?_
    refine jx_blkR ?_
    refine jx_seqR ?_
    exact jx_done rfl nofun (wkR [] (fix_nil _) allp_nil)
   refine jc_skip ?_
   refine jx_blkN ?_
   refine jx_seqN ?_
   refine jT ⟨[V 0 (.fsl 1 (List.map cI a0)),V 1 (iv a1),V 5 (iv (w64 (x4 + 1)))],[],0⟩ ?_
   exact jx_next (wkR [] (fix_nil _) allp_nil)
  refine jc_exit ?_
  refine jx_seqE ?_
  exact jx_done rfl nofun (wkR [] (fix_nil _) allp_nil)
 rintro (_ | _)
 ·refine jx_blkR ?_
  refine jx_seqR ?_
  exact jx_retF (.inr rfl) (v:=bv false) (by kernel_rfl) rfl (fle_refl _)
 refine jx_blkE ?_
 refine jx_seqN ?_
 refine jS ⟨[V 4 (bv true)],[],0⟩ ?_
 refine jc_ret ?_
 exact jx_retF (.inr rfl) (v:=bv true) (by kernel_rfl) rfl (fle_refl _))
abbrev ref24_Holds_r1:List LO:=[lo 2 (.box 25 (.tmp 0)) 0,lo 4 (.assign (.const (.bool false))) 4]
abbrev ref24_Holds_r2:List LO:=[lo 9 (.load 25 (.tmp 2)) 25,lo 10 (.call ⟨.value (.func 10),#[.tmp 9],#[25]⟩) 4,lo 11 (.unOp .not 4 (.tmp 10)) 4,lm 12 11 4,lmg 13 1 23 12 false,lg 14 (.fieldAddr 25 (.tmp 2) 0) 0 12 false,lg 15 (.load 3 (.tmp 14)) 3 12 false,lg 16 (.call ⟨.value (.func 44),#[.tmp 13,.tmp 15],#[23,3]⟩) 4 12 false,lg 17 (.unOp .not 4 (.tmp 16)) 4 12 false,lo 18 (.pick (.tmp 12) (.const (.bool true)) (.tmp 17)) 4]
abbrev ref24_Holds_r3:List LO:=[lo 4 (.assign (.const (.bool false))) 4]
abbrev ref24_Holds_r4:List LO:=[lo 5 (.assign (.const (.int .i64 0))) 3]
abbrev ref24_Holds_r5:List LO:=[lm 19 5 3,lo 20 (.fieldAddr 25 (.tmp 2) 1) 0,lo 21 (.load 22 (.tmp 20)) 22,lo 22 (.call ⟨.builtin .len,#[.tmp 21],#[22]⟩) 3,lo 23 (.binOp .lss 3 (.tmp 19) (.tmp 22) 3) 4]
abbrev ref24_Holds_r6:List LO:=[lo 26 (.fieldAddr 25 (.tmp 2) 1) 0,lo 27 (.load 22 (.tmp 26)) 22,lm 28 5 3,lo 29 (.indexAddr 22 (.tmp 27) (.tmp 28)) 0,lo 30 (.fieldAddr 55 (.tmp 29) 0) 0,lo 31 (.load 23 (.tmp 30)) 23,lo 6 (.assign (.tmp 31)) 23]
abbrev ref24_Holds_r7:List LO:=[lo 7 (.assign (.const (.bool false))) 4]
abbrev ref24_Holds_r8:List LO:=[lo 8 (.assign (.const (.int .i64 0))) 3]
abbrev ref24_Holds_r9:List LO:=[lm 32 8 3,lm 33 6 23,lo 34 (.call ⟨.builtin .len,#[.tmp 33],#[23]⟩) 3,lo 35 (.binOp .lss 3 (.tmp 32) (.tmp 34) 3) 4]
abbrev ref24_Holds_r10:List LO:=[lm 38 7 4,lm 39 38 4,lmg 40 1 23 39 false,lmg 41 6 23 39 false,lmg 42 8 3 39 false,lg 43 (.indexAddr 23 (.tmp 41) (.tmp 42)) 0 39 false,lg 44 (.load 3 (.tmp 43)) 3 39 false,lg 45 (.call ⟨.value (.func 35),#[.tmp 44],#[3]⟩) 3 39 false,lg 46 (.binOp .sub 3 (.tmp 45) (.const (.int .i64 1)) 3) 3 39 false,lg 47 (.indexAddr 23 (.tmp 40) (.tmp 46)) 0 39 false,lg 48 (.load 3 (.tmp 47)) 3 39 false,lmg 49 6 23 39 false,lmg 50 8 3 39 false,lg 51 (.indexAddr 23 (.tmp 49) (.tmp 50)) 0 39 false,lg 52 (.load 3 (.tmp 51)) 3 39 false,lg 53 (.binOp .eql 3 (.tmp 48) (.tmp 52) 3) 4 39 false,lo 54 (.pick (.tmp 39) (.const (.bool true)) (.tmp 53)) 4,lo 7 (.assign (.tmp 54)) 4]
abbrev ref24_Holds_r11:List LO:=[lm 36 8 3,lo 37 (.binOp .add 3 (.tmp 36) (.const (.int .i64 1)) 3) 3,lo 8 (.assign (.tmp 37)) 3]
abbrev ref24_Holds_r12:List LO:=[lm 55 7 4,lo 56 (.unOp .not 4 (.tmp 55)) 4]
abbrev ref24_Holds_r13:List LO:=[lo 4 (.assign (.const (.bool false))) 4]
abbrev ref24_Holds_r14:List LO:=[lm 24 5 3,lo 25 (.binOp .add 3 (.tmp 24) (.const (.int .i64 1)) 3) 3,lo 5 (.assign (.tmp 25)) 3]
abbrev ref24_Holds_r15:List LO:=[lo 4 (.assign (.const (.bool true))) 4]
abbrev ref24_Holds_c:LC:=.seq (.reg false ref24_Holds_r1) (.seq (.seq (.reg false ref24_Holds_r2) (.cond (.tmp 18) (.seq (.reg false ref24_Holds_r3) .ret) .skip)) (.seq (.seq (.reg false ref24_Holds_r4) (.block 0 (.loop (.seq (.seq (.reg false ref24_Holds_r5) (.cond (.tmp 23) .skip (.exit 0))) (.seq (.block 1 (.seq (.reg false ref24_Holds_r6) (.seq (.reg false ref24_Holds_r7) (.seq (.seq (.reg false ref24_Holds_r8) (.block 2 (.loop (.seq (.seq (.reg false ref24_Holds_r9) (.cond (.tmp 35) .skip (.exit 2))) (.seq (.block 3 (.reg true ref24_Holds_r10)) (.reg false ref24_Holds_r11)))))) (.seq (.reg false ref24_Holds_r12) (.cond (.tmp 56) (.seq (.reg false ref24_Holds_r13) .ret) .skip)))))) (.reg false ref24_Holds_r14)))))) (.seq (.reg false ref24_Holds_r15) .ret)))
theorem ref24_Holds_k:FnOk E 15 57 [.tmp 4] ref24_Holds_c:=⟨⟨Go.Proofs.Tryd.f15,by kernel_rfl,by kernel_rfl,by kernel_rfl,by kernel_rfl,by kernel_rfl⟩,rfl,rfl⟩
noncomputable def ref24_Holds_l1 (a1:(List Int)) (x37:S_api_Clause):(Bool × Int)→Option (Step (Bool × Int) (Bool)):=fun (x42,x43)=>(if (decide (x43 < (List.length x37.Lits:Int)))=true then Option.bind (if x42=true then some true else Option.bind (ixl x37.Lits x43) (fun x57=>Option.bind (ref24_abs x57) (fun x58=>Option.bind (ixl a1 (w64 (x58 - 1))) (fun x59=>Option.bind (ixl x37.Lits x43) (fun x60=>some (x59 == x60))))):Option (Bool)) (fun x56=>some (Step.next (x56,(w64 (x43 + 1))))) else some (Step.done x42))
noncomputable def ref24_Holds_l2 (a0:S_api_Formula) (a1:(List Int)):Int→Option (Step (Int) ((Unit) ⊕ (Unit))):=fun x20=>(if (decide (x20 < (List.length a0.Clauses:Int)))=true then Option.bind (ixl a0.Clauses x20) (fun x37=>Option.bind (loopC (ref24_Holds_l1 a1 x37) (false,0)) (fun x51=>(if (!x51)=true then some (Step.done (Sum.inl ())) else some (Step.next (w64 (x20 + 1)))))) else some (Step.done (Sum.inr ())))
noncomputable def ref24_Holds (a0:S_api_Formula) (a1:(List Int)):Option (Bool):=Option.bind (ref24_Fit a0) (fun x1=>Option.bind (if (!x1)=true then some true else Option.bind (ref24_Model a1 a0.Vars) (fun x4=>some (!x4)):Option (Bool)) (fun x3=>(if x3=true then some false else Option.bind (loopC (ref24_Holds_l2 a0 a1) 0) (fun y=>match y with | Sum.inl _=>some false | Sum.inr _=>some true))))
theorem ref24_Holds_ok (a0:S_api_Formula) (a1:(List Int)):Ct E 15 [.agg [iv a0.Vars,.fsl 2 (List.map c_S_api_Clause a0.Clauses),.fsl 1 (List.map cI a0.Order)],.fsl 1 (List.map cI a1)] (ref24_Holds a0 a1) (fun r:Bool=>bv r):=ct_intro (N:=57) (L:=ref24_Holds_c) ref24_Holds_k rfl (Nat.le_of_ble_eq_true rfl) (by kernel_rfl) (by
 unfold ref24_Holds
 refine jS ⟨[V 1 (.fsl 1 (List.map cI a1)),V 2 (pt 0 3)],[W 0 3 [iv a0.Vars,.fsl 2 (List.map c_S_api_Clause a0.Clauses),.fsl 1 (List.map cI a0.Order)]],1⟩ ?_
 refine jc_seq ?_
 refine jR ?_
 refine jG 0 1 ⟨[V 1 (.fsl 1 (List.map cI a1)),V 2 (pt 0 3),V 9 (.agg [iv a0.Vars,.fsl 2 (List.map c_S_api_Clause a0.Clauses),.fsl 1 (List.map cI a0.Order)])],[W 0 3 [iv a0.Vars,.fsl 2 (List.map c_S_api_Clause a0.Clauses),.fsl 1 (List.map cI a0.Order)]],1⟩ ?_
 refine jK 1 (ref24_Fit_ok a0) ?_
 intro x1 h1
 refine jG 2 2 ⟨[V 1 (.fsl 1 (List.map cI a1)),V 2 (pt 0 3),V 12 (bv (!x1))],[W 0 3 [iv a0.Vars,.fsl 2 (List.map c_S_api_Clause a0.Clauses),.fsl 1 (List.map cI a0.Order)]],1⟩ ?_
 refine jr_bind 4 6 (fun x3=>⟨[V 1 (.fsl 1 (List.map cI a1)),V 2 (pt 0 3),V 18 (bv x3)],[W 0 3 [iv a0.Vars,.fsl 2 (List.map c_S_api_Clause a0.Clauses),.fsl 1 (List.map cI a0.Order)]],1⟩) ?_ ?_
 ·refine jSp 12 ?_ ?_
  ·refine jG 0 6 ⟨[V 1 (.fsl 1 (List.map cI a1)),V 2 (pt 0 3),V 18 (bv true)],[W 0 3 [iv a0.Vars,.fsl 2 (List.map c_S_api_Clause a0.Clauses),.fsl 1 (List.map cI a0.Order)]],1⟩ ?_
   refine jr_nil rfl ?_
   exact jx_mid rfl (wkR [(0,some 0)] (fix_nil _) (pc (hC 0) allp_nil))
  refine jG 0 3 ⟨[V 1 (.fsl 1 (List.map cI a1)),V 2 (pt 0 3),(12,.lit false),V 13 (.fsl 1 (List.map cI a1)),V 15 (iv a0.Vars)],[W 0 3 [iv a0.Vars,.fsl 2 (List.map c_S_api_Clause a0.Clauses),.fsl 1 (List.map cI a0.Order)]],1⟩ ?_
  refine jK 3 (ref24_Model_ok a1 a0.Vars) ?_
  intro x4 h4
  refine jG 4 2 ⟨[V 1 (.fsl 1 (List.map cI a1)),V 2 (pt 0 3),V 18 (bv (!x4))],[W 0 3 [iv a0.Vars,.fsl 2 (List.map c_S_api_Clause a0.Clauses),.fsl 1 (List.map cI a0.Order)]],1⟩ ?_
  refine jr_nil rfl ?_
  exact jx_mid rfl (wkR [(0,some 0)] (fix_nil _) (pc (hC 0) allp_nil))
 intro x3
 refine jN ?_
 refine jIf ?_ ?_
 ·refine jS ⟨[V 4 (bv false)],[],1⟩ ?_
  refine jc_ret ?_
  refine jx_seqR ?_
  exact jx_retF (.inr rfl) (v:=bv false) (by kernel_rfl) rfl (fle_refl _)
 refine jc_skip ?_
 refine jx_seqN ?_
 refine jc_seq ?_
 refine jS ⟨[V 1 (.fsl 1 (List.map cI a1)),V 2 (pt 0 3),V 5 (iv 0)],[W 0 3 [iv a0.Vars,.fsl 2 (List.map c_S_api_Clause a0.Clauses),.fsl 1 (List.map cI a0.Order)]],1⟩ ?_
 refine jc_block ?_
 refine jc_bind (fun y=>match y with | Sum.inl _=>⟨[V 4 (bv false)],[],0⟩ | Sum.inr _=>⟨[],[],0⟩) (fun y=>match y with | Sum.inl _=>.ret | Sum.inr _=>(.exit 0)) (jc_loop (fun x20=>⟨[V 1 (.fsl 1 (List.map cI a1)),V 2 (pt 0 3),V 5 (iv x20)],[W 0 3 [iv a0.Vars,.fsl 2 (List.map c_S_api_Clause a0.Clauses),.fsl 1 (List.map cI a0.Order)]],1⟩) (wkR [(0,some 0)] (fix_nil _) (pc (hC 0) allp_nil)) ?_) ?_
 ·intro x20
  unfold ref24_Holds_l2
  refine jc_seq ?_
  refine jR ?_
  refine jG 0 5 ⟨[V 1 (.fsl 1 (List.map cI a1)),V 2 (pt 0 3),V 5 (iv x20),V 23 (bv (decide (x20 < (List.length (List.map c_S_api_Clause a0.Clauses):Int))))],[W 0 3 [iv a0.Vars,.fsl 2 (List.map c_S_api_Clause a0.Clauses),.fsl 1 (List.map cI a0.Order)]],1⟩ ?_
  simp only[List.length_map]
  refine jN ?_
  refine jIf ?_ ?_
  ·refine jc_skip ?_
   refine jx_seqN ?_
   refine jc_seq ?_
   refine jc_block ?_
   refine jR ?_
   refine jG 0 3 ⟨[V 1 (.fsl 1 (List.map cI a1)),V 2 (pt 0 3),V 5 (iv x20),V 27 (.fsl 2 (List.map c_S_api_Clause a0.Clauses)),V 28 (iv x20)],[W 0 3 [iv a0.Vars,.fsl 2 (List.map c_S_api_Clause a0.Clauses),.fsl 1 (List.map cI a0.Order)]],1⟩ ?_
   refine jr_part (i:=3) (mo:=ixl a0.Clauses x20) rfl rfl rfl rfl (fun _ hc=>aop_ixf (c:=c_S_api_Clause) (sz:=2) (e:=55) (kk:=.i64) (by kernel_rfl) (by kernel_rfl) (by kernel_rfl) (by kernel_rfl) hc) (fun _=>rfl) ?_
   intro x37 h37
   refine jG 4 3 ⟨[V 1 (.fsl 1 (List.map cI a1)),V 2 (pt 0 3),V 5 (iv x20),V 6 (.fsl 1 (List.map cI x37.Lits))],[W 0 3 [iv a0.Vars,.fsl 2 (List.map c_S_api_Clause a0.Clauses),.fsl 1 (List.map cI a0.Order)]],1⟩ ?_
   refine jN ?_
   refine jS ⟨[V 1 (.fsl 1 (List.map cI a1)),V 2 (pt 0 3),V 5 (iv x20),V 6 (.fsl 1 (List.map cI x37.Lits)),V 7 (bv false)],[W 0 3 [iv a0.Vars,.fsl 2 (List.map c_S_api_Clause a0.Clauses),.fsl 1 (List.map cI a0.Order)]],1⟩ ?_
   refine jc_seq ?_
   refine jS ⟨[V 1 (.fsl 1 (List.map cI a1)),V 2 (pt 0 3),V 5 (iv x20),V 6 (.fsl 1 (List.map cI x37.Lits)),V 7 (bv false),V 8 (iv 0)],[W 0 3 [iv a0.Vars,.fsl 2 (List.map c_S_api_Clause a0.Clauses),.fsl 1 (List.map cI a0.Order)]],1⟩ ?_
   refine jc_block ?_
   refine jc_bind (fun x51=>⟨[V 1 (.fsl 1 (List.map cI a1)),V 2 (pt 0 3),V 5 (iv x20),V 7 (bv x51)],[W 0 3 [iv a0.Vars,.fsl 2 (List.map c_S_api_Clause a0.Clauses),.fsl 1 (List.map cI a0.Order)]],1⟩) (fun x51=>(.exit 2)) (jc_loop (fun (x42,x43)=>⟨[V 1 (.fsl 1 (List.map cI a1)),V 2 (pt 0 3),V 5 (iv x20),V 6 (.fsl 1 (List.map cI x37.Lits)),V 7 (bv x42),V 8 (iv x43)],[W 0 3 [iv a0.Vars,.fsl 2 (List.map c_S_api_Clause a0.Clauses),.fsl 1 (List.map cI a0.Order)]],1⟩) (wkR [(0,some 0)] (fix_nil _) (pc (hC 0) allp_nil)) ?_) ?_
   ·rintro⟨x42,x43⟩
    unfold ref24_Holds_l1
    refine jc_seq ?_
    refine jR ?_
    refine jG 0 4 ⟨[V 1 (.fsl 1 (List.map cI a1)),V 2 (pt 0 3),V 5 (iv x20),V 6 (.fsl 1 (List.map cI x37.Lits)),V 7 (bv x42),V 8 (iv x43),V 35 (bv (decide (x43 < (List.length (List.map cI x37.Lits):Int))))],[W 0 3 [iv a0.Vars,.fsl 2 (List.map c_S_api_Clause a0.Clauses),.fsl 1 (List.map cI a0.Order)]],1⟩ ?_
    simp only[List.length_map]
    refine jN ?_
    refine jIf ?_ ?_
    ·refine jc_skip ?_
     refine jx_seqN ?_
     refine jc_seq ?_
     refine jc_block ?_
     refine jc_reg ?_
     refine jG 0 2 ⟨[V 1 (.fsl 1 (List.map cI a1)),V 2 (pt 0 3),V 5 (iv x20),V 6 (.fsl 1 (List.map cI x37.Lits)),V 8 (iv x43),V 39 (bv x42)],[W 0 3 [iv a0.Vars,.fsl 2 (List.map c_S_api_Clause a0.Clauses),.fsl 1 (List.map cI a0.Order)]],1⟩ ?_
     refine jr_bind 2 15 (fun x56=>⟨[V 1 (.fsl 1 (List.map cI a1)),V 2 (pt 0 3),V 5 (iv x20),V 6 (.fsl 1 (List.map cI x37.Lits)),V 8 (iv x43),V 54 (bv x56)],[W 0 3 [iv a0.Vars,.fsl 2 (List.map c_S_api_Clause a0.Clauses),.fsl 1 (List.map cI a0.Order)]],1⟩) ?_ ?_
     ·refine jSp 39 ?_ ?_
      ·refine jG 0 15 ⟨[V 1 (.fsl 1 (List.map cI a1)),V 2 (pt 0 3),V 5 (iv x20),V 6 (.fsl 1 (List.map cI x37.Lits)),V 8 (iv x43),V 54 (bv true)],[W 0 3 [iv a0.Vars,.fsl 2 (List.map c_S_api_Clause a0.Clauses),.fsl 1 (List.map cI a0.Order)]],1⟩ ?_
       refine jr_nil rfl ?_
       exact jx_mid rfl (wkR [(0,some 0)] (fix_nil _) (pc (hC 0) allp_nil))
      refine jG 0 3 ⟨[V 1 (.fsl 1 (List.map cI a1)),V 2 (pt 0 3),V 5 (iv x20),V 6 (.fsl 1 (List.map cI x37.Lits)),V 8 (iv x43),(39,.lit false),V 40 (.fsl 1 (List.map cI a1)),V 41 (.fsl 1 (List.map cI x37.Lits)),V 42 (iv x43)],[W 0 3 [iv a0.Vars,.fsl 2 (List.map c_S_api_Clause a0.Clauses),.fsl 1 (List.map cI a0.Order)]],1⟩ ?_
      refine jr_part (i:=3) (mo:=ixl x37.Lits x43) rfl rfl rfl rfl (fun _ hc=>aop_ixf (c:=cI) (sz:=1) (e:=3) (kk:=.i64) (by kernel_rfl) (by kernel_rfl) (by kernel_rfl) (by kernel_rfl) hc) (fun _=>rfl) ?_
      intro x57 h57
      refine jG 4 1 ⟨[V 1 (.fsl 1 (List.map cI a1)),V 2 (pt 0 3),V 5 (iv x20),V 6 (.fsl 1 (List.map cI x37.Lits)),V 8 (iv x43),(39,.lit false),V 40 (.fsl 1 (List.map cI a1)),V 44 (iv x57)],[W 0 3 [iv a0.Vars,.fsl 2 (List.map c_S_api_Clause a0.Clauses),.fsl 1 (List.map cI a0.Order)]],1⟩ ?_
      refine jK 5 (ref24_abs_ok x57) ?_
      intro x58 h58
      refine jG 6 1 ⟨[V 1 (.fsl 1 (List.map cI a1)),V 2 (pt 0 3),V 5 (iv x20),V 6 (.fsl 1 (List.map cI x37.Lits)),V 8 (iv x43),(39,.lit false),V 40 (.fsl 1 (List.map cI a1)),V 46 (iv (w64 (x58 - 1)))],[W 0 3 [iv a0.Vars,.fsl 2 (List.map c_S_api_Clause a0.Clauses),.fsl 1 (List.map cI a0.Order)]],1⟩ ?_
      refine jr_part (i:=7) (mo:=ixl a1 (w64 (x58 - 1))) rfl rfl rfl rfl (fun _ hc=>aop_ixf (c:=cI) (sz:=1) (e:=3) (kk:=.i64) (by kernel_rfl) (by kernel_rfl) (by kernel_rfl) (by kernel_rfl) hc) (fun _=>rfl) ?_
      intro x59 h59
      refine jG 8 3 ⟨[V 1 (.fsl 1 (List.map cI a1)),V 2 (pt 0 3),V 5 (iv x20),V 6 (.fsl 1 (List.map cI x37.Lits)),V 8 (iv x43),(39,.lit false),V 48 (iv x59),V 49 (.fsl 1 (List.map cI x37.Lits)),V 50 (iv x43)],[W 0 3 [iv a0.Vars,.fsl 2 (List.map c_S_api_Clause a0.Clauses),.fsl 1 (List.map cI a0.Order)]],1⟩ ?_
      refine jr_part (i:=11) (mo:=ixl x37.Lits x43) rfl rfl rfl rfl (fun _ hc=>aop_ixf (c:=cI) (sz:=1) (e:=3) (kk:=.i64) (by kernel_rfl) (by kernel_rfl) (by kernel_rfl) (by kernel_rfl) hc) (fun _=>rfl) ?_
      intro x60 h60
      refine jG 12 3 ⟨[V 1 (.fsl 1 (List.map cI a1)),V 2 (pt 0 3),V 5 (iv x20),V 6 (.fsl 1 (List.map cI x37.Lits)),V 8 (iv x43),V 54 (bv (x59 == x60))],[W 0 3 [iv a0.Vars,.fsl 2 (List.map c_S_api_Clause a0.Clauses),.fsl 1 (List.map cI a0.Order)]],1⟩ ?_
      refine jr_nil rfl ?_
      exact jx_mid rfl (wkR [(0,some 0)] (fix_nil _) (pc (hC 0) allp_nil))
     intro x56
     refine jG 17 1 ⟨[V 1 (.fsl 1 (List.map cI a1)),V 2 (pt 0 3),V 5 (iv x20),V 6 (.fsl 1 (List.map cI x37.Lits)),V 7 (bv x56),V 8 (iv x43)],[W 0 3 [iv a0.Vars,.fsl 2 (List.map c_S_api_Clause a0.Clauses),.fsl 1 (List.map cI a0.Order)]],1⟩ ?_
     refine jr_nil rfl ?_
     refine jx_blkN ?_
     refine jx_seqN ?_
     refine jT ⟨[V 1 (.fsl 1 (List.map cI a1)),V 2 (pt 0 3),V 5 (iv x20),V 6 (.fsl 1 (List.map cI x37.Lits)),V 7 (bv x56),V 8 (iv (w64 (x43 + 1)))],[W 0 3 [iv a0.Vars,.fsl 2 (List.map c_S_api_Clause a0.Clauses),.fsl 1 (List.map cI a0.Order)]],1⟩ ?_
     exact jx_next (wkR [(0,some 0)] (fix_nil _) (pc (hC 0) allp_nil))
    refine jc_exit ?_
    refine jx_seqE ?_
    exact jx_done rfl nofun (wkR [(0,some 0)] (fix_nil _) (pc (hC 0) allp_nil))
   intro x51
   refine jx_blkE ?_
   refine jx_seqN ?_
   refine jS ⟨[V 1 (.fsl 1 (List.map cI a1)),V 2 (pt 0 3),V 5 (iv x20),V 56 (bv (!x51))],[W 0 3 [iv a0.Vars,.fsl 2 (List.map c_S_api_Clause a0.Clauses),.fsl 1 (List.map cI a0.Order)]],1⟩ ?_
   refine jIf ?_ ?_
   ·refine jS ⟨[V 4 (bv false)],[],1⟩ ?_
    refine jc_ret ?_
    refine jx_blkR ?_
    refine jx_seqR ?_
    exact jx_done rfl nofun (wkR [] (fix_nil _) allp_nil)
   refine jc_skip ?_
   refine jx_blkN ?_
   refine jx_seqN ?_
   refine jT ⟨[V 1 (.fsl 1 (List.map cI a1)),V 2 (pt 0 3),V 5 (iv (w64 (x20 + 1)))],[W 0 3 [iv a0.Vars,.fsl 2 (List.map c_S_api_Clause a0.Clauses),.fsl 1 (List.map cI a0.Order)]],1⟩ ?_
   exact jx_next (wkR [(0,some 0)] (fix_nil _) (pc (hC 0) allp_nil))
  refine jc_exit ?_
  refine jx_seqE ?_
  exact jx_done rfl nofun (wkR [] (fix_nil _) allp_nil)
 rintro (_ | _)
 ·refine jx_blkR ?_
  refine jx_seqR ?_
  exact jx_retF (.inr rfl) (v:=bv false) (by kernel_rfl) rfl (fle_refl _)
 refine jx_blkE ?_
 refine jx_seqN ?_
 refine jS ⟨[V 4 (bv true)],[],0⟩ ?_
 refine jc_ret ?_
 exact jx_retF (.inr rfl) (v:=bv true) (by kernel_rfl) rfl (fle_refl _))
abbrev law24_CnfTells_r1:List LO:=[lo 3 (.box 25 (.tmp 0)) 0,lo 6 (.assign (.const (.bool false))) 4]
abbrev law24_CnfTells_r2:List LO:=[lm 12 1 23,lo 13 (.call ⟨.value (.func 7),#[.tmp 12],#[23]⟩) 26,lm 11 13 26,lo 14 (.extract (.tmp 11) 0) 23,lo 15 (.extract (.tmp 11) 1) 4,lo 7 (.assign (.tmp 14)) 23,lo 8 (.assign (.tmp 15)) 4]
abbrev law24_CnfTells_r3:List LO:=[lm 17 1 23,lo 18 (.call ⟨.value (.func 8),#[.tmp 17],#[23]⟩) 26,lm 16 18 26,lo 19 (.extract (.tmp 16) 0) 23,lo 20 (.extract (.tmp 16) 1) 4,lo 9 (.assign (.tmp 19)) 23,lo 10 (.assign (.tmp 20)) 4]
abbrev law24_CnfTells_r4:List LO:=[lo 21 (.load 25 (.tmp 3)) 25,lo 22 (.call ⟨.value (.func 9),#[.tmp 21],#[25]⟩) 4,lo 23 (.load 25 (.tmp 3)) 25,lo 24 (.call ⟨.value (.func 10),#[.tmp 23],#[25]⟩) 4,lo 25 (.binOp .eql 4 (.tmp 22) (.tmp 24) 4) 4,lm 26 25 4,lmg 27 7 23 26 true,lmg 28 9 23 26 true,lg 29 (.call ⟨.value (.func 11),#[.tmp 27,.tmp 28],#[23,23]⟩) 4 26 true,lo 30 (.pick (.tmp 26) (.tmp 29) (.const (.bool false))) 4,lm 31 30 4,lmg 32 8 4 31 true,lmg 33 10 4 31 true,lg 34 (.binOp .eql 4 (.tmp 32) (.tmp 33) 4) 4 31 true,lo 35 (.pick (.tmp 31) (.tmp 34) (.const (.bool false))) 4,lm 36 35 4,lmg 37 1 23 36 true,lmg 38 2 23 36 true,lg 39 (.call ⟨.value (.func 12),#[.tmp 37,.tmp 38],#[23,23]⟩) 4 36 true,lmg 40 1 23 36 true,lmg 41 2 23 36 true,lg 42 (.call ⟨.value (.func 13),#[.tmp 40,.tmp 41],#[23,23]⟩) 4 36 true,lg 43 (.binOp .eql 4 (.tmp 39) (.tmp 42) 4) 4 36 true,lo 44 (.pick (.tmp 36) (.tmp 43) (.const (.bool false))) 4,lm 45 44 4,lg 46 (.load 25 (.tmp 3)) 25 45 true,lmg 47 2 23 45 true,lg 48 (.call ⟨.value (.func 14),#[.tmp 46,.tmp 47],#[25,23]⟩) 4 45 true,lg 49 (.load 25 (.tmp 3)) 25 45 true,lmg 50 2 23 45 true,lg 51 (.call ⟨.value (.func 15),#[.tmp 49,.tmp 50],#[25,23]⟩) 4 45 true,lg 52 (.binOp .eql 4 (.tmp 48) (.tmp 51) 4) 4 45 true,lo 53 (.pick (.tmp 45) (.tmp 52) (.const (.bool false))) 4,lm 54 53 4,lg 55 (.call ⟨.value (.func 16),#[],#[]⟩) 4 54 true,lo 56 (.pick (.tmp 54) (.tmp 55) (.const (.bool false))) 4,lo 6 (.assign (.tmp 56)) 4]
abbrev law24_CnfTells_c:LC:=.seq (.reg false law24_CnfTells_r1) (.seq (.reg false law24_CnfTells_r2) (.seq (.reg false law24_CnfTells_r3) (.seq (.reg true law24_CnfTells_r4) .ret)))
theorem law24_CnfTells_k:FnOk E 3 57 [.tmp 6] law24_CnfTells_c:=⟨⟨Go.Proofs.Tryd.f3,by kernel_rfl,by kernel_rfl,by kernel_rfl,by kernel_rfl,by kernel_rfl⟩,rfl,rfl⟩
noncomputable def law24_CnfTells (a0:S_api_Formula) (a1:(List Int)) (a2:(List Int)):Option (Bool):=Option.bind (cnf_Clean a1) (fun (x1,x2)=>Option.bind (ref24_Clean a1) (fun (x3,x4)=>Option.bind (cnf_Fit a0) (fun x5=>Option.bind (ref24_Fit a0) (fun x6=>Option.bind (if (x5 == x6)=true then Option.bind (ref24_Ints x1 x3) (fun x9=>some x9) else some false:Option (Bool)) (fun x8=>Option.bind (if (x8 && (x2 == x4))=true then Option.bind (cnf_True a1 a2) (fun x13=>Option.bind (ref24_True a1 a2) (fun x14=>some (x13 == x14))) else some false:Option (Bool)) (fun x12=>Option.bind (if x12=true then Option.bind (cnf_Holds a0 a2) (fun x18=>Option.bind (ref24_Holds a0 a2) (fun x19=>some (x18 == x19))) else some false:Option (Bool)) (fun x17=>Option.bind (if x17=true then Option.bind (law24_awake) (fun x22=>some x22) else some false:Option (Bool)) (fun x21=>some x21))))))))
theorem law24_CnfTells_ok (a0:S_api_Formula) (a1:(List Int)) (a2:(List Int)):Ct E 3 [.agg [iv a0.Vars,.fsl 2 (List.map c_S_api_Clause a0.Clauses),.fsl 1 (List.map cI a0.Order)],.fsl 1 (List.map cI a1),.fsl 1 (List.map cI a2)] (law24_CnfTells a0 a1 a2) (fun r:Bool=>bv r):=ct_intro (N:=57) (L:=law24_CnfTells_c) law24_CnfTells_k rfl (Nat.le_of_ble_eq_true rfl) (by kernel_rfl) (by
 unfold law24_CnfTells
 refine jS ⟨[V 1 (.fsl 1 (List.map cI a1)),V 2 (.fsl 1 (List.map cI a2)),V 3 (pt 0 3)],[W 0 3 [iv a0.Vars,.fsl 2 (List.map c_S_api_Clause a0.Clauses),.fsl 1 (List.map cI a0.Order)]],1⟩ ?_
 refine jR ?_
 refine jG 0 1 ⟨[V 1 (.fsl 1 (List.map cI a1)),V 2 (.fsl 1 (List.map cI a2)),V 3 (pt 0 3),V 12 (.fsl 1 (List.map cI a1))],[W 0 3 [iv a0.Vars,.fsl 2 (List.map c_S_api_Clause a0.Clauses),.fsl 1 (List.map cI a0.Order)]],1⟩ ?_
 refine jr_callM 1 [] [(1,some 0)] (fun r:List Int × Bool=>[W 0 3 [iv a0.Vars,.fsl 2 (List.map c_S_api_Clause a0.Clauses),.fsl 1 (List.map cI a0.Order)],(1,.rows 1 (List.map cI r.1))]) (fun r:List Int × Bool=>.tup [.osl 1 0 (List.length r.1) 1,bv r.2]) 2 (cnf_Clean_ok a1) allp_nil (fun r=>(pc (.inl ⟨rfl,rfl⟩) (pc (.inr (hL 0 (noid_map ni_I _))) allp_nil))) ?_
 rintro⟨x1,x2⟩ hm2
 refine jG 2 5 ⟨[V 1 (.fsl 1 (List.map cI a1)),V 2 (.fsl 1 (List.map cI a2)),V 3 (pt 0 3),V 7 (.osl 1 0 (List.length x1) 1),V 8 (bv x2)],[W 0 3 [iv a0.Vars,.fsl 2 (List.map c_S_api_Clause a0.Clauses),.fsl 1 (List.map cI a0.Order)],(1,.rows 1 (List.map cI x1))],2⟩ ?_
 refine jN ?_
 refine jR ?_
 refine jG 0 1 ⟨[V 1 (.fsl 1 (List.map cI a1)),V 2 (.fsl 1 (List.map cI a2)),V 3 (pt 0 3),V 7 (.osl 1 0 (List.length x1) 1),V 8 (bv x2),V 17 (.fsl 1 (List.map cI a1))],[W 0 3 [iv a0.Vars,.fsl 2 (List.map c_S_api_Clause a0.Clauses),.fsl 1 (List.map cI a0.Order)],(1,.rows 1 (List.map cI x1))],2⟩ ?_
 refine jr_callM 1 [] [(2,some 0)] (fun r:List Int × Bool=>[W 0 3 [iv a0.Vars,.fsl 2 (List.map c_S_api_Clause a0.Clauses),.fsl 1 (List.map cI a0.Order)],(1,.rows 1 (List.map cI x1)),(2,.rows 1 (List.map cI r.1))]) (fun r:List Int × Bool=>.tup [.osl 2 0 (List.length r.1) 1,bv r.2]) 3 (ref24_Clean_ok a1) allp_nil (fun r=>(pc (.inl ⟨rfl,rfl⟩) (pc (.inl ⟨rfl,rfl⟩) (pc (.inr (hL 0 (noid_map ni_I _))) allp_nil)))) ?_
 rintro⟨x3,x4⟩ hm1
 refine jG 2 5 ⟨[V 1 (.fsl 1 (List.map cI a1)),V 2 (.fsl 1 (List.map cI a2)),V 3 (pt 0 3),V 7 (.osl 1 0 (List.length x1) 1),V 8 (bv x2),V 9 (.osl 2 0 (List.length x3) 1),V 10 (bv x4)],[W 0 3 [iv a0.Vars,.fsl 2 (List.map c_S_api_Clause a0.Clauses),.fsl 1 (List.map cI a0.Order)],(1,.rows 1 (List.map cI x1)),(2,.rows 1 (List.map cI x3))],3⟩ ?_
 refine jN ?_
 refine jR ?_
 refine jG 0 1 ⟨[V 1 (.fsl 1 (List.map cI a1)),V 2 (.fsl 1 (List.map cI a2)),V 3 (pt 0 3),V 7 (.osl 1 0 (List.length x1) 1),V 8 (bv x2),V 9 (.osl 2 0 (List.length x3) 1),V 10 (bv x4),V 21 (.agg [iv a0.Vars,.fsl 2 (List.map c_S_api_Clause a0.Clauses),.fsl 1 (List.map cI a0.Order)])],[W 0 3 [iv a0.Vars,.fsl 2 (List.map c_S_api_Clause a0.Clauses),.fsl 1 (List.map cI a0.Order)],(1,.rows 1 (List.map cI x1)),(2,.rows 1 (List.map cI x3))],3⟩ ?_
 refine jK 1 (cnf_Fit_ok a0) ?_
 intro x5 h5
 refine jG 2 1 ⟨[V 1 (.fsl 1 (List.map cI a1)),V 2 (.fsl 1 (List.map cI a2)),V 3 (pt 0 3),V 7 (.osl 1 0 (List.length x1) 1),V 8 (bv x2),V 9 (.osl 2 0 (List.length x3) 1),V 10 (bv x4),V 22 (bv x5),V 23 (.agg [iv a0.Vars,.fsl 2 (List.map c_S_api_Clause a0.Clauses),.fsl 1 (List.map cI a0.Order)])],[W 0 3 [iv a0.Vars,.fsl 2 (List.map c_S_api_Clause a0.Clauses),.fsl 1 (List.map cI a0.Order)],(1,.rows 1 (List.map cI x1)),(2,.rows 1 (List.map cI x3))],3⟩ ?_
 refine jK 3 (ref24_Fit_ok a0) ?_
 intro x6 h6
 refine jG 4 2 ⟨[V 1 (.fsl 1 (List.map cI a1)),V 2 (.fsl 1 (List.map cI a2)),V 3 (pt 0 3),V 7 (.osl 1 0 (List.length x1) 1),V 8 (bv x2),V 9 (.osl 2 0 (List.length x3) 1),V 10 (bv x4),V 26 (bv (x5 == x6))],[W 0 3 [iv a0.Vars,.fsl 2 (List.map c_S_api_Clause a0.Clauses),.fsl 1 (List.map cI a0.Order)],(1,.rows 1 (List.map cI x1)),(2,.rows 1 (List.map cI x3))],3⟩ ?_
 refine jr_bind 6 4 (fun x8=>⟨[V 1 (.fsl 1 (List.map cI a1)),V 2 (.fsl 1 (List.map cI a2)),V 3 (pt 0 3),V 8 (bv x2),V 10 (bv x4),V 30 (bv x8)],[W 0 3 [iv a0.Vars,.fsl 2 (List.map c_S_api_Clause a0.Clauses),.fsl 1 (List.map cI a0.Order)]],1⟩) ?_ ?_
 ·refine jSp 26 ?_ ?_
  ·refine jG 0 2 ⟨[V 1 (.fsl 1 (List.map cI a1)),V 2 (.fsl 1 (List.map cI a2)),V 3 (pt 0 3),V 8 (bv x2),V 10 (bv x4),(26,.lit true),V 27 (.osl 1 0 (List.length x1) 1),V 28 (.osl 2 0 (List.length x3) 1)],[W 0 3 [iv a0.Vars,.fsl 2 (List.map c_S_api_Clause a0.Clauses),.fsl 1 (List.map cI a0.Order)],(1,.rows 1 (List.map cI x1)),(2,.rows 1 (List.map cI x3))],3⟩ ?_
   refine jr_callF (i:=2) rfl rfl rfl rfl (vs:=[.osl 1 0 (List.length x1) 1,.osl 2 0 (List.length x3) 1]) (by kernel_rfl) (snapL_cons (snapc_own fz_I (by kernel_rfl)) (snapL_cons (snapc_own fz_I (by kernel_rfl)) (snapL_nil _))) (all2_cons (fle_refl _) (all2_cons (fle_refl _) all2_nil)) (ref24_Ints_ok x1 x3) (fun _=>rfl) (fun _=>rfl) ?_
   intro x9 h9
   refine jG 3 1 ⟨[V 1 (.fsl 1 (List.map cI a1)),V 2 (.fsl 1 (List.map cI a2)),V 3 (pt 0 3),V 8 (bv x2),V 10 (bv x4),V 30 (bv x9)],[W 0 3 [iv a0.Vars,.fsl 2 (List.map c_S_api_Clause a0.Clauses),.fsl 1 (List.map cI a0.Order)]],3⟩ ?_
   refine jr_nil rfl ?_
   exact jx_mid rfl (wkR [(0,some 0)] (fix_nil _) (pc (hC 0) allp_nil))
  refine jG 0 4 ⟨[V 1 (.fsl 1 (List.map cI a1)),V 2 (.fsl 1 (List.map cI a2)),V 3 (pt 0 3),V 8 (bv x2),V 10 (bv x4),V 30 (bv false)],[W 0 3 [iv a0.Vars,.fsl 2 (List.map c_S_api_Clause a0.Clauses),.fsl 1 (List.map cI a0.Order)]],3⟩ ?_
  refine jr_nil rfl ?_
  exact jx_mid rfl (wkR [(0,some 0)] (fix_nil _) (pc (hC 0) allp_nil))
 intro x8
 refine jG 10 6 ⟨[V 1 (.fsl 1 (List.map cI a1)),V 2 (.fsl 1 (List.map cI a2)),V 3 (pt 0 3),V 36 (bv (x8 && (x2 == x4)))],[W 0 3 [iv a0.Vars,.fsl 2 (List.map c_S_api_Clause a0.Clauses),.fsl 1 (List.map cI a0.Order)]],1⟩ ?_
 refine jr_bind 16 8 (fun x12=>⟨[V 2 (.fsl 1 (List.map cI a2)),V 3 (pt 0 3),V 44 (bv x12)],[W 0 3 [iv a0.Vars,.fsl 2 (List.map c_S_api_Clause a0.Clauses),.fsl 1 (List.map cI a0.Order)]],1⟩) ?_ ?_
 ·refine jSp 36 ?_ ?_
  ·refine jG 0 2 ⟨[V 1 (.fsl 1 (List.map cI a1)),V 2 (.fsl 1 (List.map cI a2)),V 3 (pt 0 3),(36,.lit true),V 37 (.fsl 1 (List.map cI a1)),V 38 (.fsl 1 (List.map cI a2))],[W 0 3 [iv a0.Vars,.fsl 2 (List.map c_S_api_Clause a0.Clauses),.fsl 1 (List.map cI a0.Order)]],1⟩ ?_
   refine jK 2 (cnf_True_ok a1 a2) ?_
   intro x13 h13
   refine jG 3 2 ⟨[V 2 (.fsl 1 (List.map cI a2)),V 3 (pt 0 3),(36,.lit true),V 39 (bv x13),V 40 (.fsl 1 (List.map cI a1)),V 41 (.fsl 1 (List.map cI a2))],[W 0 3 [iv a0.Vars,.fsl 2 (List.map c_S_api_Clause a0.Clauses),.fsl 1 (List.map cI a0.Order)]],1⟩ ?_
   refine jK 5 (ref24_True_ok a1 a2) ?_
   intro x14 h14
   refine jG 6 2 ⟨[V 2 (.fsl 1 (List.map cI a2)),V 3 (pt 0 3),V 44 (bv (x13 == x14))],[W 0 3 [iv a0.Vars,.fsl 2 (List.map c_S_api_Clause a0.Clauses),.fsl 1 (List.map cI a0.Order)]],1⟩ ?_
   refine jr_nil rfl ?_
   exact jx_mid rfl (wkR [(0,some 0)] (fix_nil _) (pc (hC 0) allp_nil))
  refine jG 0 8 ⟨[V 2 (.fsl 1 (List.map cI a2)),V 3 (pt 0 3),V 44 (bv false)],[W 0 3 [iv a0.Vars,.fsl 2 (List.map c_S_api_Clause a0.Clauses),.fsl 1 (List.map cI a0.Order)]],1⟩ ?_
  refine jr_nil rfl ?_
  exact jx_mid rfl (wkR [(0,some 0)] (fix_nil _) (pc (hC 0) allp_nil))
 intro x12
 refine jG 24 1 ⟨[V 2 (.fsl 1 (List.map cI a2)),V 3 (pt 0 3),V 45 (bv x12)],[W 0 3 [iv a0.Vars,.fsl 2 (List.map c_S_api_Clause a0.Clauses),.fsl 1 (List.map cI a0.Order)]],1⟩ ?_
 refine jr_bind 25 8 (fun x17=>⟨[V 53 (bv x17)],[],0⟩) ?_ ?_
 ·refine jSp 45 ?_ ?_
  ·refine jG 0 2 ⟨[V 2 (.fsl 1 (List.map cI a2)),V 3 (pt 0 3),(45,.lit true),V 46 (.agg [iv a0.Vars,.fsl 2 (List.map c_S_api_Clause a0.Clauses),.fsl 1 (List.map cI a0.Order)]),V 47 (.fsl 1 (List.map cI a2))],[W 0 3 [iv a0.Vars,.fsl 2 (List.map c_S_api_Clause a0.Clauses),.fsl 1 (List.map cI a0.Order)]],1⟩ ?_
   refine jK 2 (cnf_Holds_ok a0 a2) ?_
   intro x18 h18
   refine jG 3 2 ⟨[(45,.lit true),V 48 (bv x18),V 49 (.agg [iv a0.Vars,.fsl 2 (List.map c_S_api_Clause a0.Clauses),.fsl 1 (List.map cI a0.Order)]),V 50 (.fsl 1 (List.map cI a2))],[],1⟩ ?_
   refine jK 5 (ref24_Holds_ok a0 a2) ?_
   intro x19 h19
   refine jG 6 2 ⟨[V 53 (bv (x18 == x19))],[],1⟩ ?_
   refine jr_nil rfl ?_
   exact jx_mid rfl (wkR [] (fix_nil _) allp_nil)
  refine jG 0 8 ⟨[V 53 (bv false)],[],1⟩ ?_
  refine jr_nil rfl ?_
  exact jx_mid rfl (wkR [] (fix_nil _) allp_nil)
 intro x17
 refine jG 33 1 ⟨[V 54 (bv x17)],[],0⟩ ?_
 refine jr_bind 34 2 (fun x21=>⟨[V 56 (bv x21)],[],0⟩) ?_ ?_
 ·refine jSp 54 ?_ ?_
  ·refine jK 0 (law24_awake_ok) ?_
   intro x22 h22
   refine jG 1 1 ⟨[V 56 (bv x22)],[],0⟩ ?_
   refine jr_nil rfl ?_
   exact jx_mid rfl (wkR [] (fix_nil _) allp_nil)
  refine jG 0 2 ⟨[V 56 (bv false)],[],0⟩ ?_
  refine jr_nil rfl ?_
  exact jx_mid rfl (wkR [] (fix_nil _) allp_nil)
 intro x21
 refine jG 36 1 ⟨[V 6 (bv x21)],[],0⟩ ?_
 refine jN ?_
 refine jc_ret ?_
 exact jx_retF (.inr rfl) (v:=bv x21) (by kernel_rfl) rfl (fle_refl _))
end Go.Vm

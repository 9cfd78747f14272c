/- The law CnfAtMost, a part of its proof: what the functions that it reaches compute. -/
import Derived.Test.YtodndfhcfhemdaaDoorDxb7d7fec1
import Derived.Test.YtodndfhcfhemdaaDoorW24CnfAtMost
set_option linter.unusedVariables false
set_option linter.unusedSimpArgs false
set_option linter.unusedVariables false
namespace Go.Vm
open Go
structure S_api_Clause where
  Lits:(List Int)
  Tag:Int
  deriving DecidableEq,Inhabited
abbrev c_S_api_Clause (x:S_api_Clause):List AV:=[.fsl 1 (List.map cI x.Lits),iv x.Tag]
theorem ni_S_api_Clause (x:S_api_Clause):NoIds (c_S_api_Clause x):=noids_cons (noid_fsl _ _) (noids_cons (noid_s _) (noids_nil))
theorem fz_S_api_Clause (x:S_api_Clause):Frz (c_S_api_Clause x):=frz_fsl (frz_s (frz_nil))
structure S_api_Formula where
  Vars:Int
  Clauses:(List S_api_Clause)
  Order:(List Int)
  deriving DecidableEq,Inhabited
set_option maxRecDepth 100000
set_option maxHeartbeats 0
set_option linter.unusedSimpArgs false
noncomputable def slices_Clone_int_int (a0:List Int):Option (List Int):=Option.bind (app 8 ([]:List Int) a0) (fun x3=>some x3)
abbrev cnf_literal_r1:List LO:=[lo 4 (.assign (.const (.bool false))) 4]
abbrev cnf_literal_r2:List LO:=[lm 5 0 3,lo 6 (.binOp .neq 3 (.tmp 5) (.const (.int .i64 0)) 3) 4,lm 7 6 4,lmg 8 0 3 7 true,lmg 9 1 3 7 true,lg 10 (.binOp .leq 3 (.tmp 8) (.tmp 9) 3) 4 7 true,lo 11 (.pick (.tmp 7) (.tmp 10) (.const (.bool false))) 4,lm 12 11 4,lmg 13 0 3 12 true,lmg 14 1 3 12 true,lg 15 (.unOp .neg 3 (.tmp 14)) 3 12 true,lg 16 (.binOp .geq 3 (.tmp 13) (.tmp 15) 3) 4 12 true,lo 17 (.pick (.tmp 12) (.tmp 16) (.const (.bool false))) 4,lo 4 (.assign (.tmp 17)) 4]
abbrev cnf_literal_c:LC:=.seq (.reg false cnf_literal_r1) (.seq (.reg false cnf_literal_r2) .ret)
theorem cnf_literal_k:FnOk E 30 18 [.tmp 4] cnf_literal_c:=⟨⟨Go.Proofs.Tryd.f30,by kernel_rfl,by kernel_rfl,by kernel_rfl,by kernel_rfl,by kernel_rfl⟩,rfl,rfl⟩
noncomputable def cnf_literal (a0:Int) (a1:Int):Option (Bool):=some (((a0 != 0) && (decide (a0≤a1))) && (decide (a0≥(w64 (0 - a1)))))
theorem cnf_literal_ok (a0:Int) (a1:Int):Ct E 30 [iv a0,iv a1] (cnf_literal a0 a1) (fun r:Bool=>bv r):=ct_intro (N:=18) (L:=cnf_literal_c) cnf_literal_k rfl (Nat.le_of_ble_eq_true rfl) (by kernel_rfl) (by
 unfold cnf_literal
 refine jS ⟨[V 0 (iv a0),V 1 (iv a1)],[],0⟩ ?_
 refine jS ⟨[V 4 (bv (((a0 != 0) && (decide (a0≤a1))) && (decide (a0≥(w64 (0 - a1))))))],[],0⟩ ?_
 refine jc_ret ?_
 exact jx_retF (.inr rfl) (v:=bv (((a0 != 0) && (decide (a0≤a1))) && (decide (a0≥(w64 (0 - a1)))))) (by kernel_rfl) rfl (fle_refl _))
noncomputable def cnf_Clean_l1 (x17:List Int):Int→Option (Step (Int) ((Unit) ⊕ (Unit))):=fun x20=>(if (decide (x20 < (List.length x17:Int)))=true then Option.bind (ixl x17 x20) (fun x24=>Option.bind (cnf_literal x24 4096) (fun x25=>(if (!x25)=true then some (Step.done (Sum.inl ())) else some (Step.next (w64 (x20 + 1)))))) else some (Step.done (Sum.inr ())))
noncomputable def cnf_Clean_l2 (x27:List Int):Int→Option (Step (Int) ((Unit) ⊕ (Unit))):=fun x28=>(if (decide (x28 < (List.length x27:Int)))=true then Option.bind (if (decide (x28 > 0))=true then Option.bind (ixl x27 (w64 (x28 - 1))) (fun x36=>Option.bind (ixl x27 x28) (fun x37=>some (x36 == (w64 (0 - x37))))) else some false:Option (Bool)) (fun x35=>(if x35=true then some (Step.done (Sum.inl ())) else some (Step.next (w64 (x28 + 1))))) else some (Step.done (Sum.inr ())))
noncomputable def cnf_Clean (a0:List Int):Option (List Int × Bool):=Option.bind (slices_Clone_int_int a0) (fun x17=>Option.bind (loopC (cnf_Clean_l1 x17) 0) (fun y=>match y with | Sum.inl _=>some ([],false) | Sum.inr _=>Option.bind (slices_SortFuncV x17) (fun x26=>Option.bind (slices_CompactI x26) (fun x27=>Option.bind (loopC (cnf_Clean_l2 x27) 0) (fun y=>match y with | Sum.inl _=>some ([],false) | Sum.inr _=>some (x27,true))))))
abbrev cnf_size_r1:List LO:=[lo 2 (.assign (.const (.int .i64 0))) 3]
abbrev cnf_size_r2:List LO:=[lm 3 0 3,lm 4 0 3,lo 5 (.unOp .neg 3 (.tmp 4)) 3,lo 6 (.call ⟨.builtin .max,#[.tmp 3,.tmp 5],#[3,3]⟩) 3,lo 2 (.assign (.tmp 6)) 3]
abbrev cnf_size_c:LC:=.seq (.reg false cnf_size_r1) (.seq (.reg false cnf_size_r2) .ret)
theorem cnf_size_k:FnOk E 43 7 [.tmp 2] cnf_size_c:=⟨⟨Go.Proofs.Tryd.f43,by kernel_rfl,by kernel_rfl,by kernel_rfl,by kernel_rfl,by kernel_rfl⟩,rfl,rfl⟩
noncomputable def cnf_size (a0:Int):Option (Int):=some (if (w64 (0 - a0)) > a0 then (w64 (0 - a0)) else a0)
theorem cnf_size_ok (a0:Int):Ct E 43 [iv a0] (cnf_size a0) (fun r:Int=>iv r):=ct_intro (N:=7) (L:=cnf_size_c) cnf_size_k rfl (Nat.le_of_ble_eq_true rfl) (by kernel_rfl) (by
 unfold cnf_size
 refine jS ⟨[V 0 (iv a0)],[],0⟩ ?_
 refine jS ⟨[V 2 (iv (if (w64 (0 - a0)) > a0 then (w64 (0 - a0)) else a0))],[],0⟩ ?_
 refine jc_ret ?_
 exact jx_retF (.inr rfl) (v:=iv (if (w64 (0 - a0)) > a0 then (w64 (0 - a0)) else a0)) (by kernel_rfl) rfl (fle_refl _))
abbrev cnf_clean_r1:List LO:=[lo 4 (.assign (.const (.bool false))) 4]
abbrev cnf_clean_r2:List LO:=[lm 7 0 23,lo 8 (.call ⟨.builtin .len,#[.tmp 7],#[23]⟩) 3,lo 9 (.move (.const (.int .i64 0))) 3]
abbrev cnf_clean_r3:List LO:=[lo 10 (.binOp .lss 3 (.tmp 9) (.tmp 8) 3) 0]
abbrev cnf_clean_r4:List LO:=[lm 11 9 3,lo 12 (.indexAddr 23 (.tmp 7) (.tmp 9)) 0,lo 13 (.load 3 (.tmp 12)) 3,lo 5 (.assign (.tmp 11)) 3,lo 6 (.assign (.tmp 13)) 3]
abbrev cnf_clean_r5:List LO:=[lm 14 6 3,lm 15 1 3,lo 16 (.call ⟨.value (.func 30),#[.tmp 14,.tmp 15],#[3,3]⟩) 4,lo 17 (.unOp .not 4 (.tmp 16)) 4,lm 18 17 4,lmg 19 5 3 18 false,lg 20 (.binOp .gtr 3 (.tmp 19) (.const (.int .i64 0)) 3) 4 18 false,lmg 21 20 4 18 false,lmg 22 0 23 21 true,lmg 23 5 3 21 true,lg 24 (.binOp .sub 3 (.tmp 23) (.const (.int .i64 1)) 3) 3 21 true,lg 25 (.indexAddr 23 (.tmp 22) (.tmp 24)) 0 21 true,lg 26 (.load 3 (.tmp 25)) 3 21 true,lg 27 (.call ⟨.value (.func 43),#[.tmp 26],#[3]⟩) 3 21 true,lmg 28 6 3 21 true,lg 29 (.call ⟨.value (.func 43),#[.tmp 28],#[3]⟩) 3 21 true,lg 30 (.binOp .geq 3 (.tmp 27) (.tmp 29) 3) 4 21 true,lg 31 (.pick (.tmp 21) (.tmp 30) (.const (.bool false))) 4 18 false,lo 32 (.pick (.tmp 18) (.const (.bool true)) (.tmp 31)) 4]
abbrev cnf_clean_r6:List LO:=[lo 4 (.assign (.const (.bool false))) 4]
abbrev cnf_clean_r7:List LO:=[lo 33 (.binOp .add 3 (.tmp 9) (.const (.int .i64 1)) 3) 3,lm 9 33 3]
abbrev cnf_clean_r8:List LO:=[lo 4 (.assign (.const (.bool true))) 4]
abbrev cnf_clean_c:LC:=.seq (.reg false cnf_clean_r1) (.seq (.seq (.reg false cnf_clean_r2) (.block 0 (.loop (.seq (.reg false cnf_clean_r3) (.seq (.cond (.tmp 10) .skip (.exit 0)) (.seq (.block 1 (.seq (.reg false cnf_clean_r4) (.seq (.reg false cnf_clean_r5) (.cond (.tmp 32) (.seq (.reg false cnf_clean_r6) .ret) .skip)))) (.reg false cnf_clean_r7))))))) (.seq (.reg false cnf_clean_r8) .ret))
theorem cnf_clean_k:FnOk E 36 34 [.tmp 4] cnf_clean_c:=⟨⟨Go.Proofs.Tryd.f36,by kernel_rfl,by kernel_rfl,by kernel_rfl,by kernel_rfl,by kernel_rfl⟩,rfl,rfl⟩
noncomputable def cnf_clean_l1 (a0:(List Int)) (a1:Int):Int→Option (Step (Int) ((Unit) ⊕ (Unit))):=fun x4=>(if (decide (x4 < (List.length a0:Int)))=true then Option.bind (ixl a0 x4) (fun x13=>Option.bind (cnf_literal x13 a1) (fun x14=>Option.bind (if (!x14)=true then some true else Option.bind (if (decide (x4 > 0))=true then Option.bind (ixl a0 (w64 (x4 - 1))) (fun x24=>Option.bind (cnf_size x24) (fun x25=>Option.bind (cnf_size x13) (fun x26=>some (decide (x25≥x26))))) else some false:Option (Bool)) (fun x23=>some (false || x23)):Option (Bool)) (fun x19=>(if x19=true then some (Step.done (Sum.inl ())) else some (Step.next (w64 (x4 + 1))))))) else some (Step.done (Sum.inr ())))
noncomputable def cnf_clean (a0:(List Int)) (a1:Int):Option (Bool):=Option.bind (loopC (cnf_clean_l1 a0 a1) 0) (fun y=>match y with | Sum.inl _=>some false | Sum.inr _=>some true)
theorem cnf_clean_ok (a0:(List Int)) (a1:Int):Ct E 36 [.fsl 1 (List.map cI a0),iv a1] (cnf_clean a0 a1) (fun r:Bool=>bv r):=ct_intro (N:=34) (L:=cnf_clean_c) cnf_clean_k rfl (Nat.le_of_ble_eq_true rfl) (by kernel_rfl) (by
 unfold cnf_clean
 refine jS ⟨[V 0 (.fsl 1 (List.map cI a0)),V 1 (iv a1)],[],0⟩ ?_
 refine jc_seq ?_
 refine jR ?_
 refine jG 0 3 ⟨[V 0 (.fsl 1 (List.map cI a0)),V 1 (iv a1),V 7 (.fsl 1 (List.map cI a0)),V 8 (iv (List.length (List.map cI a0):Int)),V 9 (iv 0)],[],0⟩ ?_
 simp only[List.length_map]
 refine jN ?_
 refine jc_block ?_
 refine jc_bind (fun y=>match y with | Sum.inl _=>⟨[V 4 (bv false)],[],0⟩ | Sum.inr _=>⟨[],[],0⟩) (fun y=>match y with | Sum.inl _=>.ret | Sum.inr _=>(.exit 0)) (jc_loop (fun x4=>⟨[V 0 (.fsl 1 (List.map cI a0)),V 1 (iv a1),V 7 (.fsl 1 (List.map cI a0)),V 8 (iv (List.length a0:Int)),V 9 (iv x4)],[],0⟩) (wkR [] (fix_nil _) allp_nil) ?_) ?_
 ·intro x4
  unfold cnf_clean_l1
  refine jS ⟨[V 0 (.fsl 1 (List.map cI a0)),V 1 (iv a1),V 7 (.fsl 1 (List.map cI a0)),V 8 (iv (List.length a0:Int)),V 9 (iv x4),V 10 (bv (decide (x4 < (List.length a0:Int))))],[],0⟩ ?_
  refine jc_seq ?_
  refine jIf ?_ ?_
  ·refine jc_skip ?_
   refine jx_seqN ?_
   refine jc_seq ?_
   refine jc_block ?_
   refine jR ?_
   refine jG 0 1 ⟨[V 0 (.fsl 1 (List.map cI a0)),V 1 (iv a1),V 7 (.fsl 1 (List.map cI a0)),V 8 (iv (List.length a0:Int)),V 9 (iv x4),V 11 (iv x4)],[],0⟩ ?_
   refine jr_part (i:=1) (mo:=ixl a0 x4) rfl rfl rfl rfl (fun _ hc=>aop_ixf (c:=cI) (sz:=1) (e:=3) (kk:=.i64) (by kernel_rfl) (by kernel_rfl) (by kernel_rfl) (by kernel_rfl) hc) (fun _=>rfl) ?_
   intro x13 h13
   refine jG 2 3 ⟨[V 0 (.fsl 1 (List.map cI a0)),V 1 (iv a1),V 5 (iv x4),V 6 (iv x13),V 7 (.fsl 1 (List.map cI a0)),V 8 (iv (List.length a0:Int)),V 9 (iv x4)],[],0⟩ ?_
   refine jN ?_
   refine jR ?_
   refine jG 0 2 ⟨[V 0 (.fsl 1 (List.map cI a0)),V 1 (iv a1),V 5 (iv x4),V 6 (iv x13),V 7 (.fsl 1 (List.map cI a0)),V 8 (iv (List.length a0:Int)),V 9 (iv x4),V 14 (iv x13),V 15 (iv a1)],[],0⟩ ?_
   refine jK 2 (cnf_literal_ok x13 a1) ?_
   intro x14 h14
   refine jG 3 2 ⟨[V 0 (.fsl 1 (List.map cI a0)),V 1 (iv a1),V 5 (iv x4),V 6 (iv x13),V 7 (.fsl 1 (List.map cI a0)),V 8 (iv (List.length a0:Int)),V 9 (iv x4),V 18 (bv (!x14))],[],0⟩ ?_
   refine jr_bind 5 14 (fun x19=>⟨[V 0 (.fsl 1 (List.map cI a0)),V 1 (iv a1),V 7 (.fsl 1 (List.map cI a0)),V 8 (iv (List.length a0:Int)),V 9 (iv x4),V 32 (bv x19)],[],0⟩) ?_ ?_
   ·refine jSp 18 ?_ ?_
    ·refine jG 0 14 ⟨[V 0 (.fsl 1 (List.map cI a0)),V 1 (iv a1),V 7 (.fsl 1 (List.map cI a0)),V 8 (iv (List.length a0:Int)),V 9 (iv x4),V 32 (bv true)],[],0⟩ ?_
     refine jr_nil rfl ?_
     exact jx_mid rfl (wkR [] (fix_nil _) allp_nil)
    refine jG 0 3 ⟨[V 0 (.fsl 1 (List.map cI a0)),V 1 (iv a1),V 5 (iv x4),V 6 (iv x13),V 7 (.fsl 1 (List.map cI a0)),V 8 (iv (List.length a0:Int)),V 9 (iv x4),(18,.lit false),V 21 (bv (decide (x4 > 0)))],[],0⟩ ?_
    refine jr_bind 3 10 (fun x23=>⟨[V 0 (.fsl 1 (List.map cI a0)),V 1 (iv a1),V 7 (.fsl 1 (List.map cI a0)),V 8 (iv (List.length a0:Int)),V 9 (iv x4),V 18 (bv false),V 31 (bv x23)],[],0⟩) ?_ ?_
    ·refine jSp 21 ?_ ?_
     ·refine jG 0 3 ⟨[V 0 (.fsl 1 (List.map cI a0)),V 1 (iv a1),V 6 (iv x13),V 7 (.fsl 1 (List.map cI a0)),V 8 (iv (List.length a0:Int)),V 9 (iv x4),(18,.lit false),(21,.lit true),V 22 (.fsl 1 (List.map cI a0)),V 24 (iv (w64 (x4 - 1)))],[],0⟩ ?_
      refine jr_part (i:=3) (mo:=ixl a0 (w64 (x4 - 1))) rfl rfl rfl rfl (fun _ hc=>aop_ixf (c:=cI) (sz:=1) (e:=3) (kk:=.i64) (by kernel_rfl) (by kernel_rfl) (by kernel_rfl) (by kernel_rfl) hc) (fun _=>rfl) ?_
      intro x24 h24
      refine jG 4 1 ⟨[V 0 (.fsl 1 (List.map cI a0)),V 1 (iv a1),V 6 (iv x13),V 7 (.fsl 1 (List.map cI a0)),V 8 (iv (List.length a0:Int)),V 9 (iv x4),(18,.lit false),(21,.lit true),V 26 (iv x24)],[],0⟩ ?_
      refine jK 5 (cnf_size_ok x24) ?_
      intro x25 h25
      refine jG 6 1 ⟨[V 0 (.fsl 1 (List.map cI a0)),V 1 (iv a1),V 7 (.fsl 1 (List.map cI a0)),V 8 (iv (List.length a0:Int)),V 9 (iv x4),(18,.lit false),(21,.lit true),V 27 (iv x25),V 28 (iv x13)],[],0⟩ ?_
      refine jK 7 (cnf_size_ok x13) ?_
      intro x26 h26
      refine jG 8 2 ⟨[V 0 (.fsl 1 (List.map cI a0)),V 1 (iv a1),V 7 (.fsl 1 (List.map cI a0)),V 8 (iv (List.length a0:Int)),V 9 (iv x4),(18,.lit false),V 31 (bv (decide (x25≥x26)))],[],0⟩ ?_
      refine jr_nil rfl ?_
      exact jx_mid rfl (wkR [] (fix_nil _) allp_nil)
     refine jG 0 10 ⟨[V 0 (.fsl 1 (List.map cI a0)),V 1 (iv a1),V 7 (.fsl 1 (List.map cI a0)),V 8 (iv (List.length a0:Int)),V 9 (iv x4),(18,.lit false),V 31 (bv false)],[],0⟩ ?_
     refine jr_nil rfl ?_
     exact jx_mid rfl (wkR [] (fix_nil _) allp_nil)
    intro x23
    refine jG 13 1 ⟨[V 0 (.fsl 1 (List.map cI a0)),V 1 (iv a1),V 7 (.fsl 1 (List.map cI a0)),V 8 (iv (List.length a0:Int)),V 9 (iv x4),V 32 (bv (false || x23))],[],0⟩ ?_
    refine jr_nil rfl ?_
    exact jx_mid rfl (wkR [] (fix_nil _) allp_nil)
   intro x19
   refine jN ?_
   refine jIf ?_ ?_
   ·refine jS ⟨[V 4 (bv false)],[],0⟩ ?_
    refine jc_ret ?_
    refine jx_blkR ?_
    refine jx_seqR ?_
    exact jx_done rfl nofun (wkR [] (fix_nil _) allp_nil)
   refine jc_skip ?_
   refine jx_blkN ?_
   refine jx_seqN ?_
   refine jT ⟨[V 0 (.fsl 1 (List.map cI a0)),V 1 (iv a1),V 7 (.fsl 1 (List.map cI a0)),V 8 (iv (List.length a0:Int)),V 9 (iv (w64 (x4 + 1)))],[],0⟩ ?_
   exact jx_next (wkR [] (fix_nil _) allp_nil)
  refine jc_exit ?_
  refine jx_seqE ?_
  exact jx_done rfl nofun (wkR [] (fix_nil _) allp_nil)
 rintro (_ | _)
 ·refine jx_blkR ?_
  refine jx_seqR ?_
  exact jx_retF (.inr rfl) (v:=bv false) (by kernel_rfl) rfl (fle_refl _)
 refine jx_blkE ?_
 refine jx_seqN ?_
 refine jS ⟨[V 4 (bv true)],[],0⟩ ?_
 refine jc_ret ?_
 exact jx_retF (.inr rfl) (v:=bv true) (by kernel_rfl) rfl (fle_refl _))
abbrev cnf_Fit_r1:List LO:=[lo 1 (.box 25 (.tmp 0)) 0,lo 2 (.assign (.const (.bool false))) 4]
abbrev cnf_Fit_r2:List LO:=[lo 8 (.fieldAddr 25 (.tmp 1) 0) 0,lo 9 (.load 3 (.tmp 8)) 3,lo 10 (.binOp .lss 3 (.tmp 9) (.const (.int .i64 0)) 3) 4,lm 11 10 4,lg 12 (.fieldAddr 25 (.tmp 1) 0) 0 11 false,lg 13 (.load 3 (.tmp 12)) 3 11 false,lg 14 (.binOp .gtr 3 (.tmp 13) (.const (.int .i64 4096)) 3) 4 11 false,lo 15 (.pick (.tmp 11) (.const (.bool true)) (.tmp 14)) 4,lm 16 15 4,lg 17 (.fieldAddr 25 (.tmp 1) 1) 0 16 false,lg 18 (.load 22 (.tmp 17)) 22 16 false,lg 19 (.call ⟨.builtin .len,#[.tmp 18],#[22]⟩) 3 16 false,lg 20 (.binOp .gtr 3 (.tmp 19) (.const (.int .i64 65536)) 3) 4 16 false,lo 21 (.pick (.tmp 16) (.const (.bool true)) (.tmp 20)) 4]
abbrev cnf_Fit_r3:List LO:=[lo 2 (.assign (.const (.bool false))) 4]
abbrev cnf_Fit_r4:List LO:=[lo 22 (.fieldAddr 25 (.tmp 1) 1) 0,lo 23 (.load 22 (.tmp 22)) 22,lo 24 (.call ⟨.builtin .len,#[.tmp 23],#[22]⟩) 3,lo 25 (.move (.const (.int .i64 0))) 3]
abbrev cnf_Fit_r5:List LO:=[lo 26 (.binOp .lss 3 (.tmp 25) (.tmp 24) 3) 0]
abbrev cnf_Fit_r6:List LO:=[lo 27 (.indexAddr 22 (.tmp 23) (.tmp 25)) 0,lo 28 (.load 55 (.tmp 27)) 55,lo 4 (.alloc 55) 0,ln (.store 55 (.tmp 4) (.tmp 28)) 0]
abbrev cnf_Fit_r7:List LO:=[lo 29 (.fieldAddr 55 (.tmp 4) 0) 0,lo 30 (.load 23 (.tmp 29)) 23,lo 31 (.fieldAddr 25 (.tmp 1) 0) 0,lo 32 (.load 3 (.tmp 31)) 3,lo 33 (.call ⟨.value (.func 36),#[.tmp 30,.tmp 32],#[23,3]⟩) 4,lo 34 (.unOp .not 4 (.tmp 33)) 4]
abbrev cnf_Fit_r8:List LO:=[lo 2 (.assign (.const (.bool false))) 4]
abbrev cnf_Fit_r9:List LO:=[lo 35 (.binOp .add 3 (.tmp 25) (.const (.int .i64 1)) 3) 3,lm 25 35 3]
abbrev cnf_Fit_r10:List LO:=[lo 36 (.fieldAddr 25 (.tmp 1) 0) 0,lo 37 (.load 3 (.tmp 36)) 3,lo 38 (.binOp .mul 3 (.const (.int .i64 2)) (.tmp 37) 3) 3,lo 39 (.binOp .add 3 (.tmp 38) (.const (.int .i64 1)) 3) 3,lo 40 (.makeSlice 23 (.tmp 39) (.tmp 39)) 23,lo 5 (.assign (.tmp 40)) 23]
abbrev cnf_Fit_r11:List LO:=[lo 41 (.fieldAddr 25 (.tmp 1) 2) 0,lo 42 (.load 23 (.tmp 41)) 23,lo 43 (.call ⟨.builtin .len,#[.tmp 42],#[23]⟩) 3,lo 44 (.move (.const (.int .i64 0))) 3]
abbrev cnf_Fit_r12:List LO:=[lo 45 (.binOp .lss 3 (.tmp 44) (.tmp 43) 3) 0]
abbrev cnf_Fit_r13:List LO:=[lo 46 (.indexAddr 23 (.tmp 42) (.tmp 44)) 0,lo 47 (.load 3 (.tmp 46)) 3,lo 7 (.assign (.tmp 47)) 3]
abbrev cnf_Fit_r14:List LO:=[lm 48 7 3,lo 49 (.fieldAddr 25 (.tmp 1) 0) 0,lo 50 (.load 3 (.tmp 49)) 3,lo 51 (.call ⟨.value (.func 30),#[.tmp 48,.tmp 50],#[3,3]⟩) 4,lo 52 (.unOp .not 4 (.tmp 51)) 4,lm 53 52 4,lmg 54 5 23 53 false,lmg 55 7 3 53 false,lg 56 (.fieldAddr 25 (.tmp 1) 0) 0 53 false,lg 57 (.load 3 (.tmp 56)) 3 53 false,lg 58 (.binOp .add 3 (.tmp 55) (.tmp 57) 3) 3 53 false,lg 59 (.indexAddr 23 (.tmp 54) (.tmp 58)) 0 53 false,lg 60 (.load 3 (.tmp 59)) 3 53 false,lg 61 (.binOp .gtr 3 (.tmp 60) (.const (.int .i64 0)) 3) 4 53 false,lo 62 (.pick (.tmp 53) (.const (.bool true)) (.tmp 61)) 4]
abbrev cnf_Fit_r15:List LO:=[lo 2 (.assign (.const (.bool false))) 4]
abbrev cnf_Fit_r16:List LO:=[lm 63 5 23,lm 64 7 3,lo 65 (.fieldAddr 25 (.tmp 1) 0) 0,lo 66 (.load 3 (.tmp 65)) 3,lo 67 (.binOp .add 3 (.tmp 64) (.tmp 66) 3) 3,lo 68 (.indexAddr 23 (.tmp 63) (.tmp 67)) 0,lo 69 (.load 3 (.tmp 68)) 3,lo 70 (.binOp .add 3 (.tmp 69) (.const (.int .i64 1)) 3) 3,lo 71 (.indexAddr 23 (.tmp 63) (.tmp 67)) 0,ln (.store 3 (.tmp 71) (.tmp 70)) 0]
abbrev cnf_Fit_r17:List LO:=[lo 72 (.binOp .add 3 (.tmp 44) (.const (.int .i64 1)) 3) 3,lm 44 72 3]
abbrev cnf_Fit_r18:List LO:=[lo 2 (.assign (.const (.bool true))) 4]
abbrev cnf_Fit_c:LC:=.seq (.reg false cnf_Fit_r1) (.seq (.seq (.reg false cnf_Fit_r2) (.cond (.tmp 21) (.seq (.reg false cnf_Fit_r3) .ret) .skip)) (.seq (.seq (.reg false cnf_Fit_r4) (.block 0 (.loop (.seq (.reg false cnf_Fit_r5) (.seq (.cond (.tmp 26) .skip (.exit 0)) (.seq (.block 1 (.seq (.reg false cnf_Fit_r6) (.seq (.reg false cnf_Fit_r7) (.cond (.tmp 34) (.seq (.reg false cnf_Fit_r8) .ret) .skip)))) (.reg false cnf_Fit_r9))))))) (.seq (.reg false cnf_Fit_r10) (.seq (.seq (.reg false cnf_Fit_r11) (.block 2 (.loop (.seq (.reg false cnf_Fit_r12) (.seq (.cond (.tmp 45) .skip (.exit 2)) (.seq (.block 3 (.seq (.reg false cnf_Fit_r13) (.seq (.seq (.reg false cnf_Fit_r14) (.cond (.tmp 62) (.seq (.reg false cnf_Fit_r15) .ret) .skip)) (.reg false cnf_Fit_r16)))) (.reg false cnf_Fit_r17))))))) (.seq (.reg false cnf_Fit_r18) .ret)))))
theorem cnf_Fit_k:FnOk E 9 73 [.tmp 2] cnf_Fit_c:=⟨⟨Go.Proofs.Tryd.f9,by kernel_rfl,by kernel_rfl,by kernel_rfl,by kernel_rfl,by kernel_rfl⟩,rfl,rfl⟩
noncomputable def cnf_Fit_l1 (a0:S_api_Formula):Int→Option (Step (Int) ((Unit) ⊕ (Unit))):=fun x3=>(if (decide (x3 < (List.length a0.Clauses:Int)))=true then Option.bind (ixl a0.Clauses x3) (fun x7=>Option.bind (cnf_clean x7.Lits a0.Vars) (fun x8=>(if (!x8)=true then some (Step.done (Sum.inl ())) else some (Step.next (w64 (x3 + 1)))))) else some (Step.done (Sum.inr ())))
noncomputable def cnf_Fit_l2 (a0:S_api_Formula):(List Int × Int)→Option (Step (List Int × Int) ((Unit) ⊕ (Unit))):=fun (x16,x17)=>(if (decide (x17 < (List.length a0.Order:Int)))=true then Option.bind (ixl a0.Order x17) (fun x26=>Option.bind (cnf_literal x26 a0.Vars) (fun x27=>Option.bind (if (!x27)=true then some true else Option.bind (ixl x16 (w64 (x26 + a0.Vars))) (fun x30=>some (decide (x30 > 0))):Option (Bool)) (fun x29=>(if x29=true then some (Step.done (Sum.inl ())) else Option.bind (ixl x16 (w64 (x26 + a0.Vars))) (fun x31=>Option.bind (ixl x16 (w64 (x26 + a0.Vars))) (fun x32=>some (Step.next ((List.set x16 (Int.toNat (w64 (x26 + a0.Vars))) (w64 (x31 + 1))),(w64 (x17 + 1)))))))))) else some (Step.done (Sum.inr ())))
noncomputable def cnf_Fit (a0:S_api_Formula):Option (Bool):=(if (((decide (a0.Vars < 0)) || (decide (a0.Vars > 4096))) || (decide ((List.length a0.Clauses:Int) > 65536)))=true then some false else Option.bind (loopC (cnf_Fit_l1 a0) 0) (fun y=>match y with | Sum.inl _=>some false | Sum.inr _=>Option.bind (mkl 8 (0:Int) (w64 ((w64 (2 * a0.Vars)) + 1)) (w64 ((w64 (2 * a0.Vars)) + 1))) (fun x9=>Option.bind (loopC (cnf_Fit_l2 a0) (x9,0)) (fun y=>match y with | Sum.inl _=>some false | Sum.inr _=>some true))))
theorem cnf_Fit_ok (a0:S_api_Formula):Ct E 9 [.agg [iv a0.Vars,.fsl 2 (List.map c_S_api_Clause a0.Clauses),.fsl 1 (List.map cI a0.Order)]] (cnf_Fit a0) (fun r:Bool=>bv r):=ct_intro (N:=73) (L:=cnf_Fit_c) cnf_Fit_k rfl (Nat.le_of_ble_eq_true rfl) (by kernel_rfl) (by
 unfold cnf_Fit
 refine jS ⟨[V 1 (pt 0 3)],[W 0 3 [iv a0.Vars,.fsl 2 (List.map c_S_api_Clause a0.Clauses),.fsl 1 (List.map cI a0.Order)]],1⟩ ?_
 refine jc_seq ?_
 refine jR ?_
 refine jG 0 14 ⟨[V 1 (pt 0 3),V 21 (bv (((decide (a0.Vars < 0)) || (decide (a0.Vars > 4096))) || (decide ((List.length (List.map c_S_api_Clause a0.Clauses):Int) > 65536))))],[W 0 3 [iv a0.Vars,.fsl 2 (List.map c_S_api_Clause a0.Clauses),.fsl 1 (List.map cI a0.Order)]],1⟩ ?_
 simp only[List.length_map]
 refine jN ?_
 refine jIf ?_ ?_
 ·refine jS ⟨[V 2 (bv false)],[],1⟩ ?_
  refine jc_ret ?_
  refine jx_seqR ?_
  exact jx_retF (.inr rfl) (v:=bv false) (by kernel_rfl) rfl (fle_refl _)
 refine jc_skip ?_
 refine jx_seqN ?_
 refine jc_seq ?_
 refine jR ?_
 refine jG 0 4 ⟨[V 1 (pt 0 3),V 23 (.fsl 2 (List.map c_S_api_Clause a0.Clauses)),V 24 (iv (List.length (List.map c_S_api_Clause a0.Clauses):Int)),V 25 (iv 0)],[W 0 3 [iv a0.Vars,.fsl 2 (List.map c_S_api_Clause a0.Clauses),.fsl 1 (List.map cI a0.Order)]],1⟩ ?_
 simp only[List.length_map]
 refine jN ?_
 refine jc_block ?_
 refine jc_bind (fun y=>match y with | Sum.inl _=>⟨[V 2 (bv false)],[],0⟩ | Sum.inr _=>⟨[V 1 (pt 0 3)],[W 0 3 [iv a0.Vars,.fsl 2 (List.map c_S_api_Clause a0.Clauses),.fsl 1 (List.map cI a0.Order)]],1⟩) (fun y=>match y with | Sum.inl _=>.ret | Sum.inr _=>(.exit 0)) (jc_loop (fun x3=>⟨[V 1 (pt 0 3),V 23 (.fsl 2 (List.map c_S_api_Clause a0.Clauses)),V 24 (iv (List.length a0.Clauses:Int)),V 25 (iv x3)],[W 0 3 [iv a0.Vars,.fsl 2 (List.map c_S_api_Clause a0.Clauses),.fsl 1 (List.map cI a0.Order)]],1⟩) (wkR [(0,some 0)] (fix_nil _) (pc (hC 0) allp_nil)) ?_) ?_
 ·intro x3
  unfold cnf_Fit_l1
  refine jS ⟨[V 1 (pt 0 3),V 23 (.fsl 2 (List.map c_S_api_Clause a0.Clauses)),V 24 (iv (List.length a0.Clauses:Int)),V 25 (iv x3),V 26 (bv (decide (x3 < (List.length a0.Clauses:Int))))],[W 0 3 [iv a0.Vars,.fsl 2 (List.map c_S_api_Clause a0.Clauses),.fsl 1 (List.map cI a0.Order)]],1⟩ ?_
  refine jc_seq ?_
  refine jIf ?_ ?_
  ·refine jc_skip ?_
   refine jx_seqN ?_
   refine jc_seq ?_
   refine jc_block ?_
   refine jR ?_
   refine jr_part (i:=0) (mo:=ixl a0.Clauses x3) rfl rfl rfl rfl (fun _ hc=>aop_ixf (c:=c_S_api_Clause) (sz:=2) (e:=55) (kk:=.i64) (by kernel_rfl) (by kernel_rfl) (by kernel_rfl) (by kernel_rfl) hc) (fun _=>rfl) ?_
   intro x7 h7
   refine jG 1 3 ⟨[V 1 (pt 0 3),V 4 (pt 1 2),V 23 (.fsl 2 (List.map c_S_api_Clause a0.Clauses)),V 24 (iv (List.length a0.Clauses:Int)),V 25 (iv x3)],[W 0 3 [iv a0.Vars,.fsl 2 (List.map c_S_api_Clause a0.Clauses),.fsl 1 (List.map cI a0.Order)],W 1 2 [.fsl 1 (List.map cI x7.Lits),iv x7.Tag]],2⟩ ?_
   refine jN ?_
   refine jR ?_
   refine jG 0 4 ⟨[V 1 (pt 0 3),V 23 (.fsl 2 (List.map c_S_api_Clause a0.Clauses)),V 24 (iv (List.length a0.Clauses:Int)),V 25 (iv x3),V 30 (.fsl 1 (List.map cI x7.Lits)),V 32 (iv a0.Vars)],[W 0 3 [iv a0.Vars,.fsl 2 (List.map c_S_api_Clause a0.Clauses),.fsl 1 (List.map cI a0.Order)]],2⟩ ?_
   refine jK 4 (cnf_clean_ok x7.Lits a0.Vars) ?_
   intro x8 h8
   refine jG 5 1 ⟨[V 1 (pt 0 3),V 23 (.fsl 2 (List.map c_S_api_Clause a0.Clauses)),V 24 (iv (List.length a0.Clauses:Int)),V 25 (iv x3),V 34 (bv (!x8))],[W 0 3 [iv a0.Vars,.fsl 2 (List.map c_S_api_Clause a0.Clauses),.fsl 1 (List.map cI a0.Order)]],2⟩ ?_
   refine jN ?_
   refine jIf ?_ ?_
   ·refine jS ⟨[V 2 (bv false)],[],2⟩ ?_
    refine jc_ret ?_
    refine jx_blkR ?_
    refine jx_seqR ?_
    exact jx_done rfl nofun (wkR [] (fix_nil _) allp_nil)
   refine jc_skip ?_
   refine jx_blkN ?_
   refine jx_seqN ?_
   refine jT ⟨[V 1 (pt 0 3),V 23 (.fsl 2 (List.map c_S_api_Clause a0.Clauses)),V 24 (iv (List.length a0.Clauses:Int)),V 25 (iv (w64 (x3 + 1)))],[W 0 3 [iv a0.Vars,.fsl 2 (List.map c_S_api_Clause a0.Clauses),.fsl 1 (List.map cI a0.Order)]],2⟩ ?_
   exact jx_next (wkR [(0,some 0)] (fix_nil _) (pc (hC 0) allp_nil))
  refine jc_exit ?_
  refine jx_seqE ?_
  exact jx_done rfl nofun (wkR [(0,some 0)] (fix_nil _) (pc (hC 0) allp_nil))
 rintro (_ | _)
 ·refine jx_blkR ?_
  refine jx_seqR ?_
  exact jx_retF (.inr rfl) (v:=bv false) (by kernel_rfl) rfl (fle_refl _)
 refine jx_blkE ?_
 refine jx_seqN ?_
 refine jR ?_
 refine jG 0 4 ⟨[V 1 (pt 0 3),V 39 (iv (w64 ((w64 (2 * a0.Vars)) + 1)))],[W 0 3 [iv a0.Vars,.fsl 2 (List.map c_S_api_Clause a0.Clauses),.fsl 1 (List.map cI a0.Order)]],1⟩ ?_
 refine jr_part (i:=4) (mo:=mkl 8 (0:Int) (w64 ((w64 (2 * a0.Vars)) + 1)) (w64 ((w64 (2 * a0.Vars)) + 1))) rfl rfl rfl rfl (fun _ hc=>aop_mks (e:=3) (sz:=1) (b:=8) (cc:=cI) (kk:=.i64) (kc:=.i64) (by kernel_rfl) (by kernel_rfl) (by kernel_rfl) (by kernel_rfl) (by kernel_rfl) hc) (fun _=>rfl) ?_
 intro x9 h9
 refine jG 5 1 ⟨[V 1 (pt 0 3),V 5 (.osl 1 0 (List.length x9) 1)],[W 0 3 [iv a0.Vars,.fsl 2 (List.map c_S_api_Clause a0.Clauses),.fsl 1 (List.map cI a0.Order)],(1,.rows 1 (List.map cI x9))],2⟩ ?_
 refine jN ?_
 refine jc_seq ?_
 refine jR ?_
 refine jG 0 4 ⟨[V 1 (pt 0 3),V 5 (.osl 1 0 (List.length x9) 1),V 42 (.fsl 1 (List.map cI a0.Order)),V 43 (iv (List.length (List.map cI a0.Order):Int)),V 44 (iv 0)],[W 0 3 [iv a0.Vars,.fsl 2 (List.map c_S_api_Clause a0.Clauses),.fsl 1 (List.map cI a0.Order)],(1,.rows 1 (List.map cI x9))],2⟩ ?_
 simp only[List.length_map]
 refine jN ?_
 refine jc_block ?_
 refine jc_bind (fun y=>match y with | Sum.inl _=>⟨[V 2 (bv false)],[],0⟩ | Sum.inr _=>⟨[],[],0⟩) (fun y=>match y with | Sum.inl _=>.ret | Sum.inr _=>(.exit 2)) (jc_loop (fun (x16,x17)=>⟨[V 1 (pt 0 3),V 5 (.osl 1 0 (List.length x16) 1),V 42 (.fsl 1 (List.map cI a0.Order)),V 43 (iv (List.length a0.Order:Int)),V 44 (iv x17)],[W 0 3 [iv a0.Vars,.fsl 2 (List.map c_S_api_Clause a0.Clauses),.fsl 1 (List.map cI a0.Order)],(1,.rows 1 (List.map cI x16))],2⟩) (wkR [(0,some 0),(1,some 1)] (fix_nil _) (pc (hC 0) (pc (hL 1 (noid_map ni_I _)) allp_nil))) ?_) ?_
 ·rintro⟨x16,x17⟩
  unfold cnf_Fit_l2
  refine jS ⟨[V 1 (pt 0 3),V 5 (.osl 1 0 (List.length x16) 1),V 42 (.fsl 1 (List.map cI a0.Order)),V 43 (iv (List.length a0.Order:Int)),V 44 (iv x17),V 45 (bv (decide (x17 < (List.length a0.Order:Int))))],[W 0 3 [iv a0.Vars,.fsl 2 (List.map c_S_api_Clause a0.Clauses),.fsl 1 (List.map cI a0.Order)],(1,.rows 1 (List.map cI x16))],2⟩ ?_
  refine jc_seq ?_
  refine jIf ?_ ?_
  ·refine jc_skip ?_
   refine jx_seqN ?_
   refine jc_seq ?_
   refine jc_block ?_
   refine jR ?_
   refine jr_part (i:=0) (mo:=ixl a0.Order x17) rfl rfl rfl rfl (fun _ hc=>aop_ixf (c:=cI) (sz:=1) (e:=3) (kk:=.i64) (by kernel_rfl) (by kernel_rfl) (by kernel_rfl) (by kernel_rfl) hc) (fun _=>rfl) ?_
   intro x26 h26
   refine jG 1 2 ⟨[V 1 (pt 0 3),V 5 (.osl 1 0 (List.length x16) 1),V 7 (iv x26),V 42 (.fsl 1 (List.map cI a0.Order)),V 43 (iv (List.length a0.Order:Int)),V 44 (iv x17)],[W 0 3 [iv a0.Vars,.fsl 2 (List.map c_S_api_Clause a0.Clauses),.fsl 1 (List.map cI a0.Order)],(1,.rows 1 (List.map cI x16))],2⟩ ?_
   refine jN ?_
   refine jc_seq ?_
   refine jR ?_
   refine jG 0 3 ⟨[V 1 (pt 0 3),V 5 (.osl 1 0 (List.length x16) 1),V 7 (iv x26),V 42 (.fsl 1 (List.map cI a0.Order)),V 43 (iv (List.length a0.Order:Int)),V 44 (iv x17),V 48 (iv x26),V 50 (iv a0.Vars)],[W 0 3 [iv a0.Vars,.fsl 2 (List.map c_S_api_Clause a0.Clauses),.fsl 1 (List.map cI a0.Order)],(1,.rows 1 (List.map cI x16))],2⟩ ?_
   refine jK 3 (cnf_literal_ok x26 a0.Vars) ?_
   intro x27 h27
   refine jG 4 2 ⟨[V 1 (pt 0 3),V 5 (.osl 1 0 (List.length x16) 1),V 7 (iv x26),V 42 (.fsl 1 (List.map cI a0.Order)),V 43 (iv (List.length a0.Order:Int)),V 44 (iv x17),V 53 (bv (!x27))],[W 0 3 [iv a0.Vars,.fsl 2 (List.map c_S_api_Clause a0.Clauses),.fsl 1 (List.map cI a0.Order)],(1,.rows 1 (List.map cI x16))],2⟩ ?_
   refine jr_bind 6 9 (fun x29=>⟨[V 1 (pt 0 3),V 5 (.osl 1 0 (List.length x16) 1),V 7 (iv x26),V 42 (.fsl 1 (List.map cI a0.Order)),V 43 (iv (List.length a0.Order:Int)),V 44 (iv x17),V 62 (bv x29)],[W 0 3 [iv a0.Vars,.fsl 2 (List.map c_S_api_Clause a0.Clauses),.fsl 1 (List.map cI a0.Order)],(1,.rows 1 (List.map cI x16))],2⟩) ?_ ?_
   ·refine jSp 53 ?_ ?_
    ·refine jG 0 9 ⟨[V 1 (pt 0 3),V 5 (.osl 1 0 (List.length x16) 1),V 7 (iv x26),V 42 (.fsl 1 (List.map cI a0.Order)),V 43 (iv (List.length a0.Order:Int)),V 44 (iv x17),V 62 (bv true)],[W 0 3 [iv a0.Vars,.fsl 2 (List.map c_S_api_Clause a0.Clauses),.fsl 1 (List.map cI a0.Order)],(1,.rows 1 (List.map cI x16))],2⟩ ?_
     refine jr_nil rfl ?_
     exact jx_mid rfl (wkR [(0,some 0),(1,some 1)] (fix_nil _) (pc (hC 0) (pc (hL 1 (noid_map ni_I _)) allp_nil)))
    refine jG 0 5 ⟨[V 1 (pt 0 3),V 5 (.osl 1 0 (List.length x16) 1),V 7 (iv x26),V 42 (.fsl 1 (List.map cI a0.Order)),V 43 (iv (List.length a0.Order:Int)),V 44 (iv x17),(53,.lit false),V 54 (.osl 1 0 (List.length x16) 1),V 58 (iv (w64 (x26 + a0.Vars)))],[W 0 3 [iv a0.Vars,.fsl 2 (List.map c_S_api_Clause a0.Clauses),.fsl 1 (List.map cI a0.Order)],(1,.rows 1 (List.map cI x16))],2⟩ ?_
    refine jr_part (i:=5) (mo:=ixl x16 (w64 (x26 + a0.Vars))) rfl rfl rfl rfl (fun _ hc=>aop_ixo0 (sz:=1) (e:=3) (kk:=.i64) (id:=1) (by kernel_rfl) (by kernel_rfl) (by kernel_rfl) (by kernel_rfl) hc) (fun _=>rfl) ?_
    intro x30 h30
    refine jr_one (i:=6) (v:=iv x30) rfl rfl rfl rfl (aop_ldo (l:=x16) (c:=cI) (id:=1) (k:=(Int.toNat (w64 (x26 + a0.Vars)))) (sz:=1) (off:=0) (a:=x30) (by kernel_rfl) (by kernel_rfl) (ixl_lt h30).2.2 (by kernel_rfl)) rfl ?_
    refine jG 7 2 ⟨[V 1 (pt 0 3),V 5 (.osl 1 0 (List.length x16) 1),V 7 (iv x26),V 42 (.fsl 1 (List.map cI a0.Order)),V 43 (iv (List.length a0.Order:Int)),V 44 (iv x17),V 62 (bv (decide (x30 > 0)))],[W 0 3 [iv a0.Vars,.fsl 2 (List.map c_S_api_Clause a0.Clauses),.fsl 1 (List.map cI a0.Order)],(1,.rows 1 (List.map cI x16))],2⟩ ?_
    refine jr_nil rfl ?_
    exact jx_mid rfl (wkR [(0,some 0),(1,some 1)] (fix_nil _) (pc (hC 0) (pc (hL 1 (noid_map ni_I _)) allp_nil)))
   intro x29
   refine jN ?_
   refine jIf ?_ ?_
   ·refine jS ⟨[V 2 (bv false)],[],2⟩ ?_
    refine jc_ret ?_
    refine jx_seqR ?_
    refine jx_blkR ?_
    refine jx_seqR ?_
    exact jx_done rfl nofun (wkR [] (fix_nil _) allp_nil)
   refine jc_skip ?_
   refine jx_seqN ?_
   refine jc_reg ?_
   refine jG 0 5 ⟨[V 1 (pt 0 3),V 5 (.osl 1 0 (List.length x16) 1),V 42 (.fsl 1 (List.map cI a0.Order)),V 43 (iv (List.length a0.Order:Int)),V 44 (iv x17),V 63 (.osl 1 0 (List.length x16) 1),V 67 (iv (w64 (x26 + a0.Vars)))],[W 0 3 [iv a0.Vars,.fsl 2 (List.map c_S_api_Clause a0.Clauses),.fsl 1 (List.map cI a0.Order)],(1,.rows 1 (List.map cI x16))],2⟩ ?_
   refine jr_part (i:=5) (mo:=ixl x16 (w64 (x26 + a0.Vars))) rfl rfl rfl rfl (fun _ hc=>aop_ixo0 (sz:=1) (e:=3) (kk:=.i64) (id:=1) (by kernel_rfl) (by kernel_rfl) (by kernel_rfl) (by kernel_rfl) hc) (fun _=>rfl) ?_
   intro x31 h31
   refine jr_one (i:=6) (v:=iv x31) rfl rfl rfl rfl (aop_ldo (l:=x16) (c:=cI) (id:=1) (k:=(Int.toNat (w64 (x26 + a0.Vars)))) (sz:=1) (off:=0) (a:=x31) (by kernel_rfl) (by kernel_rfl) (ixl_lt h31).2.2 (by kernel_rfl)) rfl ?_
   refine jG 7 1 ⟨[V 1 (pt 0 3),V 5 (.osl 1 0 (List.length x16) 1),V 42 (.fsl 1 (List.map cI a0.Order)),V 43 (iv (List.length a0.Order:Int)),V 44 (iv x17),V 63 (.osl 1 0 (List.length x16) 1),V 67 (iv (w64 (x26 + a0.Vars))),V 70 (iv (w64 (x31 + 1)))],[W 0 3 [iv a0.Vars,.fsl 2 (List.map c_S_api_Clause a0.Clauses),.fsl 1 (List.map cI a0.Order)],(1,.rows 1 (List.map cI x16))],2⟩ ?_
   refine jr_part (i:=8) (mo:=ixl x16 (w64 (x26 + a0.Vars))) rfl rfl rfl rfl (fun _ hc=>aop_ixo0 (sz:=1) (e:=3) (kk:=.i64) (id:=1) (by kernel_rfl) (by kernel_rfl) (by kernel_rfl) (by kernel_rfl) hc) (fun _=>rfl) ?_
   intro x32 h32
   refine jr_sto (i:=9) [1,5,42,43,44] [0,1] (st1:=⟨[V 1 (pt 0 3),V 5 (.osl 1 0 (List.length (List.set x16 (Int.toNat (w64 (x26 + a0.Vars))) (w64 (x31 + 1)))) 1),V 42 (.fsl 1 (List.map cI a0.Order)),V 43 (iv (List.length a0.Order:Int)),V 44 (iv x17)],[W 0 3 [iv a0.Vars,.fsl 2 (List.map c_S_api_Clause a0.Clauses),.fsl 1 (List.map cI a0.Order)],(1,.rows 1 (List.map cI (List.set x16 (Int.toNat (w64 (x26 + a0.Vars))) (w64 (x31 + 1)))))],2⟩) rfl rfl rfl rfl (aop_sto (l:=x16) (c:=cI) (id:=1) (k:=(Int.toNat (w64 (x26 + a0.Vars)))) (sz:=1) (off:=0) (a:=x32) (a':=(w64 (x31 + 1))) (w:=iv (w64 (x31 + 1))) (cs:=[iv (w64 (x31 + 1))]) (by kernel_rfl) (by kernel_rfl) (by kernel_rfl) (by kernel_rfl) (by kernel_rfl) (ixl_lt h32).2.2 (Nat.le_of_ble_eq_true rfl) (by kernel_rfl)) (by simp only[List.length_set]; kernel_rfl) ?_
   refine jr_nil rfl ?_
   refine jx_blkN ?_
   refine jx_seqN ?_
   refine jT ⟨[V 1 (pt 0 3),V 5 (.osl 1 0 (List.length (List.set x16 (Int.toNat (w64 (x26 + a0.Vars))) (w64 (x31 + 1)))) 1),V 42 (.fsl 1 (List.map cI a0.Order)),V 43 (iv (List.length a0.Order:Int)),V 44 (iv (w64 (x17 + 1)))],[W 0 3 [iv a0.Vars,.fsl 2 (List.map c_S_api_Clause a0.Clauses),.fsl 1 (List.map cI a0.Order)],(1,.rows 1 (List.map cI (List.set x16 (Int.toNat (w64 (x26 + a0.Vars))) (w64 (x31 + 1)))))],2⟩ ?_
   exact jx_next (wkR [(0,some 0),(1,some 1)] (fix_nil _) (pc (hC 0) (pc (hL 1 (noid_map ni_I _)) allp_nil)))
  refine jc_exit ?_
  refine jx_seqE ?_
  exact jx_done rfl nofun (wkR [] (fix_nil _) allp_nil)
 rintro (_ | _)
 ·refine jx_blkR ?_
  refine jx_seqR ?_
  exact jx_retF (.inr rfl) (v:=bv false) (by kernel_rfl) rfl (fle_refl _)
 refine jx_blkE ?_
 refine jx_seqN ?_
 refine jS ⟨[V 2 (bv true)],[],0⟩ ?_
 refine jc_ret ?_
 exact jx_retF (.inr rfl) (v:=bv true) (by kernel_rfl) rfl (fle_refl _))
abbrev cnf_Holds_1_s9024_r1:List LO:=[lo 3 (.assign (.const (.bool false))) 4]
abbrev cnf_Holds_1_s9024_r2:List LO:=[lo 4 (.load 23 (.tmp 1)) 23,lm 5 0 3,lo 6 (.call ⟨.value (.func 43),#[.tmp 5],#[3]⟩) 3,lo 7 (.binOp .sub 3 (.tmp 6) (.const (.int .i64 1)) 3) 3,lo 8 (.indexAddr 23 (.tmp 4) (.tmp 7)) 0,lo 9 (.load 3 (.tmp 8)) 3,lm 10 0 3,lo 11 (.binOp .eql 3 (.tmp 9) (.tmp 10) 3) 4,lo 3 (.assign (.tmp 11)) 4]
abbrev cnf_Holds_1_s9024_c:LC:=.seq (.reg false cnf_Holds_1_s9024_r1) (.seq (.reg true cnf_Holds_1_s9024_r2) .ret)
theorem cnf_Holds_1_s9024_k:FnOk E 42 12 [.tmp 3] cnf_Holds_1_s9024_c:=⟨⟨Go.Proofs.Tryd.f42,by kernel_rfl,by kernel_rfl,by kernel_rfl,by kernel_rfl,by kernel_rfl⟩,rfl,rfl⟩
noncomputable def cnf_Holds_1_s9024 (a0:Int) (a1:List Int):Option (Bool):=Option.bind (cnf_size a0) (fun x1=>Option.bind (ixl a1 (w64 (x1 - 1))) (fun x2=>some (x2 == a0)))
theorem cnf_Holds_1_s9024_ok (a0:Int) (a1:List Int):Ct E 42 [iv a0,.fptr [.fsl 1 (List.map cI a1)] 0] (cnf_Holds_1_s9024 a0 a1) (fun r:Bool=>bv r):=ct_intro (N:=12) (L:=cnf_Holds_1_s9024_c) cnf_Holds_1_s9024_k rfl (Nat.le_of_ble_eq_true rfl) (by kernel_rfl) (by
 unfold cnf_Holds_1_s9024
 refine jS ⟨[V 0 (iv a0),V 1 (.fptr [.fsl 1 (List.map cI a1)] 0)],[],0⟩ ?_
 refine jR ?_
 refine jG 0 2 ⟨[V 0 (iv a0),V 4 (.fsl 1 (List.map cI a1)),V 5 (iv a0)],[],0⟩ ?_
 refine jK 2 (cnf_size_ok a0) ?_
 intro x1 h1
 refine jG 3 1 ⟨[V 0 (iv a0),V 4 (.fsl 1 (List.map cI a1)),V 7 (iv (w64 (x1 - 1)))],[],0⟩ ?_
 refine jr_part (i:=4) (mo:=ixl a1 (w64 (x1 - 1))) rfl rfl rfl rfl (fun _ hc=>aop_ixf (c:=cI) (sz:=1) (e:=3) (kk:=.i64) (by kernel_rfl) (by kernel_rfl) (by kernel_rfl) (by kernel_rfl) hc) (fun _=>rfl) ?_
 intro x2 h2
 refine jG 5 4 ⟨[V 3 (bv (x2 == a0))],[],0⟩ ?_
 refine jN ?_
 refine jc_ret ?_
 exact jx_retF (.inr rfl) (v:=bv (x2 == a0)) (by kernel_rfl) rfl (fle_refl _))
abbrev slices_IndexFunc_int_int_s0c84_r1:List LO:=[lo 4 (.assign (.const (.int .i64 0))) 3]
abbrev slices_IndexFunc_int_int_s0c84_r2:List LO:=[lm 6 0 23,lo 7 (.call ⟨.builtin .len,#[.tmp 6],#[23]⟩) 3,lo 8 (.move (.const (.int .i64 0))) 3]
abbrev slices_IndexFunc_int_int_s0c84_r3:List LO:=[lo 9 (.binOp .lss 3 (.tmp 8) (.tmp 7) 3) 0]
abbrev slices_IndexFunc_int_int_s0c84_r4:List LO:=[lm 10 8 3,lo 5 (.assign (.tmp 10)) 3]
abbrev slices_IndexFunc_int_int_s0c84_r5:List LO:=[lm 11 1 65,lm 12 0 23,lm 13 5 3,lo 14 (.indexAddr 23 (.tmp 12) (.tmp 13)) 0,lo 15 (.load 3 (.tmp 14)) 3,lo 16 (.call ⟨.value (.tmp 11),#[.tmp 15],#[3]⟩) 4]
abbrev slices_IndexFunc_int_int_s0c84_r6:List LO:=[lm 17 5 3,lo 4 (.assign (.tmp 17)) 3]
abbrev slices_IndexFunc_int_int_s0c84_r7:List LO:=[lo 18 (.binOp .add 3 (.tmp 8) (.const (.int .i64 1)) 3) 3,lm 8 18 3]
abbrev slices_IndexFunc_int_int_s0c84_r8:List LO:=[lo 4 (.assign (.const (.int .i64 (-1)))) 3]
abbrev slices_IndexFunc_int_int_s0c84_c:LC:=.seq (.reg false slices_IndexFunc_int_int_s0c84_r1) (.seq (.seq (.reg false slices_IndexFunc_int_int_s0c84_r2) (.block 0 (.loop (.seq (.reg false slices_IndexFunc_int_int_s0c84_r3) (.seq (.cond (.tmp 9) .skip (.exit 0)) (.seq (.block 1 (.seq (.reg false slices_IndexFunc_int_int_s0c84_r4) (.seq (.reg false slices_IndexFunc_int_int_s0c84_r5) (.cond (.tmp 16) (.seq (.reg false slices_IndexFunc_int_int_s0c84_r6) .ret) .skip)))) (.reg false slices_IndexFunc_int_int_s0c84_r7))))))) (.seq (.reg false slices_IndexFunc_int_int_s0c84_r8) .ret))
theorem slices_IndexFunc_int_int_s0c84_k:FnOk E 71 19 [.tmp 4] slices_IndexFunc_int_int_s0c84_c:=⟨⟨Go.Proofs.Tryd.f71,by kernel_rfl,by kernel_rfl,by kernel_rfl,by kernel_rfl,by kernel_rfl⟩,rfl,rfl⟩
noncomputable def slices_IndexFunc_int_int_s0c84_l1 (a0:(List Int)) (a1:List Int):Int→Option (Step (Int) ((Int) ⊕ (Unit))):=fun x3=>(if (decide (x3 < (List.length a0:Int)))=true then Option.bind (ixl a0 x3) (fun x8=>Option.bind (cnf_Holds_1_s9024 x8 a1) (fun x9=>(if x9=true then some (Step.done (Sum.inl x3)) else some (Step.next (w64 (x3 + 1)))))) else some (Step.done (Sum.inr ())))
noncomputable def slices_IndexFunc_int_int_s0c84 (a0:(List Int)) (a1:List Int):Option (Int):=Option.bind (loopC (slices_IndexFunc_int_int_s0c84_l1 a0 a1) 0) (fun y=>match y with | Sum.inl x7=>some x7 | Sum.inr _=>some (-1))
theorem slices_IndexFunc_int_int_s0c84_ok (a0:(List Int)) (a1:List Int):Ct E 71 [.fsl 1 (List.map cI a0),.fn 42 [.fptr [.fsl 1 (List.map cI a1)] 0]] (slices_IndexFunc_int_int_s0c84 a0 a1) (fun r:Int=>iv r):=ct_intro (N:=19) (L:=slices_IndexFunc_int_int_s0c84_c) slices_IndexFunc_int_int_s0c84_k rfl (Nat.le_of_ble_eq_true rfl) (by kernel_rfl) (by
 unfold slices_IndexFunc_int_int_s0c84
 refine jS ⟨[V 0 (.fsl 1 (List.map cI a0)),V 1 (.fn 42 [.fptr [.fsl 1 (List.map cI a1)] 0])],[],0⟩ ?_
 refine jc_seq ?_
 refine jR ?_
 refine jG 0 3 ⟨[V 0 (.fsl 1 (List.map cI a0)),V 1 (.fn 42 [.fptr [.fsl 1 (List.map cI a1)] 0]),V 7 (iv (List.length (List.map cI a0):Int)),V 8 (iv 0)],[],0⟩ ?_
 simp only[List.length_map]
 refine jN ?_
 refine jc_block ?_
 refine jc_bind (fun y=>match y with | Sum.inl x7=>⟨[V 4 (iv x7)],[],0⟩ | Sum.inr _=>⟨[],[],0⟩) (fun y=>match y with | Sum.inl x7=>.ret | Sum.inr _=>(.exit 0)) (jc_loop (fun x3=>⟨[V 0 (.fsl 1 (List.map cI a0)),V 1 (.fn 42 [.fptr [.fsl 1 (List.map cI a1)] 0]),V 7 (iv (List.length a0:Int)),V 8 (iv x3)],[],0⟩) (wkR [] (fix_nil _) allp_nil) ?_) ?_
 ·intro x3
  unfold slices_IndexFunc_int_int_s0c84_l1
  refine jS ⟨[V 0 (.fsl 1 (List.map cI a0)),V 1 (.fn 42 [.fptr [.fsl 1 (List.map cI a1)] 0]),V 7 (iv (List.length a0:Int)),V 8 (iv x3),V 9 (bv (decide (x3 < (List.length a0:Int))))],[],0⟩ ?_
  refine jc_seq ?_
  refine jIf ?_ ?_
  ·refine jc_skip ?_
   refine jx_seqN ?_
   refine jc_seq ?_
   refine jc_block ?_
   refine jS ⟨[V 0 (.fsl 1 (List.map cI a0)),V 1 (.fn 42 [.fptr [.fsl 1 (List.map cI a1)] 0]),V 5 (iv x3),V 7 (iv (List.length a0:Int)),V 8 (iv x3)],[],0⟩ ?_
   refine jR ?_
   refine jG 0 3 ⟨[V 0 (.fsl 1 (List.map cI a0)),V 1 (.fn 42 [.fptr [.fsl 1 (List.map cI a1)] 0]),V 5 (iv x3),V 7 (iv (List.length a0:Int)),V 8 (iv x3),V 11 (.fn 42 [.fptr [.fsl 1 (List.map cI a1)] 0]),V 12 (.fsl 1 (List.map cI a0)),V 13 (iv x3)],[],0⟩ ?_
   refine jr_part (i:=3) (mo:=ixl a0 x3) rfl rfl rfl rfl (fun _ hc=>aop_ixf (c:=cI) (sz:=1) (e:=3) (kk:=.i64) (by kernel_rfl) (by kernel_rfl) (by kernel_rfl) (by kernel_rfl) hc) (fun _=>rfl) ?_
   intro x8 h8
   refine jG 4 1 ⟨[V 0 (.fsl 1 (List.map cI a0)),V 1 (.fn 42 [.fptr [.fsl 1 (List.map cI a1)] 0]),V 5 (iv x3),V 7 (iv (List.length a0:Int)),V 8 (iv x3),V 11 (.fn 42 [.fptr [.fsl 1 (List.map cI a1)] 0]),V 15 (iv x8)],[],0⟩ ?_
   refine jr_callV (i:=5) rfl rfl rfl rfl (g:=42) (caps:=[.fptr [.fsl 1 (List.map cI a1)] 0]) (avs:=[iv x8]) (vs:=[iv x8,.fptr [.fsl 1 (List.map cI a1)] 0]) (by kernel_rfl) (by kernel_rfl) rfl (snapL_cons rfl (snapL_cons rfl (snapL_nil _))) (all2_cons (fle_refl _) (all2_cons (fle_refl _) all2_nil)) (cnf_Holds_1_s9024_ok x8 a1) (fun _=>rfl) (fun _=>rfl) ?_
   intro x9 h9
   refine jN ?_
   refine jIf ?_ ?_
   ·refine jS ⟨[V 4 (iv x3)],[],0⟩ ?_
    refine jc_ret ?_
    refine jx_blkR ?_
    refine jx_seqR ?_
    exact jx_done rfl nofun (wkR [] (fix_nil _) allp_nil)
   refine jc_skip ?_
   refine jx_blkN ?_
   refine jx_seqN ?_
   refine jT ⟨[V 0 (.fsl 1 (List.map cI a0)),V 1 (.fn 42 [.fptr [.fsl 1 (List.map cI a1)] 0]),V 7 (iv (List.length a0:Int)),V 8 (iv (w64 (x3 + 1)))],[],0⟩ ?_
   exact jx_next (wkR [] (fix_nil _) allp_nil)
  refine jc_exit ?_
  refine jx_seqE ?_
  exact jx_done rfl nofun (wkR [] (fix_nil _) allp_nil)
 rintro (x7 | _)
 ·refine jx_blkR ?_
  refine jx_seqR ?_
  exact jx_retF (.inr rfl) (v:=iv x7) (by kernel_rfl) rfl (fle_refl _)
 refine jx_blkE ?_
 refine jx_seqN ?_
 refine jS ⟨[V 4 (iv (-1))],[],0⟩ ?_
 refine jc_ret ?_
 exact jx_retF (.inr rfl) (v:=iv (-1)) (by kernel_rfl) rfl (fle_refl _))
abbrev slices_ContainsFunc_int_int_s0c84_r1:List LO:=[lo 4 (.assign (.const (.bool false))) 4]
abbrev slices_ContainsFunc_int_int_s0c84_r2:List LO:=[lm 5 0 23,lm 6 1 65,lo 7 (.call ⟨.value (.func 71),#[.tmp 5,.tmp 6],#[23,65]⟩) 3,lo 8 (.binOp .geq 3 (.tmp 7) (.const (.int .i64 0)) 3) 4,lo 4 (.assign (.tmp 8)) 4]
abbrev slices_ContainsFunc_int_int_s0c84_c:LC:=.seq (.reg false slices_ContainsFunc_int_int_s0c84_r1) (.seq (.reg false slices_ContainsFunc_int_int_s0c84_r2) .ret)
theorem slices_ContainsFunc_int_int_s0c84_k:FnOk E 37 9 [.tmp 4] slices_ContainsFunc_int_int_s0c84_c:=⟨⟨Go.Proofs.Tryd.f37,by kernel_rfl,by kernel_rfl,by kernel_rfl,by kernel_rfl,by kernel_rfl⟩,rfl,rfl⟩
noncomputable def slices_ContainsFunc_int_int_s0c84 (a0:(List Int)) (a1:List Int):Option (Bool):=Option.bind (slices_IndexFunc_int_int_s0c84 a0 a1) (fun x1=>some (decide (x1≥0)))
theorem slices_ContainsFunc_int_int_s0c84_ok (a0:(List Int)) (a1:List Int):Ct E 37 [.fsl 1 (List.map cI a0),.fn 42 [.fptr [.fsl 1 (List.map cI a1)] 0]] (slices_ContainsFunc_int_int_s0c84 a0 a1) (fun r:Bool=>bv r):=ct_intro (N:=9) (L:=slices_ContainsFunc_int_int_s0c84_c) slices_ContainsFunc_int_int_s0c84_k rfl (Nat.le_of_ble_eq_true rfl) (by kernel_rfl) (by
 unfold slices_ContainsFunc_int_int_s0c84
 refine jS ⟨[V 0 (.fsl 1 (List.map cI a0)),V 1 (.fn 42 [.fptr [.fsl 1 (List.map cI a1)] 0])],[],0⟩ ?_
 refine jR ?_
 refine jG 0 2 ⟨[V 5 (.fsl 1 (List.map cI a0)),V 6 (.fn 42 [.fptr [.fsl 1 (List.map cI a1)] 0])],[],0⟩ ?_
 refine jK 2 (slices_IndexFunc_int_int_s0c84_ok a0 a1) ?_
 intro x1 h1
 refine jG 3 2 ⟨[V 4 (bv (decide (x1≥0)))],[],0⟩ ?_
 refine jN ?_
 refine jc_ret ?_
 exact jx_retF (.inr rfl) (v:=bv (decide (x1≥0))) (by kernel_rfl) rfl (fle_refl _))
abbrev cnf_model_r1:List LO:=[lo 4 (.assign (.const (.bool false))) 4]
abbrev cnf_model_r2:List LO:=[lm 7 0 23,lo 8 (.call ⟨.builtin .len,#[.tmp 7],#[23]⟩) 3,lo 9 (.move (.const (.int .i64 0))) 3]
abbrev cnf_model_r3:List LO:=[lo 10 (.binOp .lss 3 (.tmp 9) (.tmp 8) 3) 0]
abbrev cnf_model_r4:List LO:=[lm 11 9 3,lo 12 (.indexAddr 23 (.tmp 7) (.tmp 9)) 0,lo 13 (.load 3 (.tmp 12)) 3,lo 5 (.assign (.tmp 11)) 3,lo 6 (.assign (.tmp 13)) 3]
abbrev cnf_model_r5:List LO:=[lm 14 6 3,lo 15 (.call ⟨.value (.func 43),#[.tmp 14],#[3]⟩) 3,lm 16 5 3,lo 17 (.binOp .add 3 (.tmp 16) (.const (.int .i64 1)) 3) 3,lo 18 (.binOp .neq 3 (.tmp 15) (.tmp 17) 3) 4]
abbrev cnf_model_r6:List LO:=[lo 4 (.assign (.const (.bool false))) 4]
abbrev cnf_model_r7:List LO:=[lo 19 (.binOp .add 3 (.tmp 9) (.const (.int .i64 1)) 3) 3,lm 9 19 3]
abbrev cnf_model_r8:List LO:=[lm 20 0 23,lo 21 (.call ⟨.builtin .len,#[.tmp 20],#[23]⟩) 3,lm 22 1 3,lo 23 (.binOp .eql 3 (.tmp 21) (.tmp 22) 3) 4,lo 4 (.assign (.tmp 23)) 4]
abbrev cnf_model_c:LC:=.seq (.reg false cnf_model_r1) (.seq (.seq (.reg false cnf_model_r2) (.block 0 (.loop (.seq (.reg false cnf_model_r3) (.seq (.cond (.tmp 10) .skip (.exit 0)) (.seq (.block 1 (.seq (.reg false cnf_model_r4) (.seq (.reg false cnf_model_r5) (.cond (.tmp 18) (.seq (.reg false cnf_model_r6) .ret) .skip)))) (.reg false cnf_model_r7))))))) (.seq (.reg false cnf_model_r8) .ret))
theorem cnf_model_k:FnOk E 41 24 [.tmp 4] cnf_model_c:=⟨⟨Go.Proofs.Tryd.f41,by kernel_rfl,by kernel_rfl,by kernel_rfl,by kernel_rfl,by kernel_rfl⟩,rfl,rfl⟩
noncomputable def cnf_model_l1 (a0:(List Int)):Int→Option (Step (Int) ((Unit) ⊕ (Unit))):=fun x3=>(if (decide (x3 < (List.length a0:Int)))=true then Option.bind (ixl a0 x3) (fun x7=>Option.bind (cnf_size x7) (fun x8=>(if (x8 != (w64 (x3 + 1)))=true then some (Step.done (Sum.inl ())) else some (Step.next (w64 (x3 + 1)))))) else some (Step.done (Sum.inr ())))
noncomputable def cnf_model (a0:(List Int)) (a1:Int):Option (Bool):=Option.bind (loopC (cnf_model_l1 a0) 0) (fun y=>match y with | Sum.inl _=>some false | Sum.inr _=>some ((List.length a0:Int) == a1))
theorem cnf_model_ok (a0:(List Int)) (a1:Int):Ct E 41 [.fsl 1 (List.map cI a0),iv a1] (cnf_model a0 a1) (fun r:Bool=>bv r):=ct_intro (N:=24) (L:=cnf_model_c) cnf_model_k rfl (Nat.le_of_ble_eq_true rfl) (by kernel_rfl) (by
 unfold cnf_model
 refine jS ⟨[V 0 (.fsl 1 (List.map cI a0)),V 1 (iv a1)],[],0⟩ ?_
 refine jc_seq ?_
 refine jR ?_
 refine jG 0 3 ⟨[V 0 (.fsl 1 (List.map cI a0)),V 1 (iv a1),V 7 (.fsl 1 (List.map cI a0)),V 8 (iv (List.length (List.map cI a0):Int)),V 9 (iv 0)],[],0⟩ ?_
 simp only[List.length_map]
 refine jN ?_
 refine jc_block ?_
 refine jc_bind (fun y=>match y with | Sum.inl _=>⟨[V 4 (bv false)],[],0⟩ | Sum.inr _=>⟨[V 0 (.fsl 1 (List.map cI a0)),V 1 (iv a1)],[],0⟩) (fun y=>match y with | Sum.inl _=>.ret | Sum.inr _=>(.exit 0)) (jc_loop (fun x3=>⟨[V 0 (.fsl 1 (List.map cI a0)),V 1 (iv a1),V 7 (.fsl 1 (List.map cI a0)),V 8 (iv (List.length a0:Int)),V 9 (iv x3)],[],0⟩) (wkR [] (fix_nil _) allp_nil) ?_) ?_
 ·intro x3
  unfold cnf_model_l1
  refine jS ⟨[V 0 (.fsl 1 (List.map cI a0)),V 1 (iv a1),V 7 (.fsl 1 (List.map cI a0)),V 8 (iv (List.length a0:Int)),V 9 (iv x3),V 10 (bv (decide (x3 < (List.length a0:Int))))],[],0⟩ ?_
  refine jc_seq ?_
  refine jIf ?_ ?_
  ·refine jc_skip ?_
   refine jx_seqN ?_
   refine jc_seq ?_
   refine jc_block ?_
   refine jR ?_
   refine jG 0 1 ⟨[V 0 (.fsl 1 (List.map cI a0)),V 1 (iv a1),V 7 (.fsl 1 (List.map cI a0)),V 8 (iv (List.length a0:Int)),V 9 (iv x3),V 11 (iv x3)],[],0⟩ ?_
   refine jr_part (i:=1) (mo:=ixl a0 x3) rfl rfl rfl rfl (fun _ hc=>aop_ixf (c:=cI) (sz:=1) (e:=3) (kk:=.i64) (by kernel_rfl) (by kernel_rfl) (by kernel_rfl) (by kernel_rfl) hc) (fun _=>rfl) ?_
   intro x7 h7
   refine jG 2 3 ⟨[V 0 (.fsl 1 (List.map cI a0)),V 1 (iv a1),V 5 (iv x3),V 6 (iv x7),V 7 (.fsl 1 (List.map cI a0)),V 8 (iv (List.length a0:Int)),V 9 (iv x3)],[],0⟩ ?_
   refine jN ?_
   refine jR ?_
   refine jG 0 1 ⟨[V 0 (.fsl 1 (List.map cI a0)),V 1 (iv a1),V 5 (iv x3),V 7 (.fsl 1 (List.map cI a0)),V 8 (iv (List.length a0:Int)),V 9 (iv x3),V 14 (iv x7)],[],0⟩ ?_
   refine jK 1 (cnf_size_ok x7) ?_
   intro x8 h8
   refine jG 2 3 ⟨[V 0 (.fsl 1 (List.map cI a0)),V 1 (iv a1),V 7 (.fsl 1 (List.map cI a0)),V 8 (iv (List.length a0:Int)),V 9 (iv x3),V 18 (bv (x8 != (w64 (x3 + 1))))],[],0⟩ ?_
   refine jN ?_
   refine jIf ?_ ?_
   ·refine jS ⟨[V 4 (bv false)],[],0⟩ ?_
    refine jc_ret ?_
    refine jx_blkR ?_
    refine jx_seqR ?_
    exact jx_done rfl nofun (wkR [] (fix_nil _) allp_nil)
   refine jc_skip ?_
   refine jx_blkN ?_
   refine jx_seqN ?_
   refine jT ⟨[V 0 (.fsl 1 (List.map cI a0)),V 1 (iv a1),V 7 (.fsl 1 (List.map cI a0)),V 8 (iv (List.length a0:Int)),V 9 (iv (w64 (x3 + 1)))],[],0⟩ ?_
   exact jx_next (wkR [] (fix_nil _) allp_nil)
  refine jc_exit ?_
  refine jx_seqE ?_
  exact jx_done rfl nofun (wkR [] (fix_nil _) allp_nil)
 rintro (_ | _)
 ·refine jx_blkR ?_
  refine jx_seqR ?_
  exact jx_retF (.inr rfl) (v:=bv false) (by kernel_rfl) rfl (fle_refl _)
 refine jx_blkE ?_
 refine jx_seqN ?_
 refine jR ?_
 refine jG 0 5 ⟨[V 4 (bv ((List.length (List.map cI a0):Int) == a1))],[],0⟩ ?_
 simp only[List.length_map]
 refine jN ?_
 refine jc_ret ?_
 exact jx_retF (.inr rfl) (v:=bv ((List.length a0:Int) == a1)) (by kernel_rfl) rfl (fle_refl _))
abbrev cnf_Holds_r1:List LO:=[lo 2 (.box 25 (.tmp 0)) 0,lo 3 (.box 23 (.tmp 1)) 0,lo 4 (.assign (.const (.bool false))) 4]
abbrev cnf_Holds_r2:List LO:=[lo 7 (.load 25 (.tmp 2)) 25,lo 8 (.call ⟨.value (.func 9),#[.tmp 7],#[25]⟩) 4,lo 9 (.unOp .not 4 (.tmp 8)) 4,lm 10 9 4,lg 11 (.load 23 (.tmp 3)) 23 10 false,lg 12 (.fieldAddr 25 (.tmp 2) 0) 0 10 false,lg 13 (.load 3 (.tmp 12)) 3 10 false,lg 14 (.call ⟨.value (.func 41),#[.tmp 11,.tmp 13],#[23,3]⟩) 4 10 false,lg 15 (.unOp .not 4 (.tmp 14)) 4 10 false,lo 16 (.pick (.tmp 10) (.const (.bool true)) (.tmp 15)) 4]
abbrev cnf_Holds_r3:List LO:=[lo 4 (.assign (.const (.bool false))) 4]
abbrev cnf_Holds_r4:List LO:=[lo 17 (.fieldAddr 25 (.tmp 2) 1) 0,lo 18 (.load 22 (.tmp 17)) 22,lo 19 (.call ⟨.builtin .len,#[.tmp 18],#[22]⟩) 3,lo 20 (.move (.const (.int .i64 0))) 3]
abbrev cnf_Holds_r5:List LO:=[lo 21 (.binOp .lss 3 (.tmp 20) (.tmp 19) 3) 0]
abbrev cnf_Holds_r6:List LO:=[lo 22 (.indexAddr 22 (.tmp 18) (.tmp 20)) 0,lo 23 (.load 55 (.tmp 22)) 55,lo 6 (.alloc 55) 0,ln (.store 55 (.tmp 6) (.tmp 23)) 0]
abbrev cnf_Holds_r7:List LO:=[lo 24 (.fieldAddr 55 (.tmp 6) 0) 0,lo 25 (.load 23 (.tmp 24)) 23,lo 26 (.makeFunc (Fn.func 42) #[] #[.tmp 3]) 65,lo 27 (.call ⟨.value (.func 37),#[.tmp 25,.tmp 26],#[23,65]⟩) 4,lo 28 (.unOp .not 4 (.tmp 27)) 4]
abbrev cnf_Holds_r8:List LO:=[lo 4 (.assign (.const (.bool false))) 4]
abbrev cnf_Holds_r9:List LO:=[lo 29 (.binOp .add 3 (.tmp 20) (.const (.int .i64 1)) 3) 3,lm 20 29 3]
abbrev cnf_Holds_r10:List LO:=[lo 4 (.assign (.const (.bool true))) 4]
abbrev cnf_Holds_c:LC:=.seq (.reg false cnf_Holds_r1) (.seq (.seq (.reg false cnf_Holds_r2) (.cond (.tmp 16) (.seq (.reg false cnf_Holds_r3) .ret) .skip)) (.seq (.seq (.reg false cnf_Holds_r4) (.block 0 (.loop (.seq (.reg false cnf_Holds_r5) (.seq (.cond (.tmp 21) .skip (.exit 0)) (.seq (.block 1 (.seq (.reg false cnf_Holds_r6) (.seq (.reg false cnf_Holds_r7) (.cond (.tmp 28) (.seq (.reg false cnf_Holds_r8) .ret) .skip)))) (.reg false cnf_Holds_r9))))))) (.seq (.reg false cnf_Holds_r10) .ret)))
theorem cnf_Holds_k:FnOk E 14 30 [.tmp 4] cnf_Holds_c:=⟨⟨Go.Proofs.Tryd.f14,by kernel_rfl,by kernel_rfl,by kernel_rfl,by kernel_rfl,by kernel_rfl⟩,rfl,rfl⟩
noncomputable def cnf_Holds_l1 (a0:S_api_Formula) (a1:(List Int)):Int→Option (Step (Int) ((Unit) ⊕ (Unit))):=fun x7=>(if (decide (x7 < (List.length a0.Clauses:Int)))=true then Option.bind (ixl a0.Clauses x7) (fun x11=>Option.bind (slices_ContainsFunc_int_int_s0c84 x11.Lits a1) (fun x12=>(if (!x12)=true then some (Step.done (Sum.inl ())) else some (Step.next (w64 (x7 + 1)))))) else some (Step.done (Sum.inr ())))
noncomputable def cnf_Holds (a0:S_api_Formula) (a1:(List Int)):Option (Bool):=Option.bind (cnf_Fit a0) (fun x1=>Option.bind (if (!x1)=true then some true else Option.bind (cnf_model a1 a0.Vars) (fun x4=>some (!x4)):Option (Bool)) (fun x3=>(if x3=true then some false else Option.bind (loopC (cnf_Holds_l1 a0 a1) 0) (fun y=>match y with | Sum.inl _=>some false | Sum.inr _=>some true))))
theorem cnf_Holds_ok (a0:S_api_Formula) (a1:(List Int)):Ct E 14 [.agg [iv a0.Vars,.fsl 2 (List.map c_S_api_Clause a0.Clauses),.fsl 1 (List.map cI a0.Order)],.fsl 1 (List.map cI a1)] (cnf_Holds a0 a1) (fun r:Bool=>bv r):=ct_intro (N:=30) (L:=cnf_Holds_c) cnf_Holds_k rfl (Nat.le_of_ble_eq_true rfl) (by kernel_rfl) (by
 unfold cnf_Holds
 refine jS ⟨[V 2 (pt 0 3),V 3 (pt 1 1)],[W 0 3 [iv a0.Vars,.fsl 2 (List.map c_S_api_Clause a0.Clauses),.fsl 1 (List.map cI a0.Order)],W 1 1 [.fsl 1 (List.map cI a1)]],2⟩ ?_
 refine jc_seq ?_
 refine jR ?_
 refine jG 0 1 ⟨[V 2 (pt 0 3),V 3 (pt 1 1),V 7 (.agg [iv a0.Vars,.fsl 2 (List.map c_S_api_Clause a0.Clauses),.fsl 1 (List.map cI a0.Order)])],[W 0 3 [iv a0.Vars,.fsl 2 (List.map c_S_api_Clause a0.Clauses),.fsl 1 (List.map cI a0.Order)],W 1 1 [.fsl 1 (List.map cI a1)]],2⟩ ?_
 refine jK 1 (cnf_Fit_ok a0) ?_
 intro x1 h1
 refine jG 2 2 ⟨[V 2 (pt 0 3),V 3 (pt 1 1),V 10 (bv (!x1))],[W 0 3 [iv a0.Vars,.fsl 2 (List.map c_S_api_Clause a0.Clauses),.fsl 1 (List.map cI a0.Order)],W 1 1 [.fsl 1 (List.map cI a1)]],2⟩ ?_
 refine jr_bind 4 6 (fun x3=>⟨[V 2 (pt 0 3),V 3 (pt 1 1),V 16 (bv x3)],[W 0 3 [iv a0.Vars,.fsl 2 (List.map c_S_api_Clause a0.Clauses),.fsl 1 (List.map cI a0.Order)],W 1 1 [.fsl 1 (List.map cI a1)]],2⟩) ?_ ?_
 ·refine jSp 10 ?_ ?_
  ·refine jG 0 6 ⟨[V 2 (pt 0 3),V 3 (pt 1 1),V 16 (bv true)],[W 0 3 [iv a0.Vars,.fsl 2 (List.map c_S_api_Clause a0.Clauses),.fsl 1 (List.map cI a0.Order)],W 1 1 [.fsl 1 (List.map cI a1)]],2⟩ ?_
   refine jr_nil rfl ?_
   exact jx_mid rfl (wkR [(0,some 0),(1,some 1)] (fix_nil _) (pc (hC 0) (pc (hC 1) allp_nil)))
  refine jG 0 3 ⟨[V 2 (pt 0 3),V 3 (pt 1 1),(10,.lit false),V 11 (.fsl 1 (List.map cI a1)),V 13 (iv a0.Vars)],[W 0 3 [iv a0.Vars,.fsl 2 (List.map c_S_api_Clause a0.Clauses),.fsl 1 (List.map cI a0.Order)],W 1 1 [.fsl 1 (List.map cI a1)]],2⟩ ?_
  refine jK 3 (cnf_model_ok a1 a0.Vars) ?_
  intro x4 h4
  refine jG 4 2 ⟨[V 2 (pt 0 3),V 3 (pt 1 1),V 16 (bv (!x4))],[W 0 3 [iv a0.Vars,.fsl 2 (List.map c_S_api_Clause a0.Clauses),.fsl 1 (List.map cI a0.Order)],W 1 1 [.fsl 1 (List.map cI a1)]],2⟩ ?_
  refine jr_nil rfl ?_
  exact jx_mid rfl (wkR [(0,some 0),(1,some 1)] (fix_nil _) (pc (hC 0) (pc (hC 1) allp_nil)))
 intro x3
 refine jN ?_
 refine jIf ?_ ?_
 ·refine jS ⟨[V 4 (bv false)],[],2⟩ ?_
  refine jc_ret ?_
  refine jx_seqR ?_
  exact jx_retF (.inr rfl) (v:=bv false) (by kernel_rfl) rfl (fle_refl _)
 refine jc_skip ?_
 refine jx_seqN ?_
 refine jc_seq ?_
 refine jR ?_
 refine jG 0 4 ⟨[V 3 (pt 1 1),V 18 (.fsl 2 (List.map c_S_api_Clause a0.Clauses)),V 19 (iv (List.length (List.map c_S_api_Clause a0.Clauses):Int)),V 20 (iv 0)],[W 1 1 [.fsl 1 (List.map cI a1)]],2⟩ ?_
 simp only[List.length_map]
 refine jN ?_
 refine jc_block ?_
 refine jc_bind (fun y=>match y with | Sum.inl _=>⟨[V 4 (bv false)],[],0⟩ | Sum.inr _=>⟨[],[],0⟩) (fun y=>match y with | Sum.inl _=>.ret | Sum.inr _=>(.exit 0)) (jc_loop (fun x7=>⟨[V 3 (pt 0 1),V 18 (.fsl 2 (List.map c_S_api_Clause a0.Clauses)),V 19 (iv (List.length a0.Clauses:Int)),V 20 (iv x7)],[W 0 1 [.fsl 1 (List.map cI a1)]],1⟩) (wkR [(0,some 1)] (fix_nil _) (pc (hC 1) allp_nil)) ?_) ?_
 ·intro x7
  unfold cnf_Holds_l1
  refine jS ⟨[V 3 (pt 0 1),V 18 (.fsl 2 (List.map c_S_api_Clause a0.Clauses)),V 19 (iv (List.length a0.Clauses:Int)),V 20 (iv x7),V 21 (bv (decide (x7 < (List.length a0.Clauses:Int))))],[W 0 1 [.fsl 1 (List.map cI a1)]],1⟩ ?_
  refine jc_seq ?_
  refine jIf ?_ ?_
  ·refine jc_skip ?_
   refine jx_seqN ?_
   refine jc_seq ?_
   refine jc_block ?_
   refine jR ?_
   refine jr_part (i:=0) (mo:=ixl a0.Clauses x7) rfl rfl rfl rfl (fun _ hc=>aop_ixf (c:=c_S_api_Clause) (sz:=2) (e:=55) (kk:=.i64) (by kernel_rfl) (by kernel_rfl) (by kernel_rfl) (by kernel_rfl) hc) (fun _=>rfl) ?_
   intro x11 h11
   refine jG 1 3 ⟨[V 3 (pt 0 1),V 6 (pt 1 2),V 18 (.fsl 2 (List.map c_S_api_Clause a0.Clauses)),V 19 (iv (List.length a0.Clauses:Int)),V 20 (iv x7)],[W 0 1 [.fsl 1 (List.map cI a1)],W 1 2 [.fsl 1 (List.map cI x11.Lits),iv x11.Tag]],2⟩ ?_
   refine jN ?_
   refine jR ?_
   refine jG 0 3 ⟨[V 3 (pt 0 1),V 18 (.fsl 2 (List.map c_S_api_Clause a0.Clauses)),V 19 (iv (List.length a0.Clauses:Int)),V 20 (iv x7),V 25 (.fsl 1 (List.map cI x11.Lits)),V 26 (.fn 42 [pt 0 1])],[W 0 1 [.fsl 1 (List.map cI a1)]],2⟩ ?_
   refine jr_callF (i:=3) rfl rfl rfl rfl (vs:=[.fsl 1 (List.map cI x11.Lits),.fn 42 [pt 0 1]]) (vs0:=[.fsl 1 (List.map cI x11.Lits),.fn 42 [.fptr [.fsl 1 (List.map cI a1)] 0]]) (b:=true) (by kernel_rfl) (by kernel_rfl) (all2_cons (fle_refl _) (all2_cons (fle_refl _) all2_nil)) (slices_ContainsFunc_int_int_s0c84_ok x11.Lits a1) (fun _=>rfl) (fun _=>rfl) ?_
   intro x12 h12
   refine jG 4 1 ⟨[V 3 (pt 0 1),V 18 (.fsl 2 (List.map c_S_api_Clause a0.Clauses)),V 19 (iv (List.length a0.Clauses:Int)),V 20 (iv x7),V 28 (bv (!x12))],[W 0 1 [.fsl 1 (List.map cI a1)]],2⟩ ?_
   refine jN ?_
   refine jIf ?_ ?_
   ·refine jS ⟨[V 4 (bv false)],[],2⟩ ?_
    refine jc_ret ?_
    refine jx_blkR ?_
    refine jx_seqR ?_
    exact jx_done rfl nofun (wkR [] (fix_nil _) allp_nil)
   refine jc_skip ?_
   refine jx_blkN ?_
   refine jx_seqN ?_
   refine jT ⟨[V 3 (pt 0 1),V 18 (.fsl 2 (List.map c_S_api_Clause a0.Clauses)),V 19 (iv (List.length a0.Clauses:Int)),V 20 (iv (w64 (x7 + 1)))],[W 0 1 [.fsl 1 (List.map cI a1)]],2⟩ ?_
   exact jx_next (wkR [(0,some 0)] (fix_nil _) (pc (hC 0) allp_nil))
  refine jc_exit ?_
  refine jx_seqE ?_
  exact jx_done rfl nofun (wkR [] (fix_nil _) allp_nil)
 rintro (_ | _)
 ·refine jx_blkR ?_
  refine jx_seqR ?_
  exact jx_retF (.inr rfl) (v:=bv false) (by kernel_rfl) rfl (fle_refl _)
 refine jx_blkE ?_
 refine jx_seqN ?_
 refine jS ⟨[V 4 (bv true)],[],0⟩ ?_
 refine jc_ret ?_
 exact jx_retF (.inr rfl) (v:=bv true) (by kernel_rfl) rfl (fle_refl _))
abbrev cnf_twos_1_it_r1:List LO:=[lo 5 (.load 23 (.tmp 1)) 23,lo 6 (.call ⟨.builtin .len,#[.tmp 5],#[23]⟩) 3,lo 7 (.move (.const (.int .i64 0))) 3]
abbrev cnf_twos_1_it_r2:List LO:=[lo 8 (.binOp .lss 3 (.tmp 7) (.tmp 6) 3) 0]
abbrev cnf_twos_1_it_r3:List LO:=[lm 9 7 3,lo 3 (.assign (.tmp 9)) 3]
abbrev cnf_twos_1_it_r4:List LO:=[lm 10 3 3,lo 11 (.binOp .add 3 (.tmp 10) (.const (.int .i64 1)) 3) 3,lo 4 (.assign (.tmp 11)) 3]
abbrev cnf_twos_1_it_r5:List LO:=[lm 12 4 3,lo 13 (.load 23 (.tmp 1)) 23,lo 14 (.call ⟨.builtin .len,#[.tmp 13],#[23]⟩) 3,lo 15 (.binOp .lss 3 (.tmp 12) (.tmp 14) 3) 4]
abbrev cnf_twos_1_it_r6:List LO:=[lm 18 0 58,lo 19 (.load 23 (.tmp 1)) 23,lm 20 3 3,lo 21 (.indexAddr 23 (.tmp 19) (.tmp 20)) 0,lo 22 (.load 3 (.tmp 21)) 3,lo 23 (.load 23 (.tmp 1)) 23,lm 24 4 3,lo 25 (.indexAddr 23 (.tmp 23) (.tmp 24)) 0,lo 26 (.load 3 (.tmp 25)) 3,lo 27 (.call ⟨.value (.tmp 18),#[.tmp 22,.tmp 26],#[3,3]⟩) 4,lo 28 (.unOp .not 4 (.tmp 27)) 4]
abbrev cnf_twos_1_it_r7:List LO:=[lm 16 4 3,lo 17 (.binOp .add 3 (.tmp 16) (.const (.int .i64 1)) 3) 3,lo 4 (.assign (.tmp 17)) 3]
abbrev cnf_twos_1_it_r8:List LO:=[lo 29 (.binOp .add 3 (.tmp 7) (.const (.int .i64 1)) 3) 3,lm 7 29 3]
abbrev cnf_twos_1_it_c:LC:=.seq (.reg false cnf_twos_1_it_r1) (.block 0 (.loop (.seq (.reg false cnf_twos_1_it_r2) (.seq (.cond (.tmp 8) .skip (.exit 0)) (.seq (.block 1 (.seq (.reg false cnf_twos_1_it_r3) (.seq (.reg false cnf_twos_1_it_r4) (.block 2 (.loop (.seq (.seq (.reg false cnf_twos_1_it_r5) (.cond (.tmp 15) .skip (.exit 2))) (.seq (.block 3 (.seq (.reg true cnf_twos_1_it_r6) (.cond (.tmp 28) .ret .skip))) (.reg false cnf_twos_1_it_r7)))))))) (.reg false cnf_twos_1_it_r8))))))
theorem cnf_twos_1_it_k:FnOk E 76 30 [] cnf_twos_1_it_c:=⟨⟨Go.Proofs.Tryd.f76,by kernel_rfl,by kernel_rfl,by kernel_rfl,by kernel_rfl,by kernel_rfl⟩,rfl,rfl⟩
abbrev cnf_twos_r1:List LO:=[lo 1 (.box 23 (.tmp 0)) 0,lo 2 (.assign (.const .nilFunc)) 72]
abbrev cnf_twos_r2:List LO:=[lo 3 (.makeFunc (Fn.func 76) #[] #[.tmp 1]) 71,lo 2 (.assign (.tmp 3)) 72]
abbrev cnf_twos_c:LC:=.seq (.reg false cnf_twos_r1) (.seq (.reg false cnf_twos_r2) .ret)
theorem cnf_twos_k:FnOk E 46 4 [.tmp 2] cnf_twos_c:=⟨⟨Go.Proofs.Tryd.f46,by kernel_rfl,by kernel_rfl,by kernel_rfl,by kernel_rfl,by kernel_rfl⟩,rfl,rfl⟩
abbrev cnf_twos_T (a0:List Int) (r:Unit):CS:=⟨[V 2 (.fn 76 [pt 1 1])],[(0,.rows 1 (List.map cI a0)),W 1 1 [.osl 0 0 (List.length a0) 1]],2⟩
noncomputable def cnf_twos (a0:List Int):Option (Unit):=some ()
theorem cnf_twos_ok (a0:List Int):CtM E 46 [.osl 0 0 (List.length a0) 1] [(0,.rows 1 (List.map cI a0))] 1 (cnf_twos a0) (fun r:Unit=>.fn 76 [pt 1 1]) (fun r:Unit=>[(0,.rows 1 (List.map cI a0)),W 1 1 [.osl 0 0 (List.length a0) 1]]) 2:=ctm_intro (N:=4) (L:=cnf_twos_c) cnf_twos_k rfl (Nat.le_of_ble_eq_true rfl) (fun F hF=>by
 unfold cnf_twos
 refine jS ⟨[V 1 (pt 1 1)],[(0,.rows 1 (List.map cI a0)),W 1 1 [.osl 0 0 (List.length a0) 1]],2⟩ ?_
 refine jS ⟨[V 2 (.fn 76 [pt 1 1])],[(0,.rows 1 (List.map cI a0)),W 1 1 [.osl 0 0 (List.length a0) 1]],2⟩ ?_
 refine jc_ret ?_
 exact jx_retM (cnf_twos_T a0 ()) (.inr rfl) (wkR [(0,some 0),(1,some 1)] (fix_of hF (k:=1) rfl) (pc (hL 0 (noid_map ni_I _)) (pc (hC 1) allp_nil))))
abbrev slices_Clone_int_int_m0f1b_r1:List LO:=[lo 2 (.assign (.const (.slice none 0 0))) 23]
abbrev slices_Clone_int_int_m0f1b_r2:List LO:=[lm 3 0 23,lo 4 (.binOp .eql 23 (.tmp 3) (.const (.slice none 0 0)) 23) 4]
abbrev slices_Clone_int_int_m0f1b_r3:List LO:=[lo 2 (.assign (.const (.slice none 0 0))) 23]
abbrev slices_Clone_int_int_m0f1b_r4:List LO:=[lo 5 (.buildSlice 23 0 #[]) 23,lm 6 0 23,lo 7 (.call ⟨.builtin .append,#[.tmp 5,.tmp 6],#[23,23]⟩) 23,lo 2 (.assign (.tmp 7)) 23]
abbrev slices_Clone_int_int_m0f1b_c:LC:=.seq (.reg false slices_Clone_int_int_m0f1b_r1) (.seq (.seq (.reg false slices_Clone_int_int_m0f1b_r2) (.cond (.tmp 4) (.seq (.reg false slices_Clone_int_int_m0f1b_r3) .ret) .skip)) (.seq (.reg false slices_Clone_int_int_m0f1b_r4) .ret))
theorem slices_Clone_int_int_m0f1b_k:FnOk E 29 8 [.tmp 2] slices_Clone_int_int_m0f1b_c:=⟨⟨Go.Proofs.Tryd.f29,by kernel_rfl,by kernel_rfl,by kernel_rfl,by kernel_rfl,by kernel_rfl⟩,rfl,rfl⟩
abbrev slices_Clone_int_int_m0f1b_T (a0:List Int) (r:List Int):CS:=⟨[V 2 (.osl 1 0 (List.length r) 1)],[(0,.rows 1 (List.map cI a0)),(1,.rows 1 (List.map cI r))],2⟩
noncomputable def slices_Clone_int_int_m0f1b (a0:List Int):Option (List Int):=Option.bind (app 8 ([]:List Int) a0) (fun x3=>some x3)
theorem slices_Clone_int_int_m0f1b_ok (a0:List Int):CtM E 29 [.osl 0 0 (List.length a0) 1] [(0,.rows 1 (List.map cI a0))] 1 (slices_Clone_int_int_m0f1b a0) (fun r:List Int=>.osl 1 0 (List.length r) 1) (fun r:List Int=>[(0,.rows 1 (List.map cI a0)),(1,.rows 1 (List.map cI r))]) 2:=ctm_intro (N:=8) (L:=slices_Clone_int_int_m0f1b_c) slices_Clone_int_int_m0f1b_k rfl (Nat.le_of_ble_eq_true rfl) (fun F hF=>by
 unfold slices_Clone_int_int_m0f1b
 refine jS ⟨[V 0 (.osl 0 0 (List.length a0) 1)],[(0,.rows 1 (List.map cI a0))],1⟩ ?_
 refine jc_seq ?_
 refine jR ?_
 refine jG 0 1 ⟨[V 0 (.osl 0 0 (List.length a0) 1),V 3 (.osl 0 0 (List.length a0) 1)],[(0,.rows 1 (List.map cI a0))],1⟩ ?_
 refine jr_isnil 1 (v:=.osl 0 0 (List.length a0) 1) (C:=a0=[]) (mA:=(some [])) (b:=false) mayO (fun h=>by first | (rw[h]; rfl) | simp[h,app]) (fun _=>?_) ?_ (hr:=.inl ⟨_,_,_,_,rfl⟩)
 ·refine jN ?_
  refine jc_condK (c:=true) (by kernel_rfl) ?_
  refine jS ⟨[V 2 (nilS)],[(0,.rows 1 (List.map cI a0))],1⟩ ?_
  refine jc_ret ?_
  refine jx_seqR ?_
  exact jx_retM (slices_Clone_int_int_m0f1b_T a0 []) (.inr rfl) (wkR [(0,some 0),(1,none)] (fix_of hF (k:=1) rfl) (pc (hL 0 (noid_map ni_I _)) (pc hZ allp_nil)))
 refine jN ?_
 refine jc_condK (c:=false) (by kernel_rfl) ?_
 refine jc_skip ?_
 refine jx_seqN ?_
 refine jR ?_
 refine jG 0 2 ⟨[V 5 (.osl 1 0 (List.length ([]:List Int)) 1),V 6 (.osl 0 0 (List.length a0) 1)],[(0,.rows 1 (List.map cI a0)),(1,.rows 1 (List.map cI ([]:List Int)))],2⟩ ?_
 refine jr_two (i:=2) (C:=a0=[]) (st1:=fun x3=>⟨[V 7 (.osl 2 0 (List.length x3) 1)],[(0,.rows 1 (List.map cI a0)),(2,.rows 1 (List.map cI x3))],3⟩) rfl rfl rfl rfl (fun q _ hc=>aop_app (u:=.osl 1 0 (List.length ([]:List Int)) 1) (w:=.osl 0 0 (List.length a0) 1) (e:=3) (td:=.slice 3) (by kernel_rfl) (by kernel_rfl) (by kernel_rfl) (by kernel_rfl) (.inl ⟨_,rfl⟩) (appendOf_own (c:=cI) (sz:=1) (b:=8) (id:=1) (by kernel_rfl) (by kernel_rfl) (rows_own (by kernel_rfl)) q hc)) (fun q _ hc=>aop_app (u:=.osl 1 0 (List.length ([]:List Int)) 1) (w:=.osl 0 0 (List.length a0) 1) (e:=3) (td:=.slice 3) (by kernel_rfl) (by kernel_rfl) (by kernel_rfl) (by kernel_rfl) (.inl ⟨_,rfl⟩) (appendOf_same (c:=cI) (sz:=1) (b:=8) (m:=a0) (by kernel_rfl) (.inr (.inr ⟨_,_,_,_,rfl⟩)) (rows_own (by kernel_rfl)) q)) (fun _=>rfl) (fun _=>rfl) (fun _=>wkR [(0,some 0),(2,some 2)] (fix_of hF (k:=1) rfl) (pc (hL 0 (noid_map ni_I _)) (pc (hL 2 (noid_map ni_I _)) allp_nil))) (fun q _ hc=>by cases app_same q hc; exact wkR [(0,some 0),(2,some 1)] (fix_of hF (k:=1) rfl) (pc (hL 0 (noid_map ni_I _)) (pc (hL 1 (noid_map ni_I _)) allp_nil))) ?_
 intro x3 h3
 refine jG 3 1 ⟨[V 2 (.osl 2 0 (List.length x3) 1)],[(0,.rows 1 (List.map cI a0)),(2,.rows 1 (List.map cI x3))],3⟩ ?_
 refine jN ?_
 refine jc_ret ?_
 exact jx_retM (slices_Clone_int_int_m0f1b_T a0 x3) (.inr rfl) (wkR [(0,some 0),(1,some 2)] (fix_of hF (k:=1) rfl) (pc (hL 0 (noid_map ni_I _)) (pc (hL 2 (noid_map ni_I _)) allp_nil))))
abbrev cnf_Clean_m0f1b_r1:List LO:=[lo 2 (.assign (.const (.slice none 0 0))) 23,lo 3 (.assign (.const (.bool false))) 4]
abbrev cnf_Clean_m0f1b_r2:List LO:=[lm 8 0 23,lo 9 (.call ⟨.value (.func 29),#[.tmp 8],#[23]⟩) 23,lo 4 (.assign (.tmp 9)) 23]
abbrev cnf_Clean_m0f1b_r3:List LO:=[lm 10 4 23,lo 11 (.call ⟨.builtin .len,#[.tmp 10],#[23]⟩) 3,lo 12 (.move (.const (.int .i64 0))) 3]
abbrev cnf_Clean_m0f1b_r4:List LO:=[lo 13 (.binOp .lss 3 (.tmp 12) (.tmp 11) 3) 0]
abbrev cnf_Clean_m0f1b_r5:List LO:=[lo 14 (.indexAddr 23 (.tmp 10) (.tmp 12)) 0,lo 15 (.load 3 (.tmp 14)) 3,lo 6 (.assign (.tmp 15)) 3]
abbrev cnf_Clean_m0f1b_r6:List LO:=[lm 16 6 3,lo 17 (.call ⟨.value (.func 30),#[.tmp 16,.const (.int .i64 4096)],#[3,3]⟩) 4,lo 18 (.unOp .not 4 (.tmp 17)) 4]
abbrev cnf_Clean_m0f1b_r7:List LO:=[lo 2 (.assign (.const (.slice none 0 0))) 23,lo 3 (.assign (.const (.bool false))) 4]
abbrev cnf_Clean_m0f1b_r8:List LO:=[lo 19 (.binOp .add 3 (.tmp 12) (.const (.int .i64 1)) 3) 3,lm 12 19 3]
abbrev cnf_Clean_m0f1b_r9:List LO:=[lm 20 4 23,lo 21 (.call ⟨.value (.func 31),#[.tmp 20,.func 32],#[23,60]⟩) 0]
abbrev cnf_Clean_m0f1b_r10:List LO:=[lm 22 4 23,lo 23 (.call ⟨.value (.func 33),#[.tmp 22],#[23]⟩) 23,lo 4 (.assign (.tmp 23)) 23]
abbrev cnf_Clean_m0f1b_r11:List LO:=[lm 24 4 23,lo 25 (.call ⟨.builtin .len,#[.tmp 24],#[23]⟩) 3,lo 26 (.move (.const (.int .i64 0))) 3]
abbrev cnf_Clean_m0f1b_r12:List LO:=[lo 27 (.binOp .lss 3 (.tmp 26) (.tmp 25) 3) 0]
abbrev cnf_Clean_m0f1b_r13:List LO:=[lm 28 26 3,lo 7 (.assign (.tmp 28)) 3]
abbrev cnf_Clean_m0f1b_r14:List LO:=[lm 29 7 3,lo 30 (.binOp .gtr 3 (.tmp 29) (.const (.int .i64 0)) 3) 4,lm 31 30 4,lmg 32 4 23 31 true,lmg 33 7 3 31 true,lg 34 (.binOp .sub 3 (.tmp 33) (.const (.int .i64 1)) 3) 3 31 true,lg 35 (.indexAddr 23 (.tmp 32) (.tmp 34)) 0 31 true,lg 36 (.load 3 (.tmp 35)) 3 31 true,lmg 37 4 23 31 true,lmg 38 7 3 31 true,lg 39 (.indexAddr 23 (.tmp 37) (.tmp 38)) 0 31 true,lg 40 (.load 3 (.tmp 39)) 3 31 true,lg 41 (.unOp .neg 3 (.tmp 40)) 3 31 true,lg 42 (.binOp .eql 3 (.tmp 36) (.tmp 41) 3) 4 31 true,lo 43 (.pick (.tmp 31) (.tmp 42) (.const (.bool false))) 4]
abbrev cnf_Clean_m0f1b_r15:List LO:=[lo 2 (.assign (.const (.slice none 0 0))) 23,lo 3 (.assign (.const (.bool false))) 4]
abbrev cnf_Clean_m0f1b_r16:List LO:=[lo 44 (.binOp .add 3 (.tmp 26) (.const (.int .i64 1)) 3) 3,lm 26 44 3]
abbrev cnf_Clean_m0f1b_r17:List LO:=[lm 45 4 23,lo 2 (.assign (.tmp 45)) 23,lo 3 (.assign (.const (.bool true))) 4]
abbrev cnf_Clean_m0f1b_c:LC:=.seq (.reg false cnf_Clean_m0f1b_r1) (.seq (.reg false cnf_Clean_m0f1b_r2) (.seq (.seq (.reg false cnf_Clean_m0f1b_r3) (.block 0 (.loop (.seq (.reg false cnf_Clean_m0f1b_r4) (.seq (.cond (.tmp 13) .skip (.exit 0)) (.seq (.block 1 (.seq (.reg false cnf_Clean_m0f1b_r5) (.seq (.reg false cnf_Clean_m0f1b_r6) (.cond (.tmp 18) (.seq (.reg false cnf_Clean_m0f1b_r7) .ret) .skip)))) (.reg false cnf_Clean_m0f1b_r8))))))) (.seq (.reg false cnf_Clean_m0f1b_r9) (.seq (.reg false cnf_Clean_m0f1b_r10) (.seq (.seq (.reg false cnf_Clean_m0f1b_r11) (.block 2 (.loop (.seq (.reg false cnf_Clean_m0f1b_r12) (.seq (.cond (.tmp 27) .skip (.exit 2)) (.seq (.block 3 (.seq (.reg false cnf_Clean_m0f1b_r13) (.seq (.reg true cnf_Clean_m0f1b_r14) (.cond (.tmp 43) (.seq (.reg false cnf_Clean_m0f1b_r15) .ret) .skip)))) (.reg false cnf_Clean_m0f1b_r16))))))) (.seq (.reg false cnf_Clean_m0f1b_r17) .ret))))))
theorem cnf_Clean_m0f1b_k:FnOk E 7 46 [.tmp 2,.tmp 3] cnf_Clean_m0f1b_c:=⟨⟨Go.Proofs.Tryd.f7,by kernel_rfl,by kernel_rfl,by kernel_rfl,by kernel_rfl,by kernel_rfl⟩,rfl,rfl⟩
noncomputable def cnf_Clean_m0f1b_l1 (x17:List Int):Int→Option (Step (Int) ((Unit) ⊕ (Unit))):=fun x20=>(if (decide (x20 < (List.length x17:Int)))=true then Option.bind (ixl x17 x20) (fun x24=>Option.bind (cnf_literal x24 4096) (fun x25=>(if (!x25)=true then some (Step.done (Sum.inl ())) else some (Step.next (w64 (x20 + 1)))))) else some (Step.done (Sum.inr ())))
noncomputable def cnf_Clean_m0f1b_l2 (x27:List Int):Int→Option (Step (Int) ((Unit) ⊕ (Unit))):=fun x28=>(if (decide (x28 < (List.length x27:Int)))=true then Option.bind (if (decide (x28 > 0))=true then Option.bind (ixl x27 (w64 (x28 - 1))) (fun x36=>Option.bind (ixl x27 x28) (fun x37=>some (x36 == (w64 (0 - x37))))) else some false:Option (Bool)) (fun x35=>(if x35=true then some (Step.done (Sum.inl ())) else some (Step.next (w64 (x28 + 1))))) else some (Step.done (Sum.inr ())))
abbrev cnf_Clean_m0f1b_T (a0:List Int) (r:List Int × Bool):CS:=⟨[V 2 (.osl 1 0 (List.length r.1) 1),V 3 (bv r.2)],[(0,.rows 1 (List.map cI a0)),(1,.rows 1 (List.map cI r.1))],2⟩
noncomputable def cnf_Clean_m0f1b (a0:List Int):Option (List Int × Bool):=Option.bind (slices_Clone_int_int_m0f1b a0) (fun x17=>Option.bind (loopC (cnf_Clean_m0f1b_l1 x17) 0) (fun y=>match y with | Sum.inl _=>some ([],false) | Sum.inr _=>Option.bind (slices_SortFuncV x17) (fun x26=>Option.bind (slices_CompactI x26) (fun x27=>Option.bind (loopC (cnf_Clean_m0f1b_l2 x27) 0) (fun y=>match y with | Sum.inl _=>some ([],false) | Sum.inr _=>some (x27,true))))))
theorem cnf_Clean_m0f1b_ok (a0:List Int):CtM E 7 [.osl 0 0 (List.length a0) 1] [(0,.rows 1 (List.map cI a0))] 1 (cnf_Clean_m0f1b a0) (fun r:List Int × Bool=>.tup [.osl 1 0 (List.length r.1) 1,bv r.2]) (fun r:List Int × Bool=>[(0,.rows 1 (List.map cI a0)),(1,.rows 1 (List.map cI r.1))]) 2:=ctm_intro (N:=46) (L:=cnf_Clean_m0f1b_c) cnf_Clean_m0f1b_k rfl (Nat.le_of_ble_eq_true rfl) (fun F hF=>by
 unfold cnf_Clean_m0f1b
 refine jS ⟨[V 0 (.osl 0 0 (List.length a0) 1)],[(0,.rows 1 (List.map cI a0))],1⟩ ?_
 refine jR ?_
 refine jG 0 1 ⟨[V 8 (.osl 0 0 (List.length a0) 1)],[(0,.rows 1 (List.map cI a0))],1⟩ ?_
 refine jr_callM 1 [(0,some 0)] [(0,some 0),(1,some 1)] (fun r:List Int=>[(0,.rows 1 (List.map cI a0)),(1,.rows 1 (List.map cI r))]) (fun r:List Int=>.osl 1 0 (List.length r) 1) 2 (slices_Clone_int_int_m0f1b_ok a0) (pc (hL 0 (noid_map ni_I _)) allp_nil) (fun r=>(pc (.inr (hL 0 (noid_map ni_I _))) (pc (.inr (hL 1 (noid_map ni_I _))) allp_nil))) ?_
 rintro x17 hm6
 refine jG 2 1 ⟨[V 4 (.osl 1 0 (List.length x17) 1)],[(0,.rows 1 (List.map cI a0)),(1,.rows 1 (List.map cI x17))],2⟩ ?_
 refine jN ?_
 refine jc_seq ?_
 refine jS ⟨[V 4 (.osl 1 0 (List.length x17) 1),V 10 (.osl 1 0 (List.length x17) 1),V 11 (iv (List.length x17:Int)),V 12 (iv 0)],[(0,.rows 1 (List.map cI a0)),(1,.rows 1 (List.map cI x17))],2⟩ ?_
 refine jc_block ?_
 refine jc_bind (fun y=>match y with | Sum.inl _=>⟨[V 2 (nilS),V 3 (bv false)],[(0,.rows 1 (List.map cI a0))],1⟩ | Sum.inr _=>⟨[V 4 (.osl 1 0 (List.length x17) 1)],[(0,.rows 1 (List.map cI a0)),(1,.rows 1 (List.map cI x17))],2⟩) (fun y=>match y with | Sum.inl _=>.ret | Sum.inr _=>(.exit 0)) (jc_loop (fun x20=>⟨[V 4 (.osl 1 0 (List.length x17) 1),V 10 (.osl 1 0 (List.length x17) 1),V 11 (iv (List.length x17:Int)),V 12 (iv x20)],[(0,.rows 1 (List.map cI a0)),(1,.rows 1 (List.map cI x17))],2⟩) (wkR [(0,some 0),(1,some 1)] (fix_of hF (k:=1) rfl) (pc (hL 0 (noid_map ni_I _)) (pc (hL 1 (noid_map ni_I _)) allp_nil))) ?_) ?_
 ·intro x20
  unfold cnf_Clean_m0f1b_l1
  refine jS ⟨[V 4 (.osl 1 0 (List.length x17) 1),V 10 (.osl 1 0 (List.length x17) 1),V 11 (iv (List.length x17:Int)),V 12 (iv x20),V 13 (bv (decide (x20 < (List.length x17:Int))))],[(0,.rows 1 (List.map cI a0)),(1,.rows 1 (List.map cI x17))],2⟩ ?_
  refine jc_seq ?_
  refine jIf ?_ ?_
  ·refine jc_skip ?_
   refine jx_seqN ?_
   refine jc_seq ?_
   refine jc_block ?_
   refine jR ?_
   refine jr_part (i:=0) (mo:=ixl x17 x20) rfl rfl rfl rfl (fun _ hc=>aop_ixo0 (sz:=1) (e:=3) (kk:=.i64) (id:=1) (by kernel_rfl) (by kernel_rfl) (by kernel_rfl) (by kernel_rfl) hc) (fun _=>rfl) ?_
   intro x24 h24
   refine jr_one (i:=1) (v:=iv x24) rfl rfl rfl rfl (aop_ldo (l:=x17) (c:=cI) (id:=1) (k:=(Int.toNat x20)) (sz:=1) (off:=0) (a:=x24) (by kernel_rfl) (by kernel_rfl) (ixl_lt h24).2.2 (by kernel_rfl)) rfl ?_
   refine jG 2 1 ⟨[V 4 (.osl 1 0 (List.length x17) 1),V 6 (iv x24),V 10 (.osl 1 0 (List.length x17) 1),V 11 (iv (List.length x17:Int)),V 12 (iv x20)],[(0,.rows 1 (List.map cI a0)),(1,.rows 1 (List.map cI x17))],2⟩ ?_
   refine jN ?_
   refine jR ?_
   refine jG 0 1 ⟨[V 4 (.osl 1 0 (List.length x17) 1),V 10 (.osl 1 0 (List.length x17) 1),V 11 (iv (List.length x17:Int)),V 12 (iv x20),V 16 (iv x24)],[(0,.rows 1 (List.map cI a0)),(1,.rows 1 (List.map cI x17))],2⟩ ?_
   refine jK 1 (cnf_literal_ok x24 4096) ?_
   intro x25 h25
   refine jG 2 1 ⟨[V 4 (.osl 1 0 (List.length x17) 1),V 10 (.osl 1 0 (List.length x17) 1),V 11 (iv (List.length x17:Int)),V 12 (iv x20),V 18 (bv (!x25))],[(0,.rows 1 (List.map cI a0)),(1,.rows 1 (List.map cI x17))],2⟩ ?_
   refine jN ?_
   refine jIf ?_ ?_
   ·refine jS ⟨[V 2 (nilS),V 3 (bv false)],[(0,.rows 1 (List.map cI a0))],2⟩ ?_
    refine jc_ret ?_
    refine jx_blkR ?_
    refine jx_seqR ?_
    exact jx_done rfl nofun (wkR [(0,some 0)] (fix_of hF (k:=1) rfl) (pc (hL 0 (noid_map ni_I _)) allp_nil))
   refine jc_skip ?_
   refine jx_blkN ?_
   refine jx_seqN ?_
   refine jT ⟨[V 4 (.osl 1 0 (List.length x17) 1),V 10 (.osl 1 0 (List.length x17) 1),V 11 (iv (List.length x17:Int)),V 12 (iv (w64 (x20 + 1)))],[(0,.rows 1 (List.map cI a0)),(1,.rows 1 (List.map cI x17))],2⟩ ?_
   exact jx_next (wkR [(0,some 0),(1,some 1)] (fix_of hF (k:=1) rfl) (pc (hL 0 (noid_map ni_I _)) (pc (hL 1 (noid_map ni_I _)) allp_nil)))
  refine jc_exit ?_
  refine jx_seqE ?_
  exact jx_done rfl nofun (wkR [(0,some 0),(1,some 1)] (fix_of hF (k:=1) rfl) (pc (hL 0 (noid_map ni_I _)) (pc (hL 1 (noid_map ni_I _)) allp_nil)))
 rintro (_ | _)
 ·refine jx_blkR ?_
  refine jx_seqR ?_
  exact jx_retM (cnf_Clean_m0f1b_T a0 ([],false)) (.inr rfl) (wkR [(0,some 0),(1,none)] (fix_of hF (k:=1) rfl) (pc (hL 0 (noid_map ni_I _)) (pc hZ allp_nil)))
 refine jx_blkE ?_
 refine jx_seqN ?_
 refine jR ?_
 refine jG 0 1 ⟨[V 4 (.osl 1 0 (List.length x17) 1),V 20 (.osl 1 0 (List.length x17) 1)],[(0,.rows 1 (List.map cI a0)),(1,.rows 1 (List.map cI x17))],2⟩ ?_
 refine jr_callM 1 [(0,some 1)] [(1,some 0)] (fun r:List Int=>[(0,.rows 1 (List.map cI a0)),(1,.rows 1 (List.map cI r))]) (fun r:List Int=>.tup []) 2 (slices_SortFuncV_ok x17) (pc (hL 1 (noid_map ni_I _)) allp_nil) (fun r=>(pc (.inl ⟨rfl,rfl⟩) (pc (.inr (hL 0 (noid_map ni_I _))) allp_nil))) ?_
 rintro x26 hm5
 try rw[← slices_SortFuncV_len hm5]
 refine jN ?_
 refine jR ?_
 refine jG 0 1 ⟨[V 22 (.osl 1 0 (List.length x26) 1)],[(0,.rows 1 (List.map cI a0)),(1,.rows 1 (List.map cI x26))],2⟩ ?_
 refine jr_callM 1 [(0,some 1)] [(1,some 0)] (fun r:List Int=>[(0,.rows 1 (List.map cI a0)),(1,.rows 1 (List.map cI r))]) (fun r:List Int=>.osl 1 0 (List.length r) 1) 2 (slices_CompactI_ok x26) (pc (hL 1 (noid_map ni_I _)) allp_nil) (fun r=>(pc (.inl ⟨rfl,rfl⟩) (pc (.inr (hL 0 (noid_map ni_I _))) allp_nil))) ?_
 rintro x27 hm4
 refine jG 2 1 ⟨[V 4 (.osl 1 0 (List.length x27) 1)],[(0,.rows 1 (List.map cI a0)),(1,.rows 1 (List.map cI x27))],2⟩ ?_
 refine jN ?_
 refine jc_seq ?_
 refine jS ⟨[V 4 (.osl 1 0 (List.length x27) 1),V 25 (iv (List.length x27:Int)),V 26 (iv 0)],[(0,.rows 1 (List.map cI a0)),(1,.rows 1 (List.map cI x27))],2⟩ ?_
 refine jc_block ?_
 refine jc_bind (fun y=>match y with | Sum.inl _=>⟨[V 2 (nilS),V 3 (bv false)],[(0,.rows 1 (List.map cI a0))],1⟩ | Sum.inr _=>⟨[V 4 (.osl 1 0 (List.length x27) 1)],[(0,.rows 1 (List.map cI a0)),(1,.rows 1 (List.map cI x27))],2⟩) (fun y=>match y with | Sum.inl _=>.ret | Sum.inr _=>(.exit 2)) (jc_loop (fun x28=>⟨[V 4 (.osl 1 0 (List.length x27) 1),V 25 (iv (List.length x27:Int)),V 26 (iv x28)],[(0,.rows 1 (List.map cI a0)),(1,.rows 1 (List.map cI x27))],2⟩) (wkR [(0,some 0),(1,some 1)] (fix_of hF (k:=1) rfl) (pc (hL 0 (noid_map ni_I _)) (pc (hL 1 (noid_map ni_I _)) allp_nil))) ?_) ?_
 ·intro x28
  unfold cnf_Clean_m0f1b_l2
  refine jS ⟨[V 4 (.osl 1 0 (List.length x27) 1),V 25 (iv (List.length x27:Int)),V 26 (iv x28),V 27 (bv (decide (x28 < (List.length x27:Int))))],[(0,.rows 1 (List.map cI a0)),(1,.rows 1 (List.map cI x27))],2⟩ ?_
  refine jc_seq ?_
  refine jIf ?_ ?_
  ·refine jc_skip ?_
   refine jx_seqN ?_
   refine jc_seq ?_
   refine jc_block ?_
   refine jS ⟨[V 4 (.osl 1 0 (List.length x27) 1),V 7 (iv x28),V 25 (iv (List.length x27:Int)),V 26 (iv x28)],[(0,.rows 1 (List.map cI a0)),(1,.rows 1 (List.map cI x27))],2⟩ ?_
   refine jR ?_
   refine jG 0 3 ⟨[V 4 (.osl 1 0 (List.length x27) 1),V 7 (iv x28),V 25 (iv (List.length x27:Int)),V 26 (iv x28),V 31 (bv (decide (x28 > 0)))],[(0,.rows 1 (List.map cI a0)),(1,.rows 1 (List.map cI x27))],2⟩ ?_
   refine jr_bind 3 12 (fun x35=>⟨[V 4 (.osl 1 0 (List.length x27) 1),V 25 (iv (List.length x27:Int)),V 26 (iv x28),V 43 (bv x35)],[(0,.rows 1 (List.map cI a0)),(1,.rows 1 (List.map cI x27))],2⟩) ?_ ?_
   ·refine jSp 31 ?_ ?_
    ·refine jG 0 3 ⟨[V 4 (.osl 1 0 (List.length x27) 1),V 7 (iv x28),V 25 (iv (List.length x27:Int)),V 26 (iv x28),(31,.lit true),V 32 (.osl 1 0 (List.length x27) 1),V 34 (iv (w64 (x28 - 1)))],[(0,.rows 1 (List.map cI a0)),(1,.rows 1 (List.map cI x27))],2⟩ ?_
     refine jr_part (i:=3) (mo:=ixl x27 (w64 (x28 - 1))) rfl rfl rfl rfl (fun _ hc=>aop_ixo0 (sz:=1) (e:=3) (kk:=.i64) (id:=1) (by kernel_rfl) (by kernel_rfl) (by kernel_rfl) (by kernel_rfl) hc) (fun _=>rfl) ?_
     intro x36 h36
     refine jr_one (i:=4) (v:=iv x36) rfl rfl rfl rfl (aop_ldo (l:=x27) (c:=cI) (id:=1) (k:=(Int.toNat (w64 (x28 - 1)))) (sz:=1) (off:=0) (a:=x36) (by kernel_rfl) (by kernel_rfl) (ixl_lt h36).2.2 (by kernel_rfl)) rfl ?_
     refine jG 5 2 ⟨[V 4 (.osl 1 0 (List.length x27) 1),V 25 (iv (List.length x27:Int)),V 26 (iv x28),(31,.lit true),V 36 (iv x36),V 37 (.osl 1 0 (List.length x27) 1),V 38 (iv x28)],[(0,.rows 1 (List.map cI a0)),(1,.rows 1 (List.map cI x27))],2⟩ ?_
     refine jr_part (i:=7) (mo:=ixl x27 x28) rfl rfl rfl rfl (fun _ hc=>aop_ixo0 (sz:=1) (e:=3) (kk:=.i64) (id:=1) (by kernel_rfl) (by kernel_rfl) (by kernel_rfl) (by kernel_rfl) hc) (fun _=>rfl) ?_
     intro x37 h37
     refine jr_one (i:=8) (v:=iv x37) rfl rfl rfl rfl (aop_ldo (l:=x27) (c:=cI) (id:=1) (k:=(Int.toNat x28)) (sz:=1) (off:=0) (a:=x37) (by kernel_rfl) (by kernel_rfl) (ixl_lt h37).2.2 (by kernel_rfl)) rfl ?_
     refine jG 9 3 ⟨[V 4 (.osl 1 0 (List.length x27) 1),V 25 (iv (List.length x27:Int)),V 26 (iv x28),V 43 (bv (x36 == (w64 (0 - x37))))],[(0,.rows 1 (List.map cI a0)),(1,.rows 1 (List.map cI x27))],2⟩ ?_
     refine jr_nil rfl ?_
     exact jx_mid rfl (wkR [(0,some 0),(1,some 1)] (fix_of hF (k:=1) rfl) (pc (hL 0 (noid_map ni_I _)) (pc (hL 1 (noid_map ni_I _)) allp_nil)))
    refine jG 0 12 ⟨[V 4 (.osl 1 0 (List.length x27) 1),V 25 (iv (List.length x27:Int)),V 26 (iv x28),V 43 (bv false)],[(0,.rows 1 (List.map cI a0)),(1,.rows 1 (List.map cI x27))],2⟩ ?_
    refine jr_nil rfl ?_
    exact jx_mid rfl (wkR [(0,some 0),(1,some 1)] (fix_of hF (k:=1) rfl) (pc (hL 0 (noid_map ni_I _)) (pc (hL 1 (noid_map ni_I _)) allp_nil)))
   intro x35
   refine jN ?_
   refine jIf ?_ ?_
   ·refine jS ⟨[V 2 (nilS),V 3 (bv false)],[(0,.rows 1 (List.map cI a0))],2⟩ ?_
    refine jc_ret ?_
    refine jx_blkR ?_
    refine jx_seqR ?_
    exact jx_done rfl nofun (wkR [(0,some 0)] (fix_of hF (k:=1) rfl) (pc (hL 0 (noid_map ni_I _)) allp_nil))
   refine jc_skip ?_
   refine jx_blkN ?_
   refine jx_seqN ?_
   refine jT ⟨[V 4 (.osl 1 0 (List.length x27) 1),V 25 (iv (List.length x27:Int)),V 26 (iv (w64 (x28 + 1)))],[(0,.rows 1 (List.map cI a0)),(1,.rows 1 (List.map cI x27))],2⟩ ?_
   exact jx_next (wkR [(0,some 0),(1,some 1)] (fix_of hF (k:=1) rfl) (pc (hL 0 (noid_map ni_I _)) (pc (hL 1 (noid_map ni_I _)) allp_nil)))
  refine jc_exit ?_
  refine jx_seqE ?_
  exact jx_done rfl nofun (wkR [(0,some 0),(1,some 1)] (fix_of hF (k:=1) rfl) (pc (hL 0 (noid_map ni_I _)) (pc (hL 1 (noid_map ni_I _)) allp_nil)))
 rintro (_ | _)
 ·refine jx_blkR ?_
  refine jx_seqR ?_
  exact jx_retM (cnf_Clean_m0f1b_T a0 ([],false)) (.inr rfl) (wkR [(0,some 0),(1,none)] (fix_of hF (k:=1) rfl) (pc (hL 0 (noid_map ni_I _)) (pc hZ allp_nil)))
 refine jx_blkE ?_
 refine jx_seqN ?_
 refine jS ⟨[V 2 (.osl 1 0 (List.length x27) 1),V 3 (bv true)],[(0,.rows 1 (List.map cI a0)),(1,.rows 1 (List.map cI x27))],2⟩ ?_
 refine jc_ret ?_
 exact jx_retM (cnf_Clean_m0f1b_T a0 (x27,true)) (.inr rfl) (wkR [(0,some 0),(1,some 1)] (fix_of hF (k:=1) rfl) (pc (hL 0 (noid_map ni_I _)) (pc (hL 1 (noid_map ni_I _)) allp_nil))))
abbrev cnf_AtMost_r1:List LO:=[lo 3 (.box 3 (.tmp 1)) 0,lo 4 (.assign (.const (.slice none 0 0))) 22]
abbrev cnf_AtMost_r2:List LO:=[lo 5 (.alloc 22) 0]
abbrev cnf_AtMost_r3:List LO:=[lm 10 0 23,lo 11 (.call ⟨.value (.func 46),#[.tmp 10],#[23]⟩) 72]
abbrev cnf_AtMost_r4:List LO:=[lo 6 (.assign (.tmp 12)) 3]
abbrev cnf_AtMost_r5:List LO:=[lo 7 (.assign (.tmp 13)) 3]
abbrev cnf_AtMost_r6:List LO:=[lm 14 6 3,lm 15 7 3,lo 16 (.call ⟨.builtin .min,#[.tmp 14,.tmp 15],#[3,3]⟩) 3,lo 17 (.binOp .lss 3 (.tmp 16) (.const (.int .i64 1)) 3) 4,lm 18 17 4,lmg 19 6 3 18 false,lmg 20 7 3 18 false,lg 21 (.call ⟨.builtin .max,#[.tmp 19,.tmp 20],#[3,3]⟩) 3 18 false,lg 22 (.binOp .gtr 3 (.tmp 21) (.const (.int .i64 4096)) 3) 4 18 false,lo 23 (.pick (.tmp 18) (.const (.bool true)) (.tmp 22)) 4,lm 24 23 4,lmg 25 6 3 24 false,lmg 26 7 3 24 false,lg 27 (.binOp .eql 3 (.tmp 25) (.tmp 26) 3) 4 24 false,lo 28 (.pick (.tmp 24) (.const (.bool true)) (.tmp 27)) 4]
abbrev cnf_AtMost_r7:List LO:=[lm 30 6 3,lo 31 (.unOp .neg 3 (.tmp 30)) 3,lm 32 7 3,lo 33 (.unOp .neg 3 (.tmp 32)) 3,lo 34 (.buildSlice 23 2 #[(0,.tmp 31),(1,.tmp 33)]) 23,lo 35 (.call ⟨.value (.func 7),#[.tmp 34],#[23]⟩) 26,lm 29 35 26,lo 36 (.extract (.tmp 29) 0) 23,lo 37 (.extract (.tmp 29) 1) 4,lo 8 (.assign (.tmp 36)) 23,lo 9 (.assign (.tmp 37)) 4]
abbrev cnf_AtMost_r8:List LO:=[lo 38 (.load 22 (.tmp 5)) 22,lm 39 8 23,lo 40 (.load 3 (.tmp 3)) 3,lo 41 (.build 55 #[(0,.tmp 39),(1,.tmp 40)]) 55,lo 42 (.buildSlice 22 1 #[(0,.tmp 41)]) 22,lo 43 (.call ⟨.builtin .append,#[.tmp 38,.tmp 42],#[22,22]⟩) 22,ln (.store 22 (.tmp 5) (.tmp 43)) 0]
noncomputable def cnf_AtMost_y9_a0:Code:=codeSub (bodyOf Go.Proofs.Tryd.f17) [1,1,0,1,0,0]
theorem cnf_AtMost_y9_aw:lower E cnf_AtMost_y9_a0=some (.seq (.reg false cnf_AtMost_r4) (.reg false cnf_AtMost_r5)):=by kernel_rfl
noncomputable def cnf_AtMost_y9_b0:Code:=codeSub (bodyOf Go.Proofs.Tryd.f17) [1,1,0,1,0,1]
theorem cnf_AtMost_y9_bw:lower E cnf_AtMost_y9_b0=some (.block 1 (.seq (.seq (.reg false cnf_AtMost_r6) (.cond (.tmp 28) (.exit 1) .skip)) (.seq (.reg false cnf_AtMost_r7) (.reg false cnf_AtMost_r8)))):=by kernel_rfl
abbrev cnf_AtMost_r10:List LO:=[lo 44 (.load 22 (.tmp 5)) 22,lo 4 (.assign (.tmp 44)) 22]
noncomputable abbrev cnf_AtMost_c:LC:=.seq (.reg false cnf_AtMost_r1) (.seq (.reg false cnf_AtMost_r2) (.seq (.seq (.reg false cnf_AtMost_r3) (.block 0 (.rng (.tmp 11) [12,13] cnf_AtMost_y9_a0 cnf_AtMost_y9_b0))) (.seq (.reg false cnf_AtMost_r10) .ret)))
theorem cnf_AtMost_k:FnOk E 17 45 [.tmp 4] cnf_AtMost_c:=⟨⟨Go.Proofs.Tryd.f17,by kernel_rfl,by kernel_rfl,by kernel_rfl,by kernel_rfl,by kernel_rfl⟩,rfl,rfl⟩
noncomputable abbrev cnf_AtMost_lp11 (q:LoopState) (p:Option Code):AObj:=.loop { state:=q,pending:=p,tmps:=tl 45 [V 3 (pt 1 1),V 5 (pt 2 1),V 11 (.fn 76 [pt 3 1])] none,params:=[12,13],assign:=cnf_AtMost_y9_a0,body:=cnf_AtMost_y9_b0 }
noncomputable def cnf_AtMost_l1 (a0:List Int) (a1:Int) (x58:Int):(Int × List S_api_Clause)→Option (Step (Int × List S_api_Clause) (List S_api_Clause)):=fun (x86,x87)=>(if (decide (x86 < (List.length a0:Int)))=true then Option.bind (ixl a0 x58) (fun x97=>Option.bind (ixl a0 x86) (fun x98=>Option.bind ((if (((decide ((if x98 < x97 then x98 else x97) < 1)) || (decide ((if x98 > x97 then x98 else x97) > 4096))) || (x97 == x98))=true then some x87 else Option.bind (cnf_Clean_m0f1b [(w64 (0 - x97)),(w64 (0 - x98))]) (fun (x103,x104)=>Option.bind (app 32 x87 [(S_api_Clause.mk x103 a1)]) (fun x105=>some x105))):Option (List S_api_Clause)) (fun x102=>some (Step.next ((w64 (x86 + 1)),x102))))) else some (Step.done x87))
noncomputable def cnf_AtMost_l2 (a0:List Int) (a1:Int):(Int × List S_api_Clause)→Option (Step (Int × List S_api_Clause) (List S_api_Clause)):=fun (x58,x59)=>(if (decide (x58 < (List.length a0:Int)))=true then Option.bind (loopC (cnf_AtMost_l1 a0 a1 x58) ((w64 (x58 + 1)),x59)) (fun x96=>some (Step.next ((w64 (x58 + 1)),x96))) else some (Step.done x59))
abbrev cnf_AtMost_T (a0:List Int) (a1:Int) (r:List S_api_Clause):CS:=⟨[V 4 (.osl 1 0 (List.length r) 2)],[(0,.rows 1 (List.map cI a0)),(1,.rows 2 (List.map c_S_api_Clause r))],2⟩
noncomputable def cnf_AtMost (a0:List Int) (a1:Int):Option (List S_api_Clause):=Option.bind (cnf_twos a0) (fun _=>Option.bind (loopC (cnf_AtMost_l2 a0 a1) (0,[])) (fun x79=>some x79))
theorem cnf_AtMost_ok (a0:List Int) (a1:Int):CtM E 17 [.osl 0 0 (List.length a0) 1,iv a1] [(0,.rows 1 (List.map cI a0))] 1 (cnf_AtMost a0 a1) (fun r:List S_api_Clause=>.osl 1 0 (List.length r) 2) (fun r:List S_api_Clause=>[(0,.rows 1 (List.map cI a0)),(1,.rows 2 (List.map c_S_api_Clause r))]) 2:=ctm_intro (N:=45) (L:=cnf_AtMost_c) cnf_AtMost_k rfl (Nat.le_of_ble_eq_true rfl) (fun F hF=>by
 unfold cnf_AtMost
 refine jS ⟨[V 0 (.osl 0 0 (List.length a0) 1),V 3 (pt 1 1)],[(0,.rows 1 (List.map cI a0)),W 1 1 [iv a1]],2⟩ ?_
 refine jS ⟨[V 0 (.osl 0 0 (List.length a0) 1),V 3 (pt 1 1),V 5 (pt 2 1)],[(0,.rows 1 (List.map cI a0)),W 1 1 [iv a1],W 2 1 [nilS]],3⟩ ?_
 refine jc_seq ?_
 refine jR ?_
 refine jG 0 1 ⟨[V 3 (pt 1 1),V 5 (pt 2 1),V 10 (.osl 0 0 (List.length a0) 1)],[(0,.rows 1 (List.map cI a0)),W 1 1 [iv a1],W 2 1 [nilS]],3⟩ ?_
 refine jr_callM 1 [(0,some 0)] [(0,some 0),(3,some 1)] (fun r:Unit=>[(0,.rows 1 (List.map cI a0)),W 1 1 [iv a1],W 2 1 [nilS],W 3 1 [.osl 0 0 (List.length a0) 1]]) (fun r:Unit=>.fn 76 [pt 3 1]) 4 (cnf_twos_ok a0) (pc (hL 0 (noid_map ni_I _)) allp_nil) (fun r=>(pc (.inr (hL 0 (noid_map ni_I _))) (pc (.inl ⟨rfl,rfl⟩) (pc (.inl ⟨rfl,rfl⟩) (pc (.inr (hC 1)) allp_nil))))) ?_
 rintro⟨⟩ hm27
 refine jN ?_
 refine jc_block ?_
 refine jc_keep [3,5,11] [0,1,2,3] (st1:=⟨[V 3 (pt 1 1),V 5 (pt 2 1),V 11 (.fn 76 [pt 3 1])],[(0,.rows 1 (List.map cI a0)),W 1 1 [iv a1],W 2 1 [nilS],W 3 1 [.osl 0 0 (List.length a0) 1]],4⟩) (by kernel_rfl) ?_
 refine jc_rng (g:=76) (caps:=[pt 3 1]) (by kernel_rfl) cnf_twos_1_it_k (Nat.le_of_ble_eq_true rfl) ?_
 intro F11 hc11
 refine jS ⟨[V 0 (.yld 4),V 1 (pt 3 1),V 6 (iv (List.length a0:Int)),V 7 (iv 0)],[(0,.rows 1 (List.map cI a0)),W 1 1 [iv a1],W 2 1 [nilS],W 3 1 [.osl 0 0 (List.length a0) 1],(4,cnf_AtMost_lp11 .ready none)],5⟩ ?_
 refine jc_block ?_
 refine jc_bind (fun x79=>⟨[],[(0,.rows 1 (List.map cI a0)),W 1 1 [iv a1],W 2 1 [.osl 5 0 (List.length x79) 2],W 3 1 [.osl 0 0 (List.length a0) 1],(4,cnf_AtMost_lp11 .ready none),(5,.rows 2 (List.map c_S_api_Clause x79))],6⟩) (fun x79=>(.exit 0)) (jc_loop (fun (x58,x59)=>⟨[V 0 (.yld 4),V 1 (pt 3 1),V 6 (iv (List.length a0:Int)),V 7 (iv x58)],[(0,.rows 1 (List.map cI a0)),W 1 1 [iv a1],W 2 1 [.osl 5 0 (List.length x59) 2],W 3 1 [.osl 0 0 (List.length a0) 1],(4,cnf_AtMost_lp11 .ready none),(5,.rows 2 (List.map c_S_api_Clause x59))],6⟩) (wkR [(0,some 0),(1,some 1),(2,some 2),(3,some 3),(4,some 4),(5,none)] (fix_of hc11.2.2 (k:=5) rfl) (pc (hL 0 (noid_map ni_I _)) (pc (hC 1) (pc (hC 2) (pc (hC 3) (pc (.inr (.inr (.inl ⟨4,_,_,rfl,rfl,rfl,by kernel_rfl⟩))) (pc hZ allp_nil))))))) ?_) ?_
 ·rintro⟨x58,x59⟩
  unfold cnf_AtMost_l2
  refine jS ⟨[V 0 (.yld 4),V 1 (pt 3 1),V 6 (iv (List.length a0:Int)),V 7 (iv x58),V 8 (bv (decide (x58 < (List.length a0:Int))))],[(0,.rows 1 (List.map cI a0)),W 1 1 [iv a1],W 2 1 [.osl 5 0 (List.length x59) 2],W 3 1 [.osl 0 0 (List.length a0) 1],(4,cnf_AtMost_lp11 .ready none),(5,.rows 2 (List.map c_S_api_Clause x59))],6⟩ ?_
  refine jc_seq ?_
  refine jIf ?_ ?_
  ·refine jc_skip ?_
   refine jx_seqN ?_
   refine jc_seq ?_
   refine jc_block ?_
   refine jS ⟨[V 0 (.yld 4),V 1 (pt 3 1),V 3 (iv x58),V 6 (iv (List.length a0:Int)),V 7 (iv x58)],[(0,.rows 1 (List.map cI a0)),W 1 1 [iv a1],W 2 1 [.osl 5 0 (List.length x59) 2],W 3 1 [.osl 0 0 (List.length a0) 1],(4,cnf_AtMost_lp11 .ready none),(5,.rows 2 (List.map c_S_api_Clause x59))],6⟩ ?_
   refine jS ⟨[V 0 (.yld 4),V 1 (pt 3 1),V 3 (iv x58),V 4 (iv (w64 (x58 + 1))),V 6 (iv (List.length a0:Int)),V 7 (iv x58)],[(0,.rows 1 (List.map cI a0)),W 1 1 [iv a1],W 2 1 [.osl 5 0 (List.length x59) 2],W 3 1 [.osl 0 0 (List.length a0) 1],(4,cnf_AtMost_lp11 .ready none),(5,.rows 2 (List.map c_S_api_Clause x59))],6⟩ ?_
   refine jc_block ?_
   refine jc_bind (fun x96=>⟨[V 0 (.yld 4),V 1 (pt 3 1),V 6 (iv (List.length a0:Int)),V 7 (iv x58)],[(0,.rows 1 (List.map cI a0)),W 1 1 [iv a1],W 2 1 [.osl 5 0 (List.length x96) 2],W 3 1 [.osl 0 0 (List.length a0) 1],(4,cnf_AtMost_lp11 .ready none),(5,.rows 2 (List.map c_S_api_Clause x96))],6⟩) (fun x96=>(.exit 2)) (jc_loop (fun (x86,x87)=>⟨[V 0 (.yld 4),V 1 (pt 3 1),V 3 (iv x58),V 4 (iv x86),V 6 (iv (List.length a0:Int)),V 7 (iv x58)],[(0,.rows 1 (List.map cI a0)),W 1 1 [iv a1],W 2 1 [.osl 5 0 (List.length x87) 2],W 3 1 [.osl 0 0 (List.length a0) 1],(4,cnf_AtMost_lp11 .ready none),(5,.rows 2 (List.map c_S_api_Clause x87))],6⟩) (wkR [(0,some 0),(1,some 1),(2,some 2),(3,some 3),(4,some 4),(5,some 5)] (fix_of hc11.2.2 (k:=5) rfl) (pc (hL 0 (noid_map ni_I _)) (pc (hC 1) (pc (hC 2) (pc (hC 3) (pc (.inr (.inr (.inl ⟨4,_,_,rfl,rfl,rfl,by kernel_rfl⟩))) (pc (hL 5 (noid_map ni_S_api_Clause _)) allp_nil))))))) ?_) ?_
   ·rintro⟨x86,x87⟩
    unfold cnf_AtMost_l1
    refine jc_seq ?_
    refine jS ⟨[V 0 (.yld 4),V 1 (pt 3 1),V 3 (iv x58),V 4 (iv x86),V 6 (iv (List.length a0:Int)),V 7 (iv x58),V 15 (bv (decide (x86 < (List.length a0:Int))))],[(0,.rows 1 (List.map cI a0)),W 1 1 [iv a1],W 2 1 [.osl 5 0 (List.length x87) 2],W 3 1 [.osl 0 0 (List.length a0) 1],(4,cnf_AtMost_lp11 .ready none),(5,.rows 2 (List.map c_S_api_Clause x87))],6⟩ ?_
    refine jIf ?_ ?_
    ·refine jc_skip ?_
     refine jx_seqN ?_
     refine jc_seq ?_
     refine jc_block ?_
     refine jR ?_
     refine jG 0 3 ⟨[V 0 (.yld 4),V 1 (pt 3 1),V 3 (iv x58),V 4 (iv x86),V 6 (iv (List.length a0:Int)),V 7 (iv x58),V 18 (.yld 4),V 19 (.osl 0 0 (List.length a0) 1),V 20 (iv x58)],[(0,.rows 1 (List.map cI a0)),W 1 1 [iv a1],W 2 1 [.osl 5 0 (List.length x87) 2],W 3 1 [.osl 0 0 (List.length a0) 1],(4,cnf_AtMost_lp11 .ready none),(5,.rows 2 (List.map c_S_api_Clause x87))],6⟩ ?_
     refine jr_part (i:=3) (mo:=ixl a0 x58) rfl rfl rfl rfl (fun _ hc=>aop_ixo0 (sz:=1) (e:=3) (kk:=.i64) (id:=0) (by kernel_rfl) (by kernel_rfl) (by kernel_rfl) (by kernel_rfl) hc) (fun _=>rfl) ?_
     intro x97 h97
     refine jr_one (i:=4) (v:=iv x97) rfl rfl rfl rfl (aop_ldo (l:=a0) (c:=cI) (id:=0) (k:=(Int.toNat x58)) (sz:=1) (off:=0) (a:=x97) (by kernel_rfl) (by kernel_rfl) (ixl_lt h97).2.2 (by kernel_rfl)) rfl ?_
     refine jG 5 2 ⟨[V 0 (.yld 4),V 1 (pt 3 1),V 3 (iv x58),V 4 (iv x86),V 6 (iv (List.length a0:Int)),V 7 (iv x58),V 18 (.yld 4),V 22 (iv x97),V 23 (.osl 0 0 (List.length a0) 1),V 24 (iv x86)],[(0,.rows 1 (List.map cI a0)),W 1 1 [iv a1],W 2 1 [.osl 5 0 (List.length x87) 2],W 3 1 [.osl 0 0 (List.length a0) 1],(4,cnf_AtMost_lp11 .ready none),(5,.rows 2 (List.map c_S_api_Clause x87))],6⟩ ?_
     refine jr_part (i:=7) (mo:=ixl a0 x86) rfl rfl rfl rfl (fun _ hc=>aop_ixo0 (sz:=1) (e:=3) (kk:=.i64) (id:=0) (by kernel_rfl) (by kernel_rfl) (by kernel_rfl) (by kernel_rfl) hc) (fun _=>rfl) ?_
     intro x98 h98
     refine jr_one (i:=8) (v:=iv x98) rfl rfl rfl rfl (aop_ldo (l:=a0) (c:=cI) (id:=0) (k:=(Int.toNat x86)) (sz:=1) (off:=0) (a:=x98) (by kernel_rfl) (by kernel_rfl) (ixl_lt h98).2.2 (by kernel_rfl)) rfl ?_
     refine jr_yield (i:=9) (l:=4) (Nc:=45) (Kc:=[V 3 (pt 1 1),V 5 (pt 2 1),V 11 (.fn 76 [pt 3 1])]) (ps:=[12,13]) (vs:=[iv x97,iv x98]) (fun x102=>⟨[],[(0,.rows 1 (List.map cI a0)),W 1 1 [iv a1],W 2 1 [.osl 6 0 (List.length x102) 2],W 3 1 [.osl 0 0 (List.length a0) 1],(4,cnf_AtMost_lp11 .busy none),(6,.rows 2 (List.map c_S_api_Clause x102))],7⟩) (fun x102=>.normal) [0,1,3,4,6,7,27] [0,1,2,3,4,6] (after:=(fun x102=>⟨[V 0 (.yld 4),V 1 (pt 3 1),V 3 (iv x58),V 4 (iv x86),V 6 (iv (List.length a0:Int)),V 7 (iv x58),V 27 (bv true)],[(0,.rows 1 (List.map cI a0)),W 1 1 [iv a1],W 2 1 [.osl 6 0 (List.length x102) 2],W 3 1 [.osl 0 0 (List.length a0) 1],(4,cnf_AtMost_lp11 .ready none),(6,.rows 2 (List.map c_S_api_Clause x102))],7⟩)) rfl rfl cnf_AtMost_y9_aw cnf_AtMost_y9_bw (by kernel_rfl) (by kernel_rfl) (yctx_of hc11 rfl) rfl (by kernel_rfl) rfl ?_ (by intro x102 <;> exact⟨none,by kernel_rfl⟩) (by intro x102 <;> kernel_rfl) ?_
     ·intro F24 hy24
      refine jS ⟨[V 3 (pt 1 1),V 5 (pt 2 1),V 6 (iv x97),V 13 (iv x98)],[(0,.rows 1 (List.map cI a0)),W 1 1 [iv a1],W 2 1 [.osl 5 0 (List.length x87) 2],W 3 1 [.osl 0 0 (List.length a0) 1],(4,cnf_AtMost_lp11 .ready none),(5,.rows 2 (List.map c_S_api_Clause x87))],6⟩ ?_
      refine jT ⟨[V 3 (pt 1 1),V 5 (pt 2 1),V 6 (iv x97),V 7 (iv x98)],[(0,.rows 1 (List.map cI a0)),W 1 1 [iv a1],W 2 1 [.osl 5 0 (List.length x87) 2],W 3 1 [.osl 0 0 (List.length a0) 1],(4,cnf_AtMost_lp11 .ready none),(5,.rows 2 (List.map c_S_api_Clause x87))],6⟩ ?_
      refine jx_asg hy24 rfl ?_
      refine jc_block ?_
      refine jc_seq ?_
      refine jS ⟨[V 3 (pt 1 1),V 5 (pt 2 1),V 6 (iv x97),V 7 (iv x98),V 28 (bv (((decide ((if x98 < x97 then x98 else x97) < 1)) || (decide ((if x98 > x97 then x98 else x97) > 4096))) || (x97 == x98)))],[(0,.rows 1 (List.map cI a0)),W 1 1 [iv a1],W 2 1 [.osl 5 0 (List.length x87) 2],W 3 1 [.osl 0 0 (List.length a0) 1],(4,cnf_AtMost_lp11 .busy none),(5,.rows 2 (List.map c_S_api_Clause x87))],6⟩ ?_
      refine jIf ?_ ?_
      ·refine jc_exit ?_
       refine jx_seqE ?_
       refine jx_blkE ?_
       exact jx_mid rfl (wkR [(0,some 0),(1,some 1),(2,some 2),(3,some 3),(4,some 4),(5,some 5),(6,some 5)] (fix_of hy24.2 (k:=6) rfl) (pc (hL 0 (noid_map ni_I _)) (pc (hC 1) (pc (hC 2) (pc (hC 3) (pc (.inr (.inr (.inl ⟨4,_,_,rfl,rfl,rfl,by kernel_rfl⟩))) (pc (hL 5 (noid_map ni_S_api_Clause _)) allp_nil)))))))
      refine jc_skip ?_
      refine jx_seqN ?_
      refine jR ?_
      refine jG 0 5 ⟨[V 3 (pt 1 1),V 5 (pt 2 1),V 34 (.osl 6 0 (List.length [(w64 (0 - x97)),(w64 (0 - x98))]) 1)],[(0,.rows 1 (List.map cI a0)),W 1 1 [iv a1],W 2 1 [.osl 5 0 (List.length x87) 2],W 3 1 [.osl 0 0 (List.length a0) 1],(4,cnf_AtMost_lp11 .busy none),(5,.rows 2 (List.map c_S_api_Clause x87)),(6,.rows 1 (List.map cI [(w64 (0 - x97)),(w64 (0 - x98))]))],7⟩ ?_
      refine jr_callM 5 [(0,some 6)] [(6,some 0),(7,some 1)] (fun r:List Int × Bool=>[(0,.rows 1 (List.map cI a0)),W 1 1 [iv a1],W 2 1 [.osl 5 0 (List.length x87) 2],W 3 1 [.osl 0 0 (List.length a0) 1],(4,cnf_AtMost_lp11 .busy none),(5,.rows 2 (List.map c_S_api_Clause x87)),(6,.rows 1 (List.map cI [(w64 (0 - x97)),(w64 (0 - x98))])),(7,.rows 1 (List.map cI r.1))]) (fun r:List Int × Bool=>.tup [.osl 7 0 (List.length r.1) 1,bv r.2]) 8 (cnf_Clean_m0f1b_ok [(w64 (0 - x97)),(w64 (0 - x98))]) (pc (hL 6 (noid_map ni_I _)) allp_nil) (fun r=>(pc (.inl ⟨rfl,rfl⟩) (pc (.inl ⟨rfl,rfl⟩) (pc (.inl ⟨rfl,rfl⟩) (pc (.inl ⟨rfl,rfl⟩) (pc (.inl ⟨rfl,rfl⟩) (pc (.inl ⟨rfl,rfl⟩) (pc (.inr (hL 0 (noid_map ni_I _))) (pc (.inr (hL 1 (noid_map ni_I _))) allp_nil))))))))) ?_
      rintro⟨x103,x104⟩ hm26
      refine jG 6 5 ⟨[V 3 (pt 1 1),V 5 (pt 2 1),V 8 (.osl 7 0 (List.length x103) 1)],[(0,.rows 1 (List.map cI a0)),W 1 1 [iv a1],W 2 1 [.osl 5 0 (List.length x87) 2],W 3 1 [.osl 0 0 (List.length a0) 1],(4,cnf_AtMost_lp11 .busy none),(5,.rows 2 (List.map c_S_api_Clause x87)),(7,.rows 1 (List.map cI x103))],8⟩ ?_
      refine jN ?_
      refine jc_reg ?_
      refine jG 0 5 ⟨[V 5 (pt 2 1),V 38 (.osl 5 0 (List.length x87) 2),V 42 (.osl 8 0 1 2)],[(0,.rows 1 (List.map cI a0)),W 1 1 [iv a1],W 2 1 [.osl 5 0 (List.length x87) 2],W 3 1 [.osl 0 0 (List.length a0) 1],(4,cnf_AtMost_lp11 .busy none),(5,.rows 2 (List.map c_S_api_Clause x87)),(7,.rows 1 (List.map cI x103)),W 8 2 [.osl 7 0 (List.length x103) 1,iv a1]],9⟩ ?_
      refine jr_part (i:=5) (mo:=app 32 x87 [(S_api_Clause.mk x103 a1)]) rfl rfl rfl rfl (fun _ hc=>aop_appZ (u:=.osl 5 0 (List.length x87) 2) (idy:=8) (off:=0) (len:=1) (sz:=2) (rows:=[[.osl 7 0 (List.length x103) 1,iv a1]]) (e:=55) (q:=55) (rs:=List.map c_S_api_Clause [(S_api_Clause.mk x103 a1)]) (ids:=[7]) (by kernel_rfl) (by kernel_rfl) (by kernel_rfl) (by kernel_rfl) (by kernel_rfl) (by kernel_rfl) (by kernel_rfl) (frz_one (frzL_own (fun _=>rfl) (by kernel_rfl) (frzL_pl rfl frzL_nil))) (appendOf_own (c:=c_S_api_Clause) (sz:=2) (b:=32) (id:=5) (m:=[(S_api_Clause.mk x103 a1)]) (by kernel_rfl) (by kernel_rfl) rows_fsl (List.cons_ne_nil _ _) hc)) (fun _=>rfl) ?_
      intro x105 h105
      refine jG 6 1 ⟨[],[(0,.rows 1 (List.map cI a0)),W 1 1 [iv a1],W 2 1 [.osl 9 0 (List.length x105) 2],W 3 1 [.osl 0 0 (List.length a0) 1],(4,cnf_AtMost_lp11 .busy none),(9,.rows 2 (List.map c_S_api_Clause x105))],10⟩ ?_
      refine jr_nil rfl ?_
      refine jx_blkN ?_
      exact jx_mid rfl (wkR [(0,some 0),(1,some 1),(2,some 2),(3,some 3),(4,some 4),(5,some 5),(6,some 9)] (fix_of hy24.2 (k:=6) rfl) (pc (hL 0 (noid_map ni_I _)) (pc (hC 1) (pc (hC 2) (pc (hC 3) (pc (.inr (.inr (.inl ⟨4,_,_,rfl,rfl,rfl,by kernel_rfl⟩))) (pc (hL 9 (noid_map ni_S_api_Clause _)) allp_nil)))))))
     intro x102
     refine jG 10 1 ⟨[V 0 (.yld 4),V 1 (pt 3 1),V 3 (iv x58),V 4 (iv x86),V 6 (iv (List.length a0:Int)),V 7 (iv x58),V 28 (bv false)],[(0,.rows 1 (List.map cI a0)),W 1 1 [iv a1],W 2 1 [.osl 6 0 (List.length x102) 2],W 3 1 [.osl 0 0 (List.length a0) 1],(4,cnf_AtMost_lp11 .ready none),(6,.rows 2 (List.map c_S_api_Clause x102))],7⟩ ?_
     refine jN ?_
     refine jc_condK (c:=false) (by kernel_rfl) ?_
     refine jc_skip ?_
     refine jx_blkN ?_
     refine jx_seqN ?_
     refine jT ⟨[V 0 (.yld 4),V 1 (pt 3 1),V 3 (iv x58),V 4 (iv (w64 (x86 + 1))),V 6 (iv (List.length a0:Int)),V 7 (iv x58)],[(0,.rows 1 (List.map cI a0)),W 1 1 [iv a1],W 2 1 [.osl 6 0 (List.length x102) 2],W 3 1 [.osl 0 0 (List.length a0) 1],(4,cnf_AtMost_lp11 .ready none),(6,.rows 2 (List.map c_S_api_Clause x102))],7⟩ ?_
     exact jx_next (wkR [(0,some 0),(1,some 1),(2,some 2),(3,some 3),(4,some 4),(5,some 6)] (fix_of hc11.2.2 (k:=5) rfl) (pc (hL 0 (noid_map ni_I _)) (pc (hC 1) (pc (hC 2) (pc (hC 3) (pc (.inr (.inr (.inl ⟨4,_,_,rfl,rfl,rfl,by kernel_rfl⟩))) (pc (hL 6 (noid_map ni_S_api_Clause _)) allp_nil)))))))
    refine jc_exit ?_
    refine jx_seqE ?_
    exact jx_done rfl nofun (wkR [(0,some 0),(1,some 1),(2,some 2),(3,some 3),(4,some 4),(5,some 5)] (fix_of hc11.2.2 (k:=5) rfl) (pc (hL 0 (noid_map ni_I _)) (pc (hC 1) (pc (hC 2) (pc (hC 3) (pc (.inr (.inr (.inl ⟨4,_,_,rfl,rfl,rfl,by kernel_rfl⟩))) (pc (hL 5 (noid_map ni_S_api_Clause _)) allp_nil)))))))
   intro x96
   refine jx_blkE ?_
   refine jx_blkN ?_
   refine jx_seqN ?_
   refine jT ⟨[V 0 (.yld 4),V 1 (pt 3 1),V 6 (iv (List.length a0:Int)),V 7 (iv (w64 (x58 + 1)))],[(0,.rows 1 (List.map cI a0)),W 1 1 [iv a1],W 2 1 [.osl 5 0 (List.length x96) 2],W 3 1 [.osl 0 0 (List.length a0) 1],(4,cnf_AtMost_lp11 .ready none),(5,.rows 2 (List.map c_S_api_Clause x96))],6⟩ ?_
   exact jx_next (wkR [(0,some 0),(1,some 1),(2,some 2),(3,some 3),(4,some 4),(5,some 5)] (fix_of hc11.2.2 (k:=5) rfl) (pc (hL 0 (noid_map ni_I _)) (pc (hC 1) (pc (hC 2) (pc (hC 3) (pc (.inr (.inr (.inl ⟨4,_,_,rfl,rfl,rfl,by kernel_rfl⟩))) (pc (hL 5 (noid_map ni_S_api_Clause _)) allp_nil)))))))
  refine jc_exit ?_
  refine jx_seqE ?_
  exact jx_done rfl nofun (wkR [(0,some 0),(1,some 1),(2,some 2),(3,some 3),(4,some 4),(5,some 5)] (fix_of hc11.2.2 (k:=5) rfl) (pc (hL 0 (noid_map ni_I _)) (pc (hC 1) (pc (hC 2) (pc (hC 3) (pc (.inr (.inr (.inl ⟨4,_,_,rfl,rfl,rfl,by kernel_rfl⟩))) (pc (hL 5 (noid_map ni_S_api_Clause _)) allp_nil)))))))
 intro x79
 refine jx_blkE ?_
 refine jx_rng hc11 (.inl rfl) rfl nofun rfl ?_
 refine jx_blkN ?_
 refine jx_seqN ?_
 refine jS ⟨[V 4 (.osl 5 0 (List.length x79) 2)],[(0,.rows 1 (List.map cI a0)),(5,.rows 2 (List.map c_S_api_Clause x79))],6⟩ ?_
 refine jc_ret ?_
 exact jx_retM (cnf_AtMost_T a0 a1 x79) (.inr rfl) (wkR [(0,some 0),(1,some 5)] (fix_of hF (k:=1) rfl) (pc (hL 0 (noid_map ni_I _)) (pc (hL 5 (noid_map ni_S_api_Clause _)) allp_nil))))
abbrev law24_CnfAtMost_r1:List LO:=[lo 4 (.assign (.const (.bool false))) 4]
abbrev law24_CnfAtMost_r2:List LO:=[lm 10 0 3,lo 11 (.convert 3 34 (.tmp 10)) 34,lo 12 (.binOp .rem 34 (.tmp 11) (.const (.int .u64 9)) 34) 34,lo 13 (.convert 34 3 (.tmp 12)) 3,lo 0 (.assign (.tmp 13)) 3]
abbrev law24_CnfAtMost_r3:List LO:=[lo 5 (.assign (.const (.slice none 0 0))) 23,lo 6 (.assign (.const (.slice none 0 0))) 23]
abbrev law24_CnfAtMost_r4:List LO:=[lo 7 (.assign (.const (.int .i64 0))) 3]
abbrev law24_CnfAtMost_r5:List LO:=[lo 8 (.assign (.const (.int .i64 1))) 3]
abbrev law24_CnfAtMost_r6:List LO:=[lm 14 8 3,lm 15 0 3,lo 16 (.binOp .leq 3 (.tmp 14) (.tmp 15) 3) 4]
abbrev law24_CnfAtMost_r7:List LO:=[lm 19 5 23,lm 20 8 3,lo 21 (.buildSlice 23 1 #[(0,.tmp 20)]) 23,lo 22 (.call ⟨.builtin .append,#[.tmp 19,.tmp 21],#[23,23]⟩) 23,lo 5 (.assign (.tmp 22)) 23]
abbrev law24_CnfAtMost_r8:List LO:=[lm 23 8 3,lo 24 (.unOp .neg 3 (.tmp 23)) 3,lo 9 (.assign (.tmp 24)) 3]
abbrev law24_CnfAtMost_r9:List LO:=[lm 25 1 33,lm 26 8 3,lo 27 (.binOp .shr 33 (.tmp 25) (.tmp 26) 3) 33,lo 28 (.binOp .and 33 (.tmp 27) (.const (.int .u32 1)) 33) 33,lo 29 (.binOp .eql 33 (.tmp 28) (.const (.int .u32 1)) 33) 4]
abbrev law24_CnfAtMost_r10:List LO:=[lm 30 8 3,lo 9 (.assign (.tmp 30)) 3]
abbrev law24_CnfAtMost_r11:List LO:=[lm 31 7 3,lo 32 (.binOp .add 3 (.tmp 31) (.const (.int .i64 1)) 3) 3,lo 7 (.assign (.tmp 32)) 3]
abbrev law24_CnfAtMost_r12:List LO:=[lm 33 6 23,lm 34 9 3,lo 35 (.buildSlice 23 1 #[(0,.tmp 34)]) 23,lo 36 (.call ⟨.builtin .append,#[.tmp 33,.tmp 35],#[23,23]⟩) 23,lo 6 (.assign (.tmp 36)) 23]
abbrev law24_CnfAtMost_r13:List LO:=[lm 17 8 3,lo 18 (.binOp .add 3 (.tmp 17) (.const (.int .i64 1)) 3) 3,lo 8 (.assign (.tmp 18)) 3]
abbrev law24_CnfAtMost_r14:List LO:=[lm 37 0 3,lm 38 5 23,lo 39 (.call ⟨.value (.func 17),#[.tmp 38,.const (.int .i64 3)],#[23,3]⟩) 22,lo 40 (.build 25 #[(0,.tmp 37),(1,.tmp 39)]) 25,lm 41 6 23,lo 42 (.call ⟨.value (.func 14),#[.tmp 40,.tmp 41],#[25,23]⟩) 4,lm 43 7 3,lo 44 (.binOp .leq 3 (.tmp 43) (.const (.int .i64 1)) 3) 4,lo 45 (.binOp .eql 4 (.tmp 42) (.tmp 44) 4) 4,lm 46 45 4,lg 47 (.call ⟨.value (.func 16),#[],#[]⟩) 4 46 true,lo 48 (.pick (.tmp 46) (.tmp 47) (.const (.bool false))) 4,lo 4 (.assign (.tmp 48)) 4]
abbrev law24_CnfAtMost_c:LC:=.seq (.reg false law24_CnfAtMost_r1) (.seq (.reg false law24_CnfAtMost_r2) (.seq (.reg false law24_CnfAtMost_r3) (.seq (.reg false law24_CnfAtMost_r4) (.seq (.seq (.reg false law24_CnfAtMost_r5) (.block 0 (.loop (.seq (.seq (.reg false law24_CnfAtMost_r6) (.cond (.tmp 16) .skip (.exit 0))) (.seq (.block 1 (.seq (.reg false law24_CnfAtMost_r7) (.seq (.reg false law24_CnfAtMost_r8) (.seq (.seq (.reg false law24_CnfAtMost_r9) (.cond (.tmp 29) (.seq (.reg false law24_CnfAtMost_r10) (.reg false law24_CnfAtMost_r11)) .skip)) (.reg false law24_CnfAtMost_r12))))) (.reg false law24_CnfAtMost_r13)))))) (.seq (.reg false law24_CnfAtMost_r14) .ret)))))
theorem law24_CnfAtMost_k:FnOk E 4 49 [.tmp 4] law24_CnfAtMost_c:=⟨⟨Go.Proofs.Tryd.f4,by kernel_rfl,by kernel_rfl,by kernel_rfl,by kernel_rfl,by kernel_rfl⟩,rfl,rfl⟩
noncomputable def law24_CnfAtMost_l1 (a0:Int) (a1:Int):(List Int × List Int × Int × Int)→Option (Step (List Int × List Int × Int × Int) (List Int × List Int × Int)):=fun (x7,x8,x9,x10)=>(if (decide (x10≤(w64 ((Int.tmod (IntKind.wrap .u64 (a0)) 9)))))=true then Option.bind (app 8 x7 [x10]) (fun x24=>Option.bind (Option.bind (shrI .u32 a1 x10) (fun x29=>Option.bind (andI .u32 x29 1) (fun x30=>(if (x30 == 1)=true then some ((w64 (x9 + 1)),x10) else some (x9,(w64 (0 - x10)))))):Option (Int × Int)) (fun (x27,x28)=>Option.bind (app 8 x8 [x28]) (fun x31=>some (Step.next (x24,x31,x27,(w64 (x10 + 1))))))) else some (Step.done (x7,x8,x9)))
noncomputable def law24_CnfAtMost (a0:Int) (a1:Int):Option (Bool):=Option.bind (loopC (law24_CnfAtMost_l1 a0 a1) ([],[],0,1)) (fun (x21,x22,x23)=>Option.bind (cnf_AtMost x21 3) (fun x32=>Option.bind (cnf_Holds (S_api_Formula.mk (w64 ((Int.tmod (IntKind.wrap .u64 (a0)) 9))) x32 []) x22) (fun x33=>Option.bind (if (x33 == (decide (x23≤1)))=true then Option.bind (law24_awake) (fun x36=>some x36) else some false:Option (Bool)) (fun x35=>some x35))))
theorem law24_CnfAtMost_ok (a0:Int) (a1:Int):Ct E 4 [iv a0,.s (.int .u32 a1)] (law24_CnfAtMost a0 a1) (fun r:Bool=>bv r):=ct_intro (N:=49) (L:=law24_CnfAtMost_c) law24_CnfAtMost_k rfl (Nat.le_of_ble_eq_true rfl) (by kernel_rfl) (by
 unfold law24_CnfAtMost
 refine jS ⟨[V 0 (iv a0),V 1 (.s (.int .u32 a1))],[],0⟩ ?_
 refine jS ⟨[V 0 (iv (w64 ((Int.tmod (IntKind.wrap .u64 (a0)) 9)))),V 1 (.s (.int .u32 a1))],[],2⟩ ?_
 refine jS ⟨[V 0 (iv (w64 ((Int.tmod (IntKind.wrap .u64 (a0)) 9)))),V 1 (.s (.int .u32 a1)),V 5 (nilS),V 6 (nilS)],[],2⟩ ?_
 refine jS ⟨[V 0 (iv (w64 ((Int.tmod (IntKind.wrap .u64 (a0)) 9)))),V 1 (.s (.int .u32 a1)),V 5 (nilS),V 6 (nilS),V 7 (iv 0)],[],2⟩ ?_
 refine jc_seq ?_
 refine jS ⟨[V 0 (iv (w64 ((Int.tmod (IntKind.wrap .u64 (a0)) 9)))),V 1 (.s (.int .u32 a1)),V 5 (nilS),V 6 (nilS),V 7 (iv 0),V 8 (iv 1)],[],2⟩ ?_
 refine jc_block ?_
 refine jc_bind (fun (x21,x22,x23)=>⟨[V 0 (iv (w64 ((Int.tmod (IntKind.wrap .u64 (a0)) 9)))),V 5 (.osl 0 0 (List.length x21) 1),V 6 (.osl 1 0 (List.length x22) 1),V 7 (iv x23)],[(0,.rows 1 (List.map cI x21)),(1,.rows 1 (List.map cI x22))],2⟩) (fun (x21,x22,x23)=>(.exit 0)) (jc_loop (fun (x7,x8,x9,x10)=>⟨[V 0 (iv (w64 ((Int.tmod (IntKind.wrap .u64 (a0)) 9)))),V 1 (.s (.int .u32 a1)),V 5 (.osl 0 0 (List.length x7) 1),V 6 (.osl 1 0 (List.length x8) 1),V 7 (iv x9),V 8 (iv x10)],[(0,.rows 1 (List.map cI x7)),(1,.rows 1 (List.map cI x8))],2⟩) (wkR [(0,none),(1,none)] (fix_nil _) (pc hZ (pc hZ allp_nil))) ?_) ?_
 ·rintro⟨x7,x8,x9,x10⟩
  unfold law24_CnfAtMost_l1
  refine jc_seq ?_
  refine jS ⟨[V 0 (iv (w64 ((Int.tmod (IntKind.wrap .u64 (a0)) 9)))),V 1 (.s (.int .u32 a1)),V 5 (.osl 0 0 (List.length x7) 1),V 6 (.osl 1 0 (List.length x8) 1),V 7 (iv x9),V 8 (iv x10),V 16 (bv (decide (x10≤(w64 ((Int.tmod (IntKind.wrap .u64 (a0)) 9))))))],[(0,.rows 1 (List.map cI x7)),(1,.rows 1 (List.map cI x8))],2⟩ ?_
  refine jIf ?_ ?_
  ·refine jc_skip ?_
   refine jx_seqN ?_
   refine jc_seq ?_
   refine jc_block ?_
   refine jR ?_
   refine jG 0 3 ⟨[V 0 (iv (w64 ((Int.tmod (IntKind.wrap .u64 (a0)) 9)))),V 1 (.s (.int .u32 a1)),V 6 (.osl 1 0 (List.length x8) 1),V 7 (iv x9),V 8 (iv x10),V 19 (.osl 0 0 (List.length x7) 1),V 21 (.osl 2 0 (List.length [x10]) 1)],[(0,.rows 1 (List.map cI x7)),(1,.rows 1 (List.map cI x8)),(2,.rows 1 (List.map cI [x10]))],3⟩ ?_
   refine jr_part (i:=3) (mo:=app 8 x7 [x10]) rfl rfl rfl rfl (fun _ hc=>aop_app (u:=.osl 0 0 (List.length x7) 1) (w:=.osl 2 0 (List.length [x10]) 1) (e:=3) (td:=.slice 3) (by kernel_rfl) (by kernel_rfl) (by kernel_rfl) (by kernel_rfl) (.inl ⟨_,rfl⟩) (appendOf_own (c:=cI) (sz:=1) (b:=8) (id:=0) (by kernel_rfl) (by kernel_rfl) (rows_own (by kernel_rfl)) (List.cons_ne_nil _ _) hc)) (fun _=>rfl) ?_
   intro x24 h24
   refine jG 4 1 ⟨[V 0 (iv (w64 ((Int.tmod (IntKind.wrap .u64 (a0)) 9)))),V 1 (.s (.int .u32 a1)),V 5 (.osl 3 0 (List.length x24) 1),V 6 (.osl 1 0 (List.length x8) 1),V 7 (iv x9),V 8 (iv x10)],[(1,.rows 1 (List.map cI x8)),(3,.rows 1 (List.map cI x24))],4⟩ ?_
   refine jN ?_
   refine jS ⟨[V 0 (iv (w64 ((Int.tmod (IntKind.wrap .u64 (a0)) 9)))),V 1 (.s (.int .u32 a1)),V 5 (.osl 3 0 (List.length x24) 1),V 6 (.osl 1 0 (List.length x8) 1),V 7 (iv x9),V 8 (iv x10),V 9 (iv (w64 (0 - x10)))],[(1,.rows 1 (List.map cI x8)),(3,.rows 1 (List.map cI x24))],4⟩ ?_
   refine jc_seq ?_
   refine jc_bind (fun (x27,x28)=>⟨[V 0 (iv (w64 ((Int.tmod (IntKind.wrap .u64 (a0)) 9)))),V 1 (.s (.int .u32 a1)),V 5 (.osl 0 0 (List.length x24) 1),V 6 (.osl 1 0 (List.length x8) 1),V 7 (iv x27),V 8 (iv x10),V 9 (iv x28)],[(0,.rows 1 (List.map cI x24)),(1,.rows 1 (List.map cI x8))],2⟩) (fun (x27,x28)=>.normal) ?_ ?_
   ·refine jR ?_
    refine jG 0 2 ⟨[V 0 (iv (w64 ((Int.tmod (IntKind.wrap .u64 (a0)) 9)))),V 1 (.s (.int .u32 a1)),V 5 (.osl 3 0 (List.length x24) 1),V 6 (.osl 1 0 (List.length x8) 1),V 7 (iv x9),V 8 (iv x10),V 9 (iv (w64 (0 - x10))),V 25 (.s (.int .u32 a1)),V 26 (iv x10)],[(1,.rows 1 (List.map cI x8)),(3,.rows 1 (List.map cI x24))],4⟩ ?_
    refine jr_part (i:=2) (mo:=shrI .u32 a1 x10) rfl rfl rfl rfl (fun _ hc=>aop_shr (k:=.u32) (kb:=.i64) (by kernel_rfl) (by kernel_rfl) hc) (fun _=>rfl) ?_
    intro x29 h29
    refine jr_part (i:=3) (mo:=andI .u32 x29 1) rfl rfl rfl rfl (fun _ hc=>aop_and (k:=.u32) (by kernel_rfl) (by kernel_rfl) hc) (fun _=>rfl) ?_
    intro x30 h30
    refine jG 4 1 ⟨[V 0 (iv (w64 ((Int.tmod (IntKind.wrap .u64 (a0)) 9)))),V 1 (.s (.int .u32 a1)),V 5 (.osl 3 0 (List.length x24) 1),V 6 (.osl 1 0 (List.length x8) 1),V 7 (iv x9),V 8 (iv x10),V 9 (iv (w64 (0 - x10))),V 29 (bv (x30 == 1))],[(1,.rows 1 (List.map cI x8)),(3,.rows 1 (List.map cI x24))],4⟩ ?_
    refine jN ?_
    refine jIf ?_ ?_
    ·refine jS ⟨[V 0 (iv (w64 ((Int.tmod (IntKind.wrap .u64 (a0)) 9)))),V 1 (.s (.int .u32 a1)),V 5 (.osl 3 0 (List.length x24) 1),V 6 (.osl 1 0 (List.length x8) 1),V 7 (iv x9),V 8 (iv x10),V 9 (iv x10)],[(1,.rows 1 (List.map cI x8)),(3,.rows 1 (List.map cI x24))],4⟩ ?_
     refine jT ⟨[V 0 (iv (w64 ((Int.tmod (IntKind.wrap .u64 (a0)) 9)))),V 1 (.s (.int .u32 a1)),V 5 (.osl 3 0 (List.length x24) 1),V 6 (.osl 1 0 (List.length x8) 1),V 7 (iv (w64 (x9 + 1))),V 8 (iv x10),V 9 (iv x10)],[(1,.rows 1 (List.map cI x8)),(3,.rows 1 (List.map cI x24))],4⟩ ?_
     exact jx_mid rfl (wkR [(0,some 3),(1,some 1)] (fix_nil _) (pc (hL 3 (noid_map ni_I _)) (pc (hL 1 (noid_map ni_I _)) allp_nil)))
    refine jc_skip ?_
    exact jx_mid rfl (wkR [(0,some 3),(1,some 1)] (fix_nil _) (pc (hL 3 (noid_map ni_I _)) (pc (hL 1 (noid_map ni_I _)) allp_nil)))
   rintro⟨x27,x28⟩
   refine jx_seqN ?_
   refine jc_reg ?_
   refine jG 0 3 ⟨[V 0 (iv (w64 ((Int.tmod (IntKind.wrap .u64 (a0)) 9)))),V 1 (.s (.int .u32 a1)),V 5 (.osl 0 0 (List.length x24) 1),V 7 (iv x27),V 8 (iv x10),V 33 (.osl 1 0 (List.length x8) 1),V 35 (.osl 2 0 (List.length [x28]) 1)],[(0,.rows 1 (List.map cI x24)),(1,.rows 1 (List.map cI x8)),(2,.rows 1 (List.map cI [x28]))],3⟩ ?_
   refine jr_part (i:=3) (mo:=app 8 x8 [x28]) rfl rfl rfl rfl (fun _ hc=>aop_app (u:=.osl 1 0 (List.length x8) 1) (w:=.osl 2 0 (List.length [x28]) 1) (e:=3) (td:=.slice 3) (by kernel_rfl) (by kernel_rfl) (by kernel_rfl) (by kernel_rfl) (.inl ⟨_,rfl⟩) (appendOf_own (c:=cI) (sz:=1) (b:=8) (id:=1) (by kernel_rfl) (by kernel_rfl) (rows_own (by kernel_rfl)) (List.cons_ne_nil _ _) hc)) (fun _=>rfl) ?_
   intro x31 h31
   refine jG 4 1 ⟨[V 0 (iv (w64 ((Int.tmod (IntKind.wrap .u64 (a0)) 9)))),V 1 (.s (.int .u32 a1)),V 5 (.osl 0 0 (List.length x24) 1),V 6 (.osl 3 0 (List.length x31) 1),V 7 (iv x27),V 8 (iv x10)],[(0,.rows 1 (List.map cI x24)),(3,.rows 1 (List.map cI x31))],4⟩ ?_
   refine jr_nil rfl ?_
   refine jx_blkN ?_
   refine jx_seqN ?_
   refine jT ⟨[V 0 (iv (w64 ((Int.tmod (IntKind.wrap .u64 (a0)) 9)))),V 1 (.s (.int .u32 a1)),V 5 (.osl 0 0 (List.length x24) 1),V 6 (.osl 3 0 (List.length x31) 1),V 7 (iv x27),V 8 (iv (w64 (x10 + 1)))],[(0,.rows 1 (List.map cI x24)),(3,.rows 1 (List.map cI x31))],4⟩ ?_
   exact jx_next (wkR [(0,some 0),(1,some 3)] (fix_nil _) (pc (hL 0 (noid_map ni_I _)) (pc (hL 3 (noid_map ni_I _)) allp_nil)))
  refine jc_exit ?_
  refine jx_seqE ?_
  exact jx_done rfl nofun (wkR [(0,some 0),(1,some 1)] (fix_nil _) (pc (hL 0 (noid_map ni_I _)) (pc (hL 1 (noid_map ni_I _)) allp_nil)))
 rintro⟨x21,x22,x23⟩
 refine jx_blkE ?_
 refine jx_seqN ?_
 refine jR ?_
 refine jG 0 2 ⟨[V 6 (.osl 1 0 (List.length x22) 1),V 7 (iv x23),V 37 (iv (w64 ((Int.tmod (IntKind.wrap .u64 (a0)) 9)))),V 38 (.osl 0 0 (List.length x21) 1)],[(0,.rows 1 (List.map cI x21)),(1,.rows 1 (List.map cI x22))],2⟩ ?_
 refine jr_callM 2 [(0,some 0)] [(0,some 0),(2,some 1)] (fun r:List S_api_Clause=>[(0,.rows 1 (List.map cI x21)),(1,.rows 1 (List.map cI x22)),(2,.rows 2 (List.map c_S_api_Clause r))]) (fun r:List S_api_Clause=>.osl 2 0 (List.length r) 2) 3 (cnf_AtMost_ok x21 3) (pc (hL 0 (noid_map ni_I _)) allp_nil) (fun r=>(pc (.inr (hL 0 (noid_map ni_I _))) (pc (.inl ⟨rfl,rfl⟩) (pc (.inr (hL 1 (noid_map ni_S_api_Clause _))) allp_nil)))) ?_
 rintro x32 hm1
 refine jG 3 2 ⟨[V 7 (iv x23),V 40 (.agg [iv (w64 ((Int.tmod (IntKind.wrap .u64 (a0)) 9))),.osl 2 0 (List.length x32) 2,nilS]),V 41 (.osl 1 0 (List.length x22) 1)],[(1,.rows 1 (List.map cI x22)),(2,.rows 2 (List.map c_S_api_Clause x32))],3⟩ ?_
 refine jr_callF (i:=5) rfl rfl rfl rfl (vs:=[.agg [iv (w64 ((Int.tmod (IntKind.wrap .u64 (a0)) 9))),.osl 2 0 (List.length x32) 2,nilS],.osl 1 0 (List.length x22) 1]) (by kernel_rfl) (snapL_cons (snapc_agg (snapL_cons rfl (snapL_cons (snapc_own fz_S_api_Clause (by kernel_rfl)) (snapL_cons rfl (snapL_nil _))))) (snapL_cons (snapc_own fz_I (by kernel_rfl)) (snapL_nil _))) (all2_cons (fle_agg (all2_cons (fle_refl _) (all2_cons (fle_refl _) (all2_cons (fle_nil _) all2_nil)))) (all2_cons (fle_refl _) all2_nil)) (cnf_Holds_ok (S_api_Formula.mk (w64 ((Int.tmod (IntKind.wrap .u64 (a0)) 9))) x32 []) x22) (fun _=>rfl) (fun _=>rfl) ?_
 intro x33 h33
 refine jG 6 4 ⟨[V 46 (bv (x33 == (decide (x23≤1))))],[],3⟩ ?_
 refine jr_bind 10 2 (fun x35=>⟨[V 48 (bv x35)],[],0⟩) ?_ ?_
 ·refine jSp 46 ?_ ?_
  ·refine jK 0 (law24_awake_ok) ?_
   intro x36 h36
   refine jG 1 1 ⟨[V 48 (bv x36)],[],3⟩ ?_
   refine jr_nil rfl ?_
   exact jx_mid rfl (wkR [] (fix_nil _) allp_nil)
  refine jG 0 2 ⟨[V 48 (bv false)],[],3⟩ ?_
  refine jr_nil rfl ?_
  exact jx_mid rfl (wkR [] (fix_nil _) allp_nil)
 intro x35
 refine jG 12 1 ⟨[V 4 (bv x35)],[],0⟩ ?_
 refine jN ?_
 refine jc_ret ?_
 exact jx_retF (.inr rfl) (v:=bv x35) (by kernel_rfl) rfl (fle_refl _))
end Go.Vm

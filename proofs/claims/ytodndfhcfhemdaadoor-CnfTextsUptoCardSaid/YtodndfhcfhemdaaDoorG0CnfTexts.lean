/- The law CnfTexts, a part of its proof: what the functions that it reaches compute. -/
import Derived.Test.YtodndfhcfhemdaaDoorDx5db96d9e
set_option linter.unusedVariables false
set_option linter.unusedSimpArgs false
set_option linter.unusedVariables false
namespace Go.Vm
open Go
structure S_api_Clause where
  Lits:(List Int)
  Tag:Int
  deriving DecidableEq,Inhabited
abbrev c_S_api_Clause (x:S_api_Clause):List AV:=[.fsl 1 (List.map cI x.Lits),iv x.Tag]
theorem ni_S_api_Clause (x:S_api_Clause):NoIds (c_S_api_Clause x):=noids_cons (noid_fsl _ _) (noids_cons (noid_s _) (noids_nil))
theorem fz_S_api_Clause (x:S_api_Clause):Frz (c_S_api_Clause x):=frz_fsl (frz_s (frz_nil))
structure S_api_Formula where
  Vars:Int
  Clauses:(List S_api_Clause)
  Order:(List Int)
  deriving DecidableEq,Inhabited
abbrev c_S_api_Formula (x:S_api_Formula):List AV:=[iv x.Vars,.fsl 2 (List.map c_S_api_Clause x.Clauses),.fsl 1 (List.map cI x.Order)]
structure S_api_Fault where
  Err:Int
  At:Int
  deriving DecidableEq,Inhabited
set_option maxRecDepth 100000
set_option maxHeartbeats 0
set_option linter.unusedSimpArgs false
abbrev cnf_literal_r1:List LO:=[lo 4 (.assign (.const (.bool false))) 4]
abbrev cnf_literal_r2:List LO:=[lm 5 0 3,lo 6 (.binOp .neq 3 (.tmp 5) (.const (.int .i64 0)) 3) 4,lm 7 6 4,lmg 8 0 3 7 true,lmg 9 1 3 7 true,lg 10 (.binOp .leq 3 (.tmp 8) (.tmp 9) 3) 4 7 true,lo 11 (.pick (.tmp 7) (.tmp 10) (.const (.bool false))) 4,lm 12 11 4,lmg 13 0 3 12 true,lmg 14 1 3 12 true,lg 15 (.unOp .neg 3 (.tmp 14)) 3 12 true,lg 16 (.binOp .geq 3 (.tmp 13) (.tmp 15) 3) 4 12 true,lo 17 (.pick (.tmp 12) (.tmp 16) (.const (.bool false))) 4,lo 4 (.assign (.tmp 17)) 4]
abbrev cnf_literal_c:LC:=.seq (.reg false cnf_literal_r1) (.seq (.reg false cnf_literal_r2) .ret)
theorem cnf_literal_k:FnOk E 30 18 [.tmp 4] cnf_literal_c:=⟨⟨Go.Proofs.Tryd.f30,by kernel_rfl,by kernel_rfl,by kernel_rfl,by kernel_rfl,by kernel_rfl⟩,rfl,rfl⟩
noncomputable def cnf_literal (a0:Int) (a1:Int):Option (Bool):=some (((a0 != 0) && (decide (a0≤a1))) && (decide (a0≥(w64 (0 - a1)))))
theorem cnf_literal_ok (a0:Int) (a1:Int):Ct E 30 [iv a0,iv a1] (cnf_literal a0 a1) (fun r:Bool=>bv r):=ct_intro (N:=18) (L:=cnf_literal_c) cnf_literal_k rfl (Nat.le_of_ble_eq_true rfl) (by kernel_rfl) (by
 unfold cnf_literal
 refine jS ⟨[V 0 (iv a0),V 1 (iv a1)],[],0⟩ ?_
 refine jS ⟨[V 4 (bv (((a0 != 0) && (decide (a0≤a1))) && (decide (a0≥(w64 (0 - a1))))))],[],0⟩ ?_
 refine jc_ret ?_
 exact jx_retF (.inr rfl) (v:=bv (((a0 != 0) && (decide (a0≤a1))) && (decide (a0≥(w64 (0 - a1)))))) (by kernel_rfl) rfl (fle_refl _))
abbrev cnf_size_r1:List LO:=[lo 2 (.assign (.const (.int .i64 0))) 3]
abbrev cnf_size_r2:List LO:=[lm 3 0 3,lm 4 0 3,lo 5 (.unOp .neg 3 (.tmp 4)) 3,lo 6 (.call ⟨.builtin .max,#[.tmp 3,.tmp 5],#[3,3]⟩) 3,lo 2 (.assign (.tmp 6)) 3]
abbrev cnf_size_c:LC:=.seq (.reg false cnf_size_r1) (.seq (.reg false cnf_size_r2) .ret)
theorem cnf_size_k:FnOk E 43 7 [.tmp 2] cnf_size_c:=⟨⟨Go.Proofs.Tryd.f43,by kernel_rfl,by kernel_rfl,by kernel_rfl,by kernel_rfl,by kernel_rfl⟩,rfl,rfl⟩
noncomputable def cnf_size (a0:Int):Option (Int):=some (if (w64 (0 - a0)) > a0 then (w64 (0 - a0)) else a0)
theorem cnf_size_ok (a0:Int):Ct E 43 [iv a0] (cnf_size a0) (fun r:Int=>iv r):=ct_intro (N:=7) (L:=cnf_size_c) cnf_size_k rfl (Nat.le_of_ble_eq_true rfl) (by kernel_rfl) (by
 unfold cnf_size
 refine jS ⟨[V 0 (iv a0)],[],0⟩ ?_
 refine jS ⟨[V 2 (iv (if (w64 (0 - a0)) > a0 then (w64 (0 - a0)) else a0))],[],0⟩ ?_
 refine jc_ret ?_
 exact jx_retF (.inr rfl) (v:=iv (if (w64 (0 - a0)) > a0 then (w64 (0 - a0)) else a0)) (by kernel_rfl) rfl (fle_refl _))
abbrev ref24_abs_r1:List LO:=[lo 2 (.assign (.const (.int .i64 0))) 3]
abbrev ref24_abs_r2:List LO:=[lm 3 0 3,lo 4 (.binOp .lss 3 (.tmp 3) (.const (.int .i64 0)) 3) 4]
abbrev ref24_abs_r3:List LO:=[lm 5 0 3,lo 6 (.unOp .neg 3 (.tmp 5)) 3,lo 2 (.assign (.tmp 6)) 3]
abbrev ref24_abs_r4:List LO:=[lm 7 0 3,lo 2 (.assign (.tmp 7)) 3]
abbrev ref24_abs_c:LC:=.seq (.reg false ref24_abs_r1) (.seq (.seq (.reg false ref24_abs_r2) (.cond (.tmp 4) (.seq (.reg false ref24_abs_r3) .ret) .skip)) (.seq (.reg false ref24_abs_r4) .ret))
theorem ref24_abs_k:FnOk E 35 8 [.tmp 2] ref24_abs_c:=⟨⟨Go.Proofs.Tryd.f35,by kernel_rfl,by kernel_rfl,by kernel_rfl,by kernel_rfl,by kernel_rfl⟩,rfl,rfl⟩
noncomputable def ref24_abs (a0:Int):Option (Int):=(if (decide (a0 < 0))=true then some (w64 (0 - a0)) else some a0)
theorem ref24_abs_ok (a0:Int):Ct E 35 [iv a0] (ref24_abs a0) (fun r:Int=>iv r):=ct_intro (N:=8) (L:=ref24_abs_c) ref24_abs_k rfl (Nat.le_of_ble_eq_true rfl) (by kernel_rfl) (by
 unfold ref24_abs
 refine jS ⟨[V 0 (iv a0)],[],0⟩ ?_
 refine jc_seq ?_
 refine jS ⟨[V 0 (iv a0),V 4 (bv (decide (a0 < 0)))],[],0⟩ ?_
 refine jIf ?_ ?_
 ·refine jS ⟨[V 2 (iv (w64 (0 - a0)))],[],0⟩ ?_
  refine jc_ret ?_
  refine jx_seqR ?_
  exact jx_retF (.inr rfl) (v:=iv (w64 (0 - a0))) (by kernel_rfl) rfl (fle_refl _)
 refine jc_skip ?_
 refine jx_seqN ?_
 refine jS ⟨[V 2 (iv a0)],[],0⟩ ?_
 refine jc_ret ?_
 exact jx_retF (.inr rfl) (v:=iv a0) (by kernel_rfl) rfl (fle_refl _))
abbrev ref24_good_r1:List LO:=[lo 4 (.assign (.const (.bool false))) 4]
abbrev ref24_good_r2:List LO:=[lm 5 0 3,lo 6 (.binOp .neq 3 (.tmp 5) (.const (.int .i64 0)) 3) 4,lm 7 6 4,lmg 8 0 3 7 true,lmg 9 1 3 7 true,lg 10 (.unOp .neg 3 (.tmp 9)) 3 7 true,lg 11 (.binOp .geq 3 (.tmp 8) (.tmp 10) 3) 4 7 true,lo 12 (.pick (.tmp 7) (.tmp 11) (.const (.bool false))) 4,lm 13 12 4,lmg 14 0 3 13 true,lmg 15 1 3 13 true,lg 16 (.binOp .leq 3 (.tmp 14) (.tmp 15) 3) 4 13 true,lo 17 (.pick (.tmp 13) (.tmp 16) (.const (.bool false))) 4,lo 4 (.assign (.tmp 17)) 4]
abbrev ref24_good_c:LC:=.seq (.reg false ref24_good_r1) (.seq (.reg false ref24_good_r2) .ret)
theorem ref24_good_k:FnOk E 34 18 [.tmp 4] ref24_good_c:=⟨⟨Go.Proofs.Tryd.f34,by kernel_rfl,by kernel_rfl,by kernel_rfl,by kernel_rfl,by kernel_rfl⟩,rfl,rfl⟩
noncomputable def ref24_good (a0:Int) (a1:Int):Option (Bool):=some (((a0 != 0) && (decide (a0≥(w64 (0 - a1))))) && (decide (a0≤a1)))
theorem ref24_good_ok (a0:Int) (a1:Int):Ct E 34 [iv a0,iv a1] (ref24_good a0 a1) (fun r:Bool=>bv r):=ct_intro (N:=18) (L:=ref24_good_c) ref24_good_k rfl (Nat.le_of_ble_eq_true rfl) (by kernel_rfl) (by
 unfold ref24_good
 refine jS ⟨[V 0 (iv a0),V 1 (iv a1)],[],0⟩ ?_
 refine jS ⟨[V 4 (bv (((a0 != 0) && (decide (a0≥(w64 (0 - a1))))) && (decide (a0≤a1))))],[],0⟩ ?_
 refine jc_ret ?_
 exact jx_retF (.inr rfl) (v:=bv (((a0 != 0) && (decide (a0≥(w64 (0 - a1))))) && (decide (a0≤a1)))) (by kernel_rfl) rfl (fle_refl _))
abbrev cnf_clean_r1:List LO:=[lo 4 (.assign (.const (.bool false))) 4]
abbrev cnf_clean_r2:List LO:=[lm 7 0 23,lo 8 (.call ⟨.builtin .len,#[.tmp 7],#[23]⟩) 3,lo 9 (.move (.const (.int .i64 0))) 3]
abbrev cnf_clean_r3:List LO:=[lo 10 (.binOp .lss 3 (.tmp 9) (.tmp 8) 3) 0]
abbrev cnf_clean_r4:List LO:=[lm 11 9 3,lo 12 (.indexAddr 23 (.tmp 7) (.tmp 9)) 0,lo 13 (.load 3 (.tmp 12)) 3,lo 5 (.assign (.tmp 11)) 3,lo 6 (.assign (.tmp 13)) 3]
abbrev cnf_clean_r5:List LO:=[lm 14 6 3,lm 15 1 3,lo 16 (.call ⟨.value (.func 30),#[.tmp 14,.tmp 15],#[3,3]⟩) 4,lo 17 (.unOp .not 4 (.tmp 16)) 4,lm 18 17 4,lmg 19 5 3 18 false,lg 20 (.binOp .gtr 3 (.tmp 19) (.const (.int .i64 0)) 3) 4 18 false,lmg 21 20 4 18 false,lmg 22 0 23 21 true,lmg 23 5 3 21 true,lg 24 (.binOp .sub 3 (.tmp 23) (.const (.int .i64 1)) 3) 3 21 true,lg 25 (.indexAddr 23 (.tmp 22) (.tmp 24)) 0 21 true,lg 26 (.load 3 (.tmp 25)) 3 21 true,lg 27 (.call ⟨.value (.func 43),#[.tmp 26],#[3]⟩) 3 21 true,lmg 28 6 3 21 true,lg 29 (.call ⟨.value (.func 43),#[.tmp 28],#[3]⟩) 3 21 true,lg 30 (.binOp .geq 3 (.tmp 27) (.tmp 29) 3) 4 21 true,lg 31 (.pick (.tmp 21) (.tmp 30) (.const (.bool false))) 4 18 false,lo 32 (.pick (.tmp 18) (.const (.bool true)) (.tmp 31)) 4]
abbrev cnf_clean_r6:List LO:=[lo 4 (.assign (.const (.bool false))) 4]
abbrev cnf_clean_r7:List LO:=[lo 33 (.binOp .add 3 (.tmp 9) (.const (.int .i64 1)) 3) 3,lm 9 33 3]
abbrev cnf_clean_r8:List LO:=[lo 4 (.assign (.const (.bool true))) 4]
abbrev cnf_clean_c:LC:=.seq (.reg false cnf_clean_r1) (.seq (.seq (.reg false cnf_clean_r2) (.block 0 (.loop (.seq (.reg false cnf_clean_r3) (.seq (.cond (.tmp 10) .skip (.exit 0)) (.seq (.block 1 (.seq (.reg false cnf_clean_r4) (.seq (.reg false cnf_clean_r5) (.cond (.tmp 32) (.seq (.reg false cnf_clean_r6) .ret) .skip)))) (.reg false cnf_clean_r7))))))) (.seq (.reg false cnf_clean_r8) .ret))
theorem cnf_clean_k:FnOk E 36 34 [.tmp 4] cnf_clean_c:=⟨⟨Go.Proofs.Tryd.f36,by kernel_rfl,by kernel_rfl,by kernel_rfl,by kernel_rfl,by kernel_rfl⟩,rfl,rfl⟩
noncomputable def cnf_clean_l1 (a0:(List Int)) (a1:Int):Int→Option (Step (Int) ((Unit) ⊕ (Unit))):=fun x4=>(if (decide (x4 < (List.length a0:Int)))=true then Option.bind (ixl a0 x4) (fun x13=>Option.bind (cnf_literal x13 a1) (fun x14=>Option.bind (if (!x14)=true then some true else Option.bind (if (decide (x4 > 0))=true then Option.bind (ixl a0 (w64 (x4 - 1))) (fun x24=>Option.bind (cnf_size x24) (fun x25=>Option.bind (cnf_size x13) (fun x26=>some (decide (x25≥x26))))) else some false:Option (Bool)) (fun x23=>some (false || x23)):Option (Bool)) (fun x19=>(if x19=true then some (Step.done (Sum.inl ())) else some (Step.next (w64 (x4 + 1))))))) else some (Step.done (Sum.inr ())))
noncomputable def cnf_clean (a0:(List Int)) (a1:Int):Option (Bool):=Option.bind (loopC (cnf_clean_l1 a0 a1) 0) (fun y=>match y with | Sum.inl _=>some false | Sum.inr _=>some true)
theorem cnf_clean_ok (a0:(List Int)) (a1:Int):Ct E 36 [.fsl 1 (List.map cI a0),iv a1] (cnf_clean a0 a1) (fun r:Bool=>bv r):=ct_intro (N:=34) (L:=cnf_clean_c) cnf_clean_k rfl (Nat.le_of_ble_eq_true rfl) (by kernel_rfl) (by
 unfold cnf_clean
 refine jS ⟨[V 0 (.fsl 1 (List.map cI a0)),V 1 (iv a1)],[],0⟩ ?_
 refine jc_seq ?_
 refine jR ?_
 refine jG 0 3 ⟨[V 0 (.fsl 1 (List.map cI a0)),V 1 (iv a1),V 7 (.fsl 1 (List.map cI a0)),V 8 (iv (List.length (List.map cI a0):Int)),V 9 (iv 0)],[],0⟩ ?_
 simp only[List.length_map]
 refine jN ?_
 refine jc_block ?_
 refine jc_bind (fun y=>match y with | Sum.inl _=>⟨[V 4 (bv false)],[],0⟩ | Sum.inr _=>⟨[],[],0⟩) (fun y=>match y with | Sum.inl _=>.ret | Sum.inr _=>(.exit 0)) (jc_loop (fun x4=>⟨[V 0 (.fsl 1 (List.map cI a0)),V 1 (iv a1),V 7 (.fsl 1 (List.map cI a0)),V 8 (iv (List.length a0:Int)),V 9 (iv x4)],[],0⟩) (wkR [] (fix_nil _) allp_nil) ?_) ?_
 ·intro x4
  unfold cnf_clean_l1
  refine jS ⟨[V 0 (.fsl 1 (List.map cI a0)),V 1 (iv a1),V 7 (.fsl 1 (List.map cI a0)),V 8 (iv (List.length a0:Int)),V 9 (iv x4),V 10 (bv (decide (x4 < (List.length a0:Int))))],[],0⟩ ?_
  refine jc_seq ?_
  refine jIf ?_ ?_
  ·refine jc_skip ?_
   refine jx_seqN ?_
   refine jc_seq ?_
   refine jc_block ?_
   refine jR ?_
   refine jG 0 1 ⟨[V 0 (.fsl 1 (List.map cI a0)),V 1 (iv a1),V 7 (.fsl 1 (List.map cI a0)),V 8 (iv (List.length a0:Int)),V 9 (iv x4),V 11 (iv x4)],[],0⟩ ?_
   refine jr_part (i:=1) (mo:=ixl a0 x4) rfl rfl rfl rfl (fun _ hc=>aop_ixf (c:=cI) (sz:=1) (e:=3) (kk:=.i64) (by kernel_rfl) (by kernel_rfl) (by kernel_rfl) (by kernel_rfl) hc) (fun _=>rfl) ?_
   intro x13 h13
   refine jG 2 3 ⟨[V 0 (.fsl 1 (List.map cI a0)),V 1 (iv a1),V 5 (iv x4),V 6 (iv x13),V 7 (.fsl 1 (List.map cI a0)),V 8 (iv (List.length a0:Int)),V 9 (iv x4)],[],0⟩ ?_
   refine jN ?_
   refine jR ?_
   refine jG 0 2 ⟨[V 0 (.fsl 1 (List.map cI a0)),V 1 (iv a1),V 5 (iv x4),V 6 (iv x13),V 7 (.fsl 1 (List.map cI a0)),V 8 (iv (List.length a0:Int)),V 9 (iv x4),V 14 (iv x13),V 15 (iv a1)],[],0⟩ ?_
   refine jK 2 (cnf_literal_ok x13 a1) ?_
   intro x14 h14
   refine jG 3 2 ⟨[V 0 (.fsl 1 (List.map cI a0)),V 1 (iv a1),V 5 (iv x4),V 6 (iv x13),V 7 (.fsl 1 (List.map cI a0)),V 8 (iv (List.length a0:Int)),V 9 (iv x4),V 18 (bv (!x14))],[],0⟩ ?_
   refine jr_bind 5 14 (fun x19=>⟨[V 0 (.fsl 1 (List.map cI a0)),V 1 (iv a1),V 7 (.fsl 1 (List.map cI a0)),V 8 (iv (List.length a0:Int)),V 9 (iv x4),V 32 (bv x19)],[],0⟩) ?_ ?_
   ·refine jSp 18 ?_ ?_
    ·refine jG 0 14 ⟨[V 0 (.fsl 1 (List.map cI a0)),V 1 (iv a1),V 7 (.fsl 1 (List.map cI a0)),V 8 (iv (List.length a0:Int)),V 9 (iv x4),V 32 (bv true)],[],0⟩ ?_
     refine jr_nil rfl ?_
     exact jx_mid rfl (wkR [] (fix_nil _) allp_nil)
    refine jG 0 3 ⟨[V 0 (.fsl 1 (List.map cI a0)),V 1 (iv a1),V 5 (iv x4),V 6 (iv x13),V 7 (.fsl 1 (List.map cI a0)),V 8 (iv (List.length a0:Int)),V 9 (iv x4),(18,.lit false),V 21 (bv (decide (x4 > 0)))],[],0⟩ ?_
    refine jr_bind 3 10 (fun x23=>⟨[V 0 (.fsl 1 (List.map cI a0)),V 1 (iv a1),V 7 (.fsl 1 (List.map cI a0)),V 8 (iv (List.length a0:Int)),V 9 (iv x4),V 18 (bv false),V 31 (bv x23)],[],0⟩) ?_ ?_
    ·refine jSp 21 ?_ ?_
     ·refine jG 0 3 ⟨[V 0 (.fsl 1 (List.map cI a0)),V 1 (iv a1),V 6 (iv x13),V 7 (.fsl 1 (List.map cI a0)),V 8 (iv (List.length a0:Int)),V 9 (iv x4),(18,.lit false),(21,.lit true),V 22 (.fsl 1 (List.map cI a0)),V 24 (iv (w64 (x4 - 1)))],[],0⟩ ?_
      refine jr_part (i:=3) (mo:=ixl a0 (w64 (x4 - 1))) rfl rfl rfl rfl (fun _ hc=>aop_ixf (c:=cI) (sz:=1) (e:=3) (kk:=.i64) (by kernel_rfl) (by kernel_rfl) (by kernel_rfl) (by kernel_rfl) hc) (fun _=>rfl) ?_
      intro x24 h24
      refine jG 4 1 ⟨[V 0 (.fsl 1 (List.map cI a0)),V 1 (iv a1),V 6 (iv x13),V 7 (.fsl 1 (List.map cI a0)),V 8 (iv (List.length a0:Int)),V 9 (iv x4),(18,.lit false),(21,.lit true),V 26 (iv x24)],[],0⟩ ?_
      refine jK 5 (cnf_size_ok x24) ?_
      intro x25 h25
      refine jG 6 1 ⟨[V 0 (.fsl 1 (List.map cI a0)),V 1 (iv a1),V 7 (.fsl 1 (List.map cI a0)),V 8 (iv (List.length a0:Int)),V 9 (iv x4),(18,.lit false),(21,.lit true),V 27 (iv x25),V 28 (iv x13)],[],0⟩ ?_
      refine jK 7 (cnf_size_ok x13) ?_
      intro x26 h26
      refine jG 8 2 ⟨[V 0 (.fsl 1 (List.map cI a0)),V 1 (iv a1),V 7 (.fsl 1 (List.map cI a0)),V 8 (iv (List.length a0:Int)),V 9 (iv x4),(18,.lit false),V 31 (bv (decide (x25≥x26)))],[],0⟩ ?_
      refine jr_nil rfl ?_
      exact jx_mid rfl (wkR [] (fix_nil _) allp_nil)
     refine jG 0 10 ⟨[V 0 (.fsl 1 (List.map cI a0)),V 1 (iv a1),V 7 (.fsl 1 (List.map cI a0)),V 8 (iv (List.length a0:Int)),V 9 (iv x4),(18,.lit false),V 31 (bv false)],[],0⟩ ?_
     refine jr_nil rfl ?_
     exact jx_mid rfl (wkR [] (fix_nil _) allp_nil)
    intro x23
    refine jG 13 1 ⟨[V 0 (.fsl 1 (List.map cI a0)),V 1 (iv a1),V 7 (.fsl 1 (List.map cI a0)),V 8 (iv (List.length a0:Int)),V 9 (iv x4),V 32 (bv (false || x23))],[],0⟩ ?_
    refine jr_nil rfl ?_
    exact jx_mid rfl (wkR [] (fix_nil _) allp_nil)
   intro x19
   refine jN ?_
   refine jIf ?_ ?_
   ·refine jS ⟨[V 4 (bv false)],[],0⟩ ?_
    refine jc_ret ?_
    refine jx_blkR ?_
    refine jx_seqR ?_
    exact jx_done rfl nofun (wkR [] (fix_nil _) allp_nil)
   refine jc_skip ?_
   refine jx_blkN ?_
   refine jx_seqN ?_
   refine jT ⟨[V 0 (.fsl 1 (List.map cI a0)),V 1 (iv a1),V 7 (.fsl 1 (List.map cI a0)),V 8 (iv (List.length a0:Int)),V 9 (iv (w64 (x4 + 1)))],[],0⟩ ?_
   exact jx_next (wkR [] (fix_nil _) allp_nil)
  refine jc_exit ?_
  refine jx_seqE ?_
  exact jx_done rfl nofun (wkR [] (fix_nil _) allp_nil)
 rintro (_ | _)
 ·refine jx_blkR ?_
  refine jx_seqR ?_
  exact jx_retF (.inr rfl) (v:=bv false) (by kernel_rfl) rfl (fle_refl _)
 refine jx_blkE ?_
 refine jx_seqN ?_
 refine jS ⟨[V 4 (bv true)],[],0⟩ ?_
 refine jc_ret ?_
 exact jx_retF (.inr rfl) (v:=bv true) (by kernel_rfl) rfl (fle_refl _))
abbrev cnf_Fit_r1:List LO:=[lo 1 (.box 25 (.tmp 0)) 0,lo 2 (.assign (.const (.bool false))) 4]
abbrev cnf_Fit_r2:List LO:=[lo 8 (.fieldAddr 25 (.tmp 1) 0) 0,lo 9 (.load 3 (.tmp 8)) 3,lo 10 (.binOp .lss 3 (.tmp 9) (.const (.int .i64 0)) 3) 4,lm 11 10 4,lg 12 (.fieldAddr 25 (.tmp 1) 0) 0 11 false,lg 13 (.load 3 (.tmp 12)) 3 11 false,lg 14 (.binOp .gtr 3 (.tmp 13) (.const (.int .i64 4096)) 3) 4 11 false,lo 15 (.pick (.tmp 11) (.const (.bool true)) (.tmp 14)) 4,lm 16 15 4,lg 17 (.fieldAddr 25 (.tmp 1) 1) 0 16 false,lg 18 (.load 22 (.tmp 17)) 22 16 false,lg 19 (.call ⟨.builtin .len,#[.tmp 18],#[22]⟩) 3 16 false,lg 20 (.binOp .gtr 3 (.tmp 19) (.const (.int .i64 65536)) 3) 4 16 false,lo 21 (.pick (.tmp 16) (.const (.bool true)) (.tmp 20)) 4]
abbrev cnf_Fit_r3:List LO:=[lo 2 (.assign (.const (.bool false))) 4]
abbrev cnf_Fit_r4:List LO:=[lo 22 (.fieldAddr 25 (.tmp 1) 1) 0,lo 23 (.load 22 (.tmp 22)) 22,lo 24 (.call ⟨.builtin .len,#[.tmp 23],#[22]⟩) 3,lo 25 (.move (.const (.int .i64 0))) 3]
abbrev cnf_Fit_r5:List LO:=[lo 26 (.binOp .lss 3 (.tmp 25) (.tmp 24) 3) 0]
abbrev cnf_Fit_r6:List LO:=[lo 27 (.indexAddr 22 (.tmp 23) (.tmp 25)) 0,lo 28 (.load 55 (.tmp 27)) 55,lo 4 (.alloc 55) 0,ln (.store 55 (.tmp 4) (.tmp 28)) 0]
abbrev cnf_Fit_r7:List LO:=[lo 29 (.fieldAddr 55 (.tmp 4) 0) 0,lo 30 (.load 23 (.tmp 29)) 23,lo 31 (.fieldAddr 25 (.tmp 1) 0) 0,lo 32 (.load 3 (.tmp 31)) 3,lo 33 (.call ⟨.value (.func 36),#[.tmp 30,.tmp 32],#[23,3]⟩) 4,lo 34 (.unOp .not 4 (.tmp 33)) 4]
abbrev cnf_Fit_r8:List LO:=[lo 2 (.assign (.const (.bool false))) 4]
abbrev cnf_Fit_r9:List LO:=[lo 35 (.binOp .add 3 (.tmp 25) (.const (.int .i64 1)) 3) 3,lm 25 35 3]
abbrev cnf_Fit_r10:List LO:=[lo 36 (.fieldAddr 25 (.tmp 1) 0) 0,lo 37 (.load 3 (.tmp 36)) 3,lo 38 (.binOp .mul 3 (.const (.int .i64 2)) (.tmp 37) 3) 3,lo 39 (.binOp .add 3 (.tmp 38) (.const (.int .i64 1)) 3) 3,lo 40 (.makeSlice 23 (.tmp 39) (.tmp 39)) 23,lo 5 (.assign (.tmp 40)) 23]
abbrev cnf_Fit_r11:List LO:=[lo 41 (.fieldAddr 25 (.tmp 1) 2) 0,lo 42 (.load 23 (.tmp 41)) 23,lo 43 (.call ⟨.builtin .len,#[.tmp 42],#[23]⟩) 3,lo 44 (.move (.const (.int .i64 0))) 3]
abbrev cnf_Fit_r12:List LO:=[lo 45 (.binOp .lss 3 (.tmp 44) (.tmp 43) 3) 0]
abbrev cnf_Fit_r13:List LO:=[lo 46 (.indexAddr 23 (.tmp 42) (.tmp 44)) 0,lo 47 (.load 3 (.tmp 46)) 3,lo 7 (.assign (.tmp 47)) 3]
abbrev cnf_Fit_r14:List LO:=[lm 48 7 3,lo 49 (.fieldAddr 25 (.tmp 1) 0) 0,lo 50 (.load 3 (.tmp 49)) 3,lo 51 (.call ⟨.value (.func 30),#[.tmp 48,.tmp 50],#[3,3]⟩) 4,lo 52 (.unOp .not 4 (.tmp 51)) 4,lm 53 52 4,lmg 54 5 23 53 false,lmg 55 7 3 53 false,lg 56 (.fieldAddr 25 (.tmp 1) 0) 0 53 false,lg 57 (.load 3 (.tmp 56)) 3 53 false,lg 58 (.binOp .add 3 (.tmp 55) (.tmp 57) 3) 3 53 false,lg 59 (.indexAddr 23 (.tmp 54) (.tmp 58)) 0 53 false,lg 60 (.load 3 (.tmp 59)) 3 53 false,lg 61 (.binOp .gtr 3 (.tmp 60) (.const (.int .i64 0)) 3) 4 53 false,lo 62 (.pick (.tmp 53) (.const (.bool true)) (.tmp 61)) 4]
abbrev cnf_Fit_r15:List LO:=[lo 2 (.assign (.const (.bool false))) 4]
abbrev cnf_Fit_r16:List LO:=[lm 63 5 23,lm 64 7 3,lo 65 (.fieldAddr 25 (.tmp 1) 0) 0,lo 66 (.load 3 (.tmp 65)) 3,lo 67 (.binOp .add 3 (.tmp 64) (.tmp 66) 3) 3,lo 68 (.indexAddr 23 (.tmp 63) (.tmp 67)) 0,lo 69 (.load 3 (.tmp 68)) 3,lo 70 (.binOp .add 3 (.tmp 69) (.const (.int .i64 1)) 3) 3,lo 71 (.indexAddr 23 (.tmp 63) (.tmp 67)) 0,ln (.store 3 (.tmp 71) (.tmp 70)) 0]
abbrev cnf_Fit_r17:List LO:=[lo 72 (.binOp .add 3 (.tmp 44) (.const (.int .i64 1)) 3) 3,lm 44 72 3]
abbrev cnf_Fit_r18:List LO:=[lo 2 (.assign (.const (.bool true))) 4]
abbrev cnf_Fit_c:LC:=.seq (.reg false cnf_Fit_r1) (.seq (.seq (.reg false cnf_Fit_r2) (.cond (.tmp 21) (.seq (.reg false cnf_Fit_r3) .ret) .skip)) (.seq (.seq (.reg false cnf_Fit_r4) (.block 0 (.loop (.seq (.reg false cnf_Fit_r5) (.seq (.cond (.tmp 26) .skip (.exit 0)) (.seq (.block 1 (.seq (.reg false cnf_Fit_r6) (.seq (.reg false cnf_Fit_r7) (.cond (.tmp 34) (.seq (.reg false cnf_Fit_r8) .ret) .skip)))) (.reg false cnf_Fit_r9))))))) (.seq (.reg false cnf_Fit_r10) (.seq (.seq (.reg false cnf_Fit_r11) (.block 2 (.loop (.seq (.reg false cnf_Fit_r12) (.seq (.cond (.tmp 45) .skip (.exit 2)) (.seq (.block 3 (.seq (.reg false cnf_Fit_r13) (.seq (.seq (.reg false cnf_Fit_r14) (.cond (.tmp 62) (.seq (.reg false cnf_Fit_r15) .ret) .skip)) (.reg false cnf_Fit_r16)))) (.reg false cnf_Fit_r17))))))) (.seq (.reg false cnf_Fit_r18) .ret)))))
theorem cnf_Fit_k:FnOk E 9 73 [.tmp 2] cnf_Fit_c:=⟨⟨Go.Proofs.Tryd.f9,by kernel_rfl,by kernel_rfl,by kernel_rfl,by kernel_rfl,by kernel_rfl⟩,rfl,rfl⟩
noncomputable def cnf_Fit_l1 (a0:S_api_Formula):Int→Option (Step (Int) ((Unit) ⊕ (Unit))):=fun x3=>(if (decide (x3 < (List.length a0.Clauses:Int)))=true then Option.bind (ixl a0.Clauses x3) (fun x7=>Option.bind (cnf_clean x7.Lits a0.Vars) (fun x8=>(if (!x8)=true then some (Step.done (Sum.inl ())) else some (Step.next (w64 (x3 + 1)))))) else some (Step.done (Sum.inr ())))
noncomputable def cnf_Fit_l2 (a0:S_api_Formula):(List Int × Int)→Option (Step (List Int × Int) ((Unit) ⊕ (Unit))):=fun (x16,x17)=>(if (decide (x17 < (List.length a0.Order:Int)))=true then Option.bind (ixl a0.Order x17) (fun x26=>Option.bind (cnf_literal x26 a0.Vars) (fun x27=>Option.bind (if (!x27)=true then some true else Option.bind (ixl x16 (w64 (x26 + a0.Vars))) (fun x30=>some (decide (x30 > 0))):Option (Bool)) (fun x29=>(if x29=true then some (Step.done (Sum.inl ())) else Option.bind (ixl x16 (w64 (x26 + a0.Vars))) (fun x31=>Option.bind (ixl x16 (w64 (x26 + a0.Vars))) (fun x32=>some (Step.next ((List.set x16 (Int.toNat (w64 (x26 + a0.Vars))) (w64 (x31 + 1))),(w64 (x17 + 1)))))))))) else some (Step.done (Sum.inr ())))
noncomputable def cnf_Fit (a0:S_api_Formula):Option (Bool):=(if (((decide (a0.Vars < 0)) || (decide (a0.Vars > 4096))) || (decide ((List.length a0.Clauses:Int) > 65536)))=true then some false else Option.bind (loopC (cnf_Fit_l1 a0) 0) (fun y=>match y with | Sum.inl _=>some false | Sum.inr _=>Option.bind (mkl 8 (0:Int) (w64 ((w64 (2 * a0.Vars)) + 1)) (w64 ((w64 (2 * a0.Vars)) + 1))) (fun x9=>Option.bind (loopC (cnf_Fit_l2 a0) (x9,0)) (fun y=>match y with | Sum.inl _=>some false | Sum.inr _=>some true))))
theorem cnf_Fit_ok (a0:S_api_Formula):Ct E 9 [.agg [iv a0.Vars,.fsl 2 (List.map c_S_api_Clause a0.Clauses),.fsl 1 (List.map cI a0.Order)]] (cnf_Fit a0) (fun r:Bool=>bv r):=ct_intro (N:=73) (L:=cnf_Fit_c) cnf_Fit_k rfl (Nat.le_of_ble_eq_true rfl) (by kernel_rfl) (by
 unfold cnf_Fit
 refine jS ⟨[V 1 (pt 0 3)],[W 0 3 [iv a0.Vars,.fsl 2 (List.map c_S_api_Clause a0.Clauses),.fsl 1 (List.map cI a0.Order)]],1⟩ ?_
 refine jc_seq ?_
 refine jR ?_
 refine jG 0 14 ⟨[V 1 (pt 0 3),V 21 (bv (((decide (a0.Vars < 0)) || (decide (a0.Vars > 4096))) || (decide ((List.length (List.map c_S_api_Clause a0.Clauses):Int) > 65536))))],[W 0 3 [iv a0.Vars,.fsl 2 (List.map c_S_api_Clause a0.Clauses),.fsl 1 (List.map cI a0.Order)]],1⟩ ?_
 simp only[List.length_map]
 refine jN ?_
 refine jIf ?_ ?_
 ·refine jS ⟨[V 2 (bv false)],[],1⟩ ?_
  refine jc_ret ?_
  refine jx_seqR ?_
  exact jx_retF (.inr rfl) (v:=bv false) (by kernel_rfl) rfl (fle_refl _)
 refine jc_skip ?_
 refine jx_seqN ?_
 refine jc_seq ?_
 refine jR ?_
 refine jG 0 4 ⟨[V 1 (pt 0 3),V 23 (.fsl 2 (List.map c_S_api_Clause a0.Clauses)),V 24 (iv (List.length (List.map c_S_api_Clause a0.Clauses):Int)),V 25 (iv 0)],[W 0 3 [iv a0.Vars,.fsl 2 (List.map c_S_api_Clause a0.Clauses),.fsl 1 (List.map cI a0.Order)]],1⟩ ?_
 simp only[List.length_map]
 refine jN ?_
 refine jc_block ?_
 refine jc_bind (fun y=>match y with | Sum.inl _=>⟨[V 2 (bv false)],[],0⟩ | Sum.inr _=>⟨[V 1 (pt 0 3)],[W 0 3 [iv a0.Vars,.fsl 2 (List.map c_S_api_Clause a0.Clauses),.fsl 1 (List.map cI a0.Order)]],1⟩) (fun y=>match y with | Sum.inl _=>.ret | Sum.inr _=>(.exit 0)) (jc_loop (fun x3=>⟨[V 1 (pt 0 3),V 23 (.fsl 2 (List.map c_S_api_Clause a0.Clauses)),V 24 (iv (List.length a0.Clauses:Int)),V 25 (iv x3)],[W 0 3 [iv a0.Vars,.fsl 2 (List.map c_S_api_Clause a0.Clauses),.fsl 1 (List.map cI a0.Order)]],1⟩) (wkR [(0,some 0)] (fix_nil _) (pc (hC 0) allp_nil)) ?_) ?_
 ·intro x3
  unfold cnf_Fit_l1
  refine jS ⟨[V 1 (pt 0 3),V 23 (.fsl 2 (List.map c_S_api_Clause a0.Clauses)),V 24 (iv (List.length a0.Clauses:Int)),V 25 (iv x3),V 26 (bv (decide (x3 < (List.length a0.Clauses:Int))))],[W 0 3 [iv a0.Vars,.fsl 2 (List.map c_S_api_Clause a0.Clauses),.fsl 1 (List.map cI a0.Order)]],1⟩ ?_
  refine jc_seq ?_
  refine jIf ?_ ?_
  ·refine jc_skip ?_
   refine jx_seqN ?_
   refine jc_seq ?_
   refine jc_block ?_
   refine jR ?_
   refine jr_part (i:=0) (mo:=ixl a0.Clauses x3) rfl rfl rfl rfl (fun _ hc=>aop_ixf (c:=c_S_api_Clause) (sz:=2) (e:=55) (kk:=.i64) (by kernel_rfl) (by kernel_rfl) (by kernel_rfl) (by kernel_rfl) hc) (fun _=>rfl) ?_
   intro x7 h7
   refine jG 1 3 ⟨[V 1 (pt 0 3),V 4 (pt 1 2),V 23 (.fsl 2 (List.map c_S_api_Clause a0.Clauses)),V 24 (iv (List.length a0.Clauses:Int)),V 25 (iv x3)],[W 0 3 [iv a0.Vars,.fsl 2 (List.map c_S_api_Clause a0.Clauses),.fsl 1 (List.map cI a0.Order)],W 1 2 [.fsl 1 (List.map cI x7.Lits),iv x7.Tag]],2⟩ ?_
   refine jN ?_
   refine jR ?_
   refine jG 0 4 ⟨[V 1 (pt 0 3),V 23 (.fsl 2 (List.map c_S_api_Clause a0.Clauses)),V 24 (iv (List.length a0.Clauses:Int)),V 25 (iv x3),V 30 (.fsl 1 (List.map cI x7.Lits)),V 32 (iv a0.Vars)],[W 0 3 [iv a0.Vars,.fsl 2 (List.map c_S_api_Clause a0.Clauses),.fsl 1 (List.map cI a0.Order)]],2⟩ ?_
   refine jK 4 (cnf_clean_ok x7.Lits a0.Vars) ?_
   intro x8 h8
   refine jG 5 1 ⟨[V 1 (pt 0 3),V 23 (.fsl 2 (List.map c_S_api_Clause a0.Clauses)),V 24 (iv (List.length a0.Clauses:Int)),V 25 (iv x3),V 34 (bv (!x8))],[W 0 3 [iv a0.Vars,.fsl 2 (List.map c_S_api_Clause a0.Clauses),.fsl 1 (List.map cI a0.Order)]],2⟩ ?_
   refine jN ?_
   refine jIf ?_ ?_
   ·refine jS ⟨[V 2 (bv false)],[],2⟩ ?_
    refine jc_ret ?_
    refine jx_blkR ?_
    refine jx_seqR ?_
    exact jx_done rfl nofun (wkR [] (fix_nil _) allp_nil)
   refine jc_skip ?_
   refine jx_blkN ?_
   refine jx_seqN ?_
   refine jT ⟨[V 1 (pt 0 3),V 23 (.fsl 2 (List.map c_S_api_Clause a0.Clauses)),V 24 (iv (List.length a0.Clauses:Int)),V 25 (iv (w64 (x3 + 1)))],[W 0 3 [iv a0.Vars,.fsl 2 (List.map c_S_api_Clause a0.Clauses),.fsl 1 (List.map cI a0.Order)]],2⟩ ?_
   exact jx_next (wkR [(0,some 0)] (fix_nil _) (pc (hC 0) allp_nil))
  refine jc_exit ?_
  refine jx_seqE ?_
  exact jx_done rfl nofun (wkR [(0,some 0)] (fix_nil _) (pc (hC 0) allp_nil))
 rintro (_ | _)
 ·refine jx_blkR ?_
  refine jx_seqR ?_
  exact jx_retF (.inr rfl) (v:=bv false) (by kernel_rfl) rfl (fle_refl _)
 refine jx_blkE ?_
 refine jx_seqN ?_
 refine jR ?_
 refine jG 0 4 ⟨[V 1 (pt 0 3),V 39 (iv (w64 ((w64 (2 * a0.Vars)) + 1)))],[W 0 3 [iv a0.Vars,.fsl 2 (List.map c_S_api_Clause a0.Clauses),.fsl 1 (List.map cI a0.Order)]],1⟩ ?_
 refine jr_part (i:=4) (mo:=mkl 8 (0:Int) (w64 ((w64 (2 * a0.Vars)) + 1)) (w64 ((w64 (2 * a0.Vars)) + 1))) rfl rfl rfl rfl (fun _ hc=>aop_mks (e:=3) (sz:=1) (b:=8) (cc:=cI) (kk:=.i64) (kc:=.i64) (by kernel_rfl) (by kernel_rfl) (by kernel_rfl) (by kernel_rfl) (by kernel_rfl) hc) (fun _=>rfl) ?_
 intro x9 h9
 refine jG 5 1 ⟨[V 1 (pt 0 3),V 5 (.osl 1 0 (List.length x9) 1)],[W 0 3 [iv a0.Vars,.fsl 2 (List.map c_S_api_Clause a0.Clauses),.fsl 1 (List.map cI a0.Order)],(1,.rows 1 (List.map cI x9))],2⟩ ?_
 refine jN ?_
 refine jc_seq ?_
 refine jR ?_
 refine jG 0 4 ⟨[V 1 (pt 0 3),V 5 (.osl 1 0 (List.length x9) 1),V 42 (.fsl 1 (List.map cI a0.Order)),V 43 (iv (List.length (List.map cI a0.Order):Int)),V 44 (iv 0)],[W 0 3 [iv a0.Vars,.fsl 2 (List.map c_S_api_Clause a0.Clauses),.fsl 1 (List.map cI a0.Order)],(1,.rows 1 (List.map cI x9))],2⟩ ?_
 simp only[List.length_map]
 refine jN ?_
 refine jc_block ?_
 refine jc_bind (fun y=>match y with | Sum.inl _=>⟨[V 2 (bv false)],[],0⟩ | Sum.inr _=>⟨[],[],0⟩) (fun y=>match y with | Sum.inl _=>.ret | Sum.inr _=>(.exit 2)) (jc_loop (fun (x16,x17)=>⟨[V 1 (pt 0 3),V 5 (.osl 1 0 (List.length x16) 1),V 42 (.fsl 1 (List.map cI a0.Order)),V 43 (iv (List.length a0.Order:Int)),V 44 (iv x17)],[W 0 3 [iv a0.Vars,.fsl 2 (List.map c_S_api_Clause a0.Clauses),.fsl 1 (List.map cI a0.Order)],(1,.rows 1 (List.map cI x16))],2⟩) (wkR [(0,some 0),(1,some 1)] (fix_nil _) (pc (hC 0) (pc (hL 1 (noid_map ni_I _)) allp_nil))) ?_) ?_
 ·rintro⟨x16,x17⟩
  unfold cnf_Fit_l2
  refine jS ⟨[V 1 (pt 0 3),V 5 (.osl 1 0 (List.length x16) 1),V 42 (.fsl 1 (List.map cI a0.Order)),V 43 (iv (List.length a0.Order:Int)),V 44 (iv x17),V 45 (bv (decide (x17 < (List.length a0.Order:Int))))],[W 0 3 [iv a0.Vars,.fsl 2 (List.map c_S_api_Clause a0.Clauses),.fsl 1 (List.map cI a0.Order)],(1,.rows 1 (List.map cI x16))],2⟩ ?_
  refine jc_seq ?_
  refine jIf ?_ ?_
  ·refine jc_skip ?_
   refine jx_seqN ?_
   refine jc_seq ?_
   refine jc_block ?_
   refine jR ?_
   refine jr_part (i:=0) (mo:=ixl a0.Order x17) rfl rfl rfl rfl (fun _ hc=>aop_ixf (c:=cI) (sz:=1) (e:=3) (kk:=.i64) (by kernel_rfl) (by kernel_rfl) (by kernel_rfl) (by kernel_rfl) hc) (fun _=>rfl) ?_
   intro x26 h26
   refine jG 1 2 ⟨[V 1 (pt 0 3),V 5 (.osl 1 0 (List.length x16) 1),V 7 (iv x26),V 42 (.fsl 1 (List.map cI a0.Order)),V 43 (iv (List.length a0.Order:Int)),V 44 (iv x17)],[W 0 3 [iv a0.Vars,.fsl 2 (List.map c_S_api_Clause a0.Clauses),.fsl 1 (List.map cI a0.Order)],(1,.rows 1 (List.map cI x16))],2⟩ ?_
   refine jN ?_
   refine jc_seq ?_
   refine jR ?_
   refine jG 0 3 ⟨[V 1 (pt 0 3),V 5 (.osl 1 0 (List.length x16) 1),V 7 (iv x26),V 42 (.fsl 1 (List.map cI a0.Order)),V 43 (iv (List.length a0.Order:Int)),V 44 (iv x17),V 48 (iv x26),V 50 (iv a0.Vars)],[W 0 3 [iv a0.Vars,.fsl 2 (List.map c_S_api_Clause a0.Clauses),.fsl 1 (List.map cI a0.Order)],(1,.rows 1 (List.map cI x16))],2⟩ ?_
   refine jK 3 (cnf_literal_ok x26 a0.Vars) ?_
   intro x27 h27
   refine jG 4 2 ⟨[V 1 (pt 0 3),V 5 (.osl 1 0 (List.length x16) 1),V 7 (iv x26),V 42 (.fsl 1 (List.map cI a0.Order)),V 43 (iv (List.length a0.Order:Int)),V 44 (iv x17),V 53 (bv (!x27))],[W 0 3 [iv a0.Vars,.fsl 2 (List.map c_S_api_Clause a0.Clauses),.fsl 1 (List.map cI a0.Order)],(1,.rows 1 (List.map cI x16))],2⟩ ?_
   refine jr_bind 6 9 (fun x29=>⟨[V 1 (pt 0 3),V 5 (.osl 1 0 (List.length x16) 1),V 7 (iv x26),V 42 (.fsl 1 (List.map cI a0.Order)),V 43 (iv (List.length a0.Order:Int)),V 44 (iv x17),V 62 (bv x29)],[W 0 3 [iv a0.Vars,.fsl 2 (List.map c_S_api_Clause a0.Clauses),.fsl 1 (List.map cI a0.Order)],(1,.rows 1 (List.map cI x16))],2⟩) ?_ ?_
   ·refine jSp 53 ?_ ?_
    ·refine jG 0 9 ⟨[V 1 (pt 0 3),V 5 (.osl 1 0 (List.length x16) 1),V 7 (iv x26),V 42 (.fsl 1 (List.map cI a0.Order)),V 43 (iv (List.length a0.Order:Int)),V 44 (iv x17),V 62 (bv true)],[W 0 3 [iv a0.Vars,.fsl 2 (List.map c_S_api_Clause a0.Clauses),.fsl 1 (List.map cI a0.Order)],(1,.rows 1 (List.map cI x16))],2⟩ ?_
     refine jr_nil rfl ?_
     exact jx_mid rfl (wkR [(0,some 0),(1,some 1)] (fix_nil _) (pc (hC 0) (pc (hL 1 (noid_map ni_I _)) allp_nil)))
    refine jG 0 5 ⟨[V 1 (pt 0 3),V 5 (.osl 1 0 (List.length x16) 1),V 7 (iv x26),V 42 (.fsl 1 (List.map cI a0.Order)),V 43 (iv (List.length a0.Order:Int)),V 44 (iv x17),(53,.lit false),V 54 (.osl 1 0 (List.length x16) 1),V 58 (iv (w64 (x26 + a0.Vars)))],[W 0 3 [iv a0.Vars,.fsl 2 (List.map c_S_api_Clause a0.Clauses),.fsl 1 (List.map cI a0.Order)],(1,.rows 1 (List.map cI x16))],2⟩ ?_
    refine jr_part (i:=5) (mo:=ixl x16 (w64 (x26 + a0.Vars))) rfl rfl rfl rfl (fun _ hc=>aop_ixo0 (sz:=1) (e:=3) (kk:=.i64) (id:=1) (by kernel_rfl) (by kernel_rfl) (by kernel_rfl) (by kernel_rfl) hc) (fun _=>rfl) ?_
    intro x30 h30
    refine jr_one (i:=6) (v:=iv x30) rfl rfl rfl rfl (aop_ldo (l:=x16) (c:=cI) (id:=1) (k:=(Int.toNat (w64 (x26 + a0.Vars)))) (sz:=1) (off:=0) (a:=x30) (by kernel_rfl) (by kernel_rfl) (ixl_lt h30).2.2 (by kernel_rfl)) rfl ?_
    refine jG 7 2 ⟨[V 1 (pt 0 3),V 5 (.osl 1 0 (List.length x16) 1),V 7 (iv x26),V 42 (.fsl 1 (List.map cI a0.Order)),V 43 (iv (List.length a0.Order:Int)),V 44 (iv x17),V 62 (bv (decide (x30 > 0)))],[W 0 3 [iv a0.Vars,.fsl 2 (List.map c_S_api_Clause a0.Clauses),.fsl 1 (List.map cI a0.Order)],(1,.rows 1 (List.map cI x16))],2⟩ ?_
    refine jr_nil rfl ?_
    exact jx_mid rfl (wkR [(0,some 0),(1,some 1)] (fix_nil _) (pc (hC 0) (pc (hL 1 (noid_map ni_I _)) allp_nil)))
   intro x29
   refine jN ?_
   refine jIf ?_ ?_
   ·refine jS ⟨[V 2 (bv false)],[],2⟩ ?_
    refine jc_ret ?_
    refine jx_seqR ?_
    refine jx_blkR ?_
    refine jx_seqR ?_
    exact jx_done rfl nofun (wkR [] (fix_nil _) allp_nil)
   refine jc_skip ?_
   refine jx_seqN ?_
   refine jc_reg ?_
   refine jG 0 5 ⟨[V 1 (pt 0 3),V 5 (.osl 1 0 (List.length x16) 1),V 42 (.fsl 1 (List.map cI a0.Order)),V 43 (iv (List.length a0.Order:Int)),V 44 (iv x17),V 63 (.osl 1 0 (List.length x16) 1),V 67 (iv (w64 (x26 + a0.Vars)))],[W 0 3 [iv a0.Vars,.fsl 2 (List.map c_S_api_Clause a0.Clauses),.fsl 1 (List.map cI a0.Order)],(1,.rows 1 (List.map cI x16))],2⟩ ?_
   refine jr_part (i:=5) (mo:=ixl x16 (w64 (x26 + a0.Vars))) rfl rfl rfl rfl (fun _ hc=>aop_ixo0 (sz:=1) (e:=3) (kk:=.i64) (id:=1) (by kernel_rfl) (by kernel_rfl) (by kernel_rfl) (by kernel_rfl) hc) (fun _=>rfl) ?_
   intro x31 h31
   refine jr_one (i:=6) (v:=iv x31) rfl rfl rfl rfl (aop_ldo (l:=x16) (c:=cI) (id:=1) (k:=(Int.toNat (w64 (x26 + a0.Vars)))) (sz:=1) (off:=0) (a:=x31) (by kernel_rfl) (by kernel_rfl) (ixl_lt h31).2.2 (by kernel_rfl)) rfl ?_
   refine jG 7 1 ⟨[V 1 (pt 0 3),V 5 (.osl 1 0 (List.length x16) 1),V 42 (.fsl 1 (List.map cI a0.Order)),V 43 (iv (List.length a0.Order:Int)),V 44 (iv x17),V 63 (.osl 1 0 (List.length x16) 1),V 67 (iv (w64 (x26 + a0.Vars))),V 70 (iv (w64 (x31 + 1)))],[W 0 3 [iv a0.Vars,.fsl 2 (List.map c_S_api_Clause a0.Clauses),.fsl 1 (List.map cI a0.Order)],(1,.rows 1 (List.map cI x16))],2⟩ ?_
   refine jr_part (i:=8) (mo:=ixl x16 (w64 (x26 + a0.Vars))) rfl rfl rfl rfl (fun _ hc=>aop_ixo0 (sz:=1) (e:=3) (kk:=.i64) (id:=1) (by kernel_rfl) (by kernel_rfl) (by kernel_rfl) (by kernel_rfl) hc) (fun _=>rfl) ?_
   intro x32 h32
   refine jr_sto (i:=9) [1,5,42,43,44] [0,1] (st1:=⟨[V 1 (pt 0 3),V 5 (.osl 1 0 (List.length (List.set x16 (Int.toNat (w64 (x26 + a0.Vars))) (w64 (x31 + 1)))) 1),V 42 (.fsl 1 (List.map cI a0.Order)),V 43 (iv (List.length a0.Order:Int)),V 44 (iv x17)],[W 0 3 [iv a0.Vars,.fsl 2 (List.map c_S_api_Clause a0.Clauses),.fsl 1 (List.map cI a0.Order)],(1,.rows 1 (List.map cI (List.set x16 (Int.toNat (w64 (x26 + a0.Vars))) (w64 (x31 + 1)))))],2⟩) rfl rfl rfl rfl (aop_sto (l:=x16) (c:=cI) (id:=1) (k:=(Int.toNat (w64 (x26 + a0.Vars)))) (sz:=1) (off:=0) (a:=x32) (a':=(w64 (x31 + 1))) (w:=iv (w64 (x31 + 1))) (cs:=[iv (w64 (x31 + 1))]) (by kernel_rfl) (by kernel_rfl) (by kernel_rfl) (by kernel_rfl) (by kernel_rfl) (ixl_lt h32).2.2 (Nat.le_of_ble_eq_true rfl) (by kernel_rfl)) (by simp only[List.length_set]; kernel_rfl) ?_
   refine jr_nil rfl ?_
   refine jx_blkN ?_
   refine jx_seqN ?_
   refine jT ⟨[V 1 (pt 0 3),V 5 (.osl 1 0 (List.length (List.set x16 (Int.toNat (w64 (x26 + a0.Vars))) (w64 (x31 + 1)))) 1),V 42 (.fsl 1 (List.map cI a0.Order)),V 43 (iv (List.length a0.Order:Int)),V 44 (iv (w64 (x17 + 1)))],[W 0 3 [iv a0.Vars,.fsl 2 (List.map c_S_api_Clause a0.Clauses),.fsl 1 (List.map cI a0.Order)],(1,.rows 1 (List.map cI (List.set x16 (Int.toNat (w64 (x26 + a0.Vars))) (w64 (x31 + 1)))))],2⟩ ?_
   exact jx_next (wkR [(0,some 0),(1,some 1)] (fix_nil _) (pc (hC 0) (pc (hL 1 (noid_map ni_I _)) allp_nil)))
  refine jc_exit ?_
  refine jx_seqE ?_
  exact jx_done rfl nofun (wkR [] (fix_nil _) allp_nil)
 rintro (_ | _)
 ·refine jx_blkR ?_
  refine jx_seqR ?_
  exact jx_retF (.inr rfl) (v:=bv false) (by kernel_rfl) rfl (fle_refl _)
 refine jx_blkE ?_
 refine jx_seqN ?_
 refine jS ⟨[V 2 (bv true)],[],0⟩ ?_
 refine jc_ret ?_
 exact jx_retF (.inr rfl) (v:=bv true) (by kernel_rfl) rfl (fle_refl _))
abbrev ref24_Fit_r1:List LO:=[lo 1 (.box 25 (.tmp 0)) 0,lo 2 (.assign (.const (.bool false))) 4]
abbrev ref24_Fit_r2:List LO:=[lo 8 (.fieldAddr 25 (.tmp 1) 0) 0,lo 9 (.load 3 (.tmp 8)) 3,lo 10 (.binOp .lss 3 (.tmp 9) (.const (.int .i64 0)) 3) 4,lm 11 10 4,lg 12 (.fieldAddr 25 (.tmp 1) 0) 0 11 false,lg 13 (.load 3 (.tmp 12)) 3 11 false,lg 14 (.binOp .gtr 3 (.tmp 13) (.const (.int .i64 4096)) 3) 4 11 false,lo 15 (.pick (.tmp 11) (.const (.bool true)) (.tmp 14)) 4,lm 16 15 4,lg 17 (.fieldAddr 25 (.tmp 1) 1) 0 16 false,lg 18 (.load 22 (.tmp 17)) 22 16 false,lg 19 (.call ⟨.builtin .len,#[.tmp 18],#[22]⟩) 3 16 false,lg 20 (.binOp .gtr 3 (.tmp 19) (.const (.int .i64 65536)) 3) 4 16 false,lo 21 (.pick (.tmp 16) (.const (.bool true)) (.tmp 20)) 4]
abbrev ref24_Fit_r3:List LO:=[lo 2 (.assign (.const (.bool false))) 4]
abbrev ref24_Fit_r4:List LO:=[lo 3 (.assign (.const (.int .i64 0))) 3]
abbrev ref24_Fit_r5:List LO:=[lm 22 3 3,lo 23 (.fieldAddr 25 (.tmp 1) 1) 0,lo 24 (.load 22 (.tmp 23)) 22,lo 25 (.call ⟨.builtin .len,#[.tmp 24],#[22]⟩) 3,lo 26 (.binOp .lss 3 (.tmp 22) (.tmp 25) 3) 4]
abbrev ref24_Fit_r6:List LO:=[lo 29 (.fieldAddr 25 (.tmp 1) 1) 0,lo 30 (.load 22 (.tmp 29)) 22,lm 31 3 3,lo 32 (.indexAddr 22 (.tmp 30) (.tmp 31)) 0,lo 33 (.fieldAddr 55 (.tmp 32) 0) 0,lo 34 (.load 23 (.tmp 33)) 23,lo 4 (.assign (.tmp 34)) 23]
abbrev ref24_Fit_r7:List LO:=[lo 5 (.assign (.const (.int .i64 0))) 3]
abbrev ref24_Fit_r8:List LO:=[lm 35 5 3,lm 36 4 23,lo 37 (.call ⟨.builtin .len,#[.tmp 36],#[23]⟩) 3,lo 38 (.binOp .lss 3 (.tmp 35) (.tmp 37) 3) 4]
abbrev ref24_Fit_r9:List LO:=[lm 41 4 23,lm 42 5 3,lo 43 (.indexAddr 23 (.tmp 41) (.tmp 42)) 0,lo 44 (.load 3 (.tmp 43)) 3,lo 45 (.fieldAddr 25 (.tmp 1) 0) 0,lo 46 (.load 3 (.tmp 45)) 3,lo 47 (.call ⟨.value (.func 34),#[.tmp 44,.tmp 46],#[3,3]⟩) 4,lo 48 (.unOp .not 4 (.tmp 47)) 4,lm 49 48 4,lmg 50 5 3 49 false,lg 51 (.binOp .gtr 3 (.tmp 50) (.const (.int .i64 0)) 3) 4 49 false,lmg 52 51 4 49 false,lmg 53 4 23 52 true,lmg 54 5 3 52 true,lg 55 (.binOp .sub 3 (.tmp 54) (.const (.int .i64 1)) 3) 3 52 true,lg 56 (.indexAddr 23 (.tmp 53) (.tmp 55)) 0 52 true,lg 57 (.load 3 (.tmp 56)) 3 52 true,lg 58 (.call ⟨.value (.func 35),#[.tmp 57],#[3]⟩) 3 52 true,lmg 59 4 23 52 true,lmg 60 5 3 52 true,lg 61 (.indexAddr 23 (.tmp 59) (.tmp 60)) 0 52 true,lg 62 (.load 3 (.tmp 61)) 3 52 true,lg 63 (.call ⟨.value (.func 35),#[.tmp 62],#[3]⟩) 3 52 true,lg 64 (.binOp .geq 3 (.tmp 58) (.tmp 63) 3) 4 52 true,lg 65 (.pick (.tmp 52) (.tmp 64) (.const (.bool false))) 4 49 false,lo 66 (.pick (.tmp 49) (.const (.bool true)) (.tmp 65)) 4]
abbrev ref24_Fit_r10:List LO:=[lo 2 (.assign (.const (.bool false))) 4]
abbrev ref24_Fit_r11:List LO:=[lm 39 5 3,lo 40 (.binOp .add 3 (.tmp 39) (.const (.int .i64 1)) 3) 3,lo 5 (.assign (.tmp 40)) 3]
abbrev ref24_Fit_r12:List LO:=[lm 27 3 3,lo 28 (.binOp .add 3 (.tmp 27) (.const (.int .i64 1)) 3) 3,lo 3 (.assign (.tmp 28)) 3]
abbrev ref24_Fit_r13:List LO:=[lo 67 (.fieldAddr 25 (.tmp 1) 0) 0,lo 68 (.load 3 (.tmp 67)) 3,lo 69 (.binOp .mul 3 (.const (.int .i64 2)) (.tmp 68) 3) 3,lo 70 (.binOp .add 3 (.tmp 69) (.const (.int .i64 1)) 3) 3,lo 71 (.makeSlice 63 (.tmp 70) (.tmp 70)) 63,lo 6 (.assign (.tmp 71)) 63]
abbrev ref24_Fit_r14:List LO:=[lo 7 (.assign (.const (.int .i64 0))) 3]
abbrev ref24_Fit_r15:List LO:=[lm 72 7 3,lo 73 (.fieldAddr 25 (.tmp 1) 2) 0,lo 74 (.load 23 (.tmp 73)) 23,lo 75 (.call ⟨.builtin .len,#[.tmp 74],#[23]⟩) 3,lo 76 (.binOp .lss 3 (.tmp 72) (.tmp 75) 3) 4]
abbrev ref24_Fit_r16:List LO:=[lo 79 (.fieldAddr 25 (.tmp 1) 2) 0,lo 80 (.load 23 (.tmp 79)) 23,lm 81 7 3,lo 82 (.indexAddr 23 (.tmp 80) (.tmp 81)) 0,lo 83 (.load 3 (.tmp 82)) 3,lo 84 (.fieldAddr 25 (.tmp 1) 0) 0,lo 85 (.load 3 (.tmp 84)) 3,lo 86 (.call ⟨.value (.func 34),#[.tmp 83,.tmp 85],#[3,3]⟩) 4,lo 87 (.unOp .not 4 (.tmp 86)) 4,lm 88 87 4,lmg 89 6 63 88 false,lg 90 (.fieldAddr 25 (.tmp 1) 2) 0 88 false,lg 91 (.load 23 (.tmp 90)) 23 88 false,lmg 92 7 3 88 false,lg 93 (.indexAddr 23 (.tmp 91) (.tmp 92)) 0 88 false,lg 94 (.load 3 (.tmp 93)) 3 88 false,lg 95 (.fieldAddr 25 (.tmp 1) 0) 0 88 false,lg 96 (.load 3 (.tmp 95)) 3 88 false,lg 97 (.binOp .add 3 (.tmp 94) (.tmp 96) 3) 3 88 false,lg 98 (.indexAddr 63 (.tmp 89) (.tmp 97)) 0 88 false,lg 99 (.load 4 (.tmp 98)) 4 88 false,lo 100 (.pick (.tmp 88) (.const (.bool true)) (.tmp 99)) 4]
abbrev ref24_Fit_r17:List LO:=[lo 2 (.assign (.const (.bool false))) 4]
abbrev ref24_Fit_r18:List LO:=[lm 101 6 63,lo 102 (.fieldAddr 25 (.tmp 1) 2) 0,lo 103 (.load 23 (.tmp 102)) 23,lm 104 7 3,lo 105 (.indexAddr 23 (.tmp 103) (.tmp 104)) 0,lo 106 (.load 3 (.tmp 105)) 3,lo 107 (.fieldAddr 25 (.tmp 1) 0) 0,lo 108 (.load 3 (.tmp 107)) 3,lo 109 (.binOp .add 3 (.tmp 106) (.tmp 108) 3) 3,lo 110 (.indexAddr 63 (.tmp 101) (.tmp 109)) 0,ln (.store 4 (.tmp 110) (.const (.bool true))) 0]
abbrev ref24_Fit_r19:List LO:=[lm 77 7 3,lo 78 (.binOp .add 3 (.tmp 77) (.const (.int .i64 1)) 3) 3,lo 7 (.assign (.tmp 78)) 3]
abbrev ref24_Fit_r20:List LO:=[lo 2 (.assign (.const (.bool true))) 4]
abbrev ref24_Fit_c:LC:=.seq (.reg false ref24_Fit_r1) (.seq (.seq (.reg false ref24_Fit_r2) (.cond (.tmp 21) (.seq (.reg false ref24_Fit_r3) .ret) .skip)) (.seq (.seq (.reg false ref24_Fit_r4) (.block 0 (.loop (.seq (.seq (.reg false ref24_Fit_r5) (.cond (.tmp 26) .skip (.exit 0))) (.seq (.block 1 (.seq (.reg false ref24_Fit_r6) (.seq (.reg false ref24_Fit_r7) (.block 2 (.loop (.seq (.seq (.reg false ref24_Fit_r8) (.cond (.tmp 38) .skip (.exit 2))) (.seq (.block 3 (.seq (.reg true ref24_Fit_r9) (.cond (.tmp 66) (.seq (.reg false ref24_Fit_r10) .ret) .skip))) (.reg false ref24_Fit_r11)))))))) (.reg false ref24_Fit_r12)))))) (.seq (.reg false ref24_Fit_r13) (.seq (.seq (.reg false ref24_Fit_r14) (.block 4 (.loop (.seq (.seq (.reg false ref24_Fit_r15) (.cond (.tmp 76) .skip (.exit 4))) (.seq (.block 5 (.seq (.seq (.reg true ref24_Fit_r16) (.cond (.tmp 100) (.seq (.reg false ref24_Fit_r17) .ret) .skip)) (.reg true ref24_Fit_r18))) (.reg false ref24_Fit_r19)))))) (.seq (.reg false ref24_Fit_r20) .ret)))))
theorem ref24_Fit_k:FnOk E 10 111 [.tmp 2] ref24_Fit_c:=⟨⟨Go.Proofs.Tryd.f10,by kernel_rfl,by kernel_rfl,by kernel_rfl,by kernel_rfl,by kernel_rfl⟩,rfl,rfl⟩
noncomputable def ref24_Fit_l1 (a0:S_api_Formula) (x31:S_api_Clause):Int→Option (Step (Int) ((Unit) ⊕ (Unit))):=fun x35=>(if (decide (x35 < (List.length x31.Lits:Int)))=true then Option.bind (ixl x31.Lits x35) (fun x45=>Option.bind (ref24_good x45 a0.Vars) (fun x46=>Option.bind (if (!x46)=true then some true else Option.bind (if (decide (x35 > 0))=true then Option.bind (ixl x31.Lits (w64 (x35 - 1))) (fun x58=>Option.bind (ref24_abs x58) (fun x59=>Option.bind (ixl x31.Lits x35) (fun x60=>Option.bind (ref24_abs x60) (fun x61=>some (decide (x59≥x61)))))) else some false:Option (Bool)) (fun x57=>some (false || x57)):Option (Bool)) (fun x52=>(if x52=true then some (Step.done (Sum.inl ())) else some (Step.next (w64 (x35 + 1))))))) else some (Step.done (Sum.inr ())))
noncomputable def ref24_Fit_l2 (a0:S_api_Formula):Int→Option (Step (Int) ((Unit) ⊕ (Unit))):=fun x15=>(if (decide (x15 < (List.length a0.Clauses:Int)))=true then Option.bind (ixl a0.Clauses x15) (fun x31=>Option.bind (loopC (ref24_Fit_l1 a0 x31) 0) (fun y=>match y with | Sum.inl _=>some (Step.done (Sum.inl ())) | Sum.inr _=>some (Step.next (w64 (x15 + 1))))) else some (Step.done (Sum.inr ())))
noncomputable def ref24_Fit_l3 (a0:S_api_Formula):(List Bool × Int)→Option (Step (List Bool × Int) ((Unit) ⊕ (Unit))):=fun (x70,x71)=>(if (decide (x71 < (List.length a0.Order:Int)))=true then Option.bind (ixl a0.Order x71) (fun x81=>Option.bind (ref24_good x81 a0.Vars) (fun x82=>Option.bind (if (!x82)=true then some true else Option.bind (ixl a0.Order x71) (fun x86=>Option.bind (ixl x70 (w64 (x86 + a0.Vars))) (fun x87=>some x87)):Option (Bool)) (fun x85=>(if x85=true then some (Step.done (Sum.inl ())) else Option.bind (ixl a0.Order x71) (fun x88=>Option.bind (ixl x70 (w64 (x88 + a0.Vars))) (fun x89=>some (Step.next ((List.set x70 (Int.toNat (w64 (x88 + a0.Vars))) true),(w64 (x71 + 1)))))))))) else some (Step.done (Sum.inr ())))
noncomputable def ref24_Fit (a0:S_api_Formula):Option (Bool):=(if (((decide (a0.Vars < 0)) || (decide (a0.Vars > 4096))) || (decide ((List.length a0.Clauses:Int) > 65536)))=true then some false else Option.bind (loopC (ref24_Fit_l2 a0) 0) (fun y=>match y with | Sum.inl _=>some false | Sum.inr _=>Option.bind (mkl 1 (false:Bool) (w64 ((w64 (2 * a0.Vars)) + 1)) (w64 ((w64 (2 * a0.Vars)) + 1))) (fun x62=>Option.bind (loopC (ref24_Fit_l3 a0) (x62,0)) (fun y=>match y with | Sum.inl _=>some false | Sum.inr _=>some true))))
theorem ref24_Fit_ok (a0:S_api_Formula):Ct E 10 [.agg [iv a0.Vars,.fsl 2 (List.map c_S_api_Clause a0.Clauses),.fsl 1 (List.map cI a0.Order)]] (ref24_Fit a0) (fun r:Bool=>bv r):=ct_intro (N:=111) (L:=ref24_Fit_c) ref24_Fit_k rfl (Nat.le_of_ble_eq_true rfl) (by kernel_rfl) (by
 unfold ref24_Fit
 refine jS ⟨[V 1 (pt 0 3)],[W 0 3 [iv a0.Vars,.fsl 2 (List.map c_S_api_Clause a0.Clauses),.fsl 1 (List.map cI a0.Order)]],1⟩ ?_
 refine jc_seq ?_
 refine jR ?_
 refine jG 0 14 ⟨[V 1 (pt 0 3),V 21 (bv (((decide (a0.Vars < 0)) || (decide (a0.Vars > 4096))) || (decide ((List.length (List.map c_S_api_Clause a0.Clauses):Int) > 65536))))],[W 0 3 [iv a0.Vars,.fsl 2 (List.map c_S_api_Clause a0.Clauses),.fsl 1 (List.map cI a0.Order)]],1⟩ ?_
 simp only[List.length_map]
 refine jN ?_
 refine jIf ?_ ?_
 ·refine jS ⟨[V 2 (bv false)],[],1⟩ ?_
  refine jc_ret ?_
  refine jx_seqR ?_
  exact jx_retF (.inr rfl) (v:=bv false) (by kernel_rfl) rfl (fle_refl _)
 refine jc_skip ?_
 refine jx_seqN ?_
 refine jc_seq ?_
 refine jS ⟨[V 1 (pt 0 3),V 3 (iv 0)],[W 0 3 [iv a0.Vars,.fsl 2 (List.map c_S_api_Clause a0.Clauses),.fsl 1 (List.map cI a0.Order)]],1⟩ ?_
 refine jc_block ?_
 refine jc_bind (fun y=>match y with | Sum.inl _=>⟨[V 2 (bv false)],[],0⟩ | Sum.inr _=>⟨[V 1 (pt 0 3)],[W 0 3 [iv a0.Vars,.fsl 2 (List.map c_S_api_Clause a0.Clauses),.fsl 1 (List.map cI a0.Order)]],1⟩) (fun y=>match y with | Sum.inl _=>.ret | Sum.inr _=>(.exit 0)) (jc_loop (fun x15=>⟨[V 1 (pt 0 3),V 3 (iv x15)],[W 0 3 [iv a0.Vars,.fsl 2 (List.map c_S_api_Clause a0.Clauses),.fsl 1 (List.map cI a0.Order)]],1⟩) (wkR [(0,some 0)] (fix_nil _) (pc (hC 0) allp_nil)) ?_) ?_
 ·intro x15
  unfold ref24_Fit_l2
  refine jc_seq ?_
  refine jR ?_
  refine jG 0 5 ⟨[V 1 (pt 0 3),V 3 (iv x15),V 26 (bv (decide (x15 < (List.length (List.map c_S_api_Clause a0.Clauses):Int))))],[W 0 3 [iv a0.Vars,.fsl 2 (List.map c_S_api_Clause a0.Clauses),.fsl 1 (List.map cI a0.Order)]],1⟩ ?_
  simp only[List.length_map]
  refine jN ?_
  refine jIf ?_ ?_
  ·refine jc_skip ?_
   refine jx_seqN ?_
   refine jc_seq ?_
   refine jc_block ?_
   refine jR ?_
   refine jG 0 3 ⟨[V 1 (pt 0 3),V 3 (iv x15),V 30 (.fsl 2 (List.map c_S_api_Clause a0.Clauses)),V 31 (iv x15)],[W 0 3 [iv a0.Vars,.fsl 2 (List.map c_S_api_Clause a0.Clauses),.fsl 1 (List.map cI a0.Order)]],1⟩ ?_
   refine jr_part (i:=3) (mo:=ixl a0.Clauses x15) rfl rfl rfl rfl (fun _ hc=>aop_ixf (c:=c_S_api_Clause) (sz:=2) (e:=55) (kk:=.i64) (by kernel_rfl) (by kernel_rfl) (by kernel_rfl) (by kernel_rfl) hc) (fun _=>rfl) ?_
   intro x31 h31
   refine jG 4 3 ⟨[V 1 (pt 0 3),V 3 (iv x15),V 4 (.fsl 1 (List.map cI x31.Lits))],[W 0 3 [iv a0.Vars,.fsl 2 (List.map c_S_api_Clause a0.Clauses),.fsl 1 (List.map cI a0.Order)]],1⟩ ?_
   refine jN ?_
   refine jS ⟨[V 1 (pt 0 3),V 3 (iv x15),V 4 (.fsl 1 (List.map cI x31.Lits)),V 5 (iv 0)],[W 0 3 [iv a0.Vars,.fsl 2 (List.map c_S_api_Clause a0.Clauses),.fsl 1 (List.map cI a0.Order)]],1⟩ ?_
   refine jc_block ?_
   refine jc_bind (fun y=>match y with | Sum.inl _=>⟨[V 2 (bv false)],[],0⟩ | Sum.inr _=>⟨[V 1 (pt 0 3),V 3 (iv x15)],[W 0 3 [iv a0.Vars,.fsl 2 (List.map c_S_api_Clause a0.Clauses),.fsl 1 (List.map cI a0.Order)]],1⟩) (fun y=>match y with | Sum.inl _=>.ret | Sum.inr _=>(.exit 2)) (jc_loop (fun x35=>⟨[V 1 (pt 0 3),V 3 (iv x15),V 4 (.fsl 1 (List.map cI x31.Lits)),V 5 (iv x35)],[W 0 3 [iv a0.Vars,.fsl 2 (List.map c_S_api_Clause a0.Clauses),.fsl 1 (List.map cI a0.Order)]],1⟩) (wkR [(0,some 0)] (fix_nil _) (pc (hC 0) allp_nil)) ?_) ?_
   ·intro x35
    unfold ref24_Fit_l1
    refine jc_seq ?_
    refine jR ?_
    refine jG 0 4 ⟨[V 1 (pt 0 3),V 3 (iv x15),V 4 (.fsl 1 (List.map cI x31.Lits)),V 5 (iv x35),V 38 (bv (decide (x35 < (List.length (List.map cI x31.Lits):Int))))],[W 0 3 [iv a0.Vars,.fsl 2 (List.map c_S_api_Clause a0.Clauses),.fsl 1 (List.map cI a0.Order)]],1⟩ ?_
    simp only[List.length_map]
    refine jN ?_
    refine jIf ?_ ?_
    ·refine jc_skip ?_
     refine jx_seqN ?_
     refine jc_seq ?_
     refine jc_block ?_
     refine jR ?_
     refine jG 0 2 ⟨[V 1 (pt 0 3),V 3 (iv x15),V 4 (.fsl 1 (List.map cI x31.Lits)),V 5 (iv x35),V 41 (.fsl 1 (List.map cI x31.Lits)),V 42 (iv x35)],[W 0 3 [iv a0.Vars,.fsl 2 (List.map c_S_api_Clause a0.Clauses),.fsl 1 (List.map cI a0.Order)]],1⟩ ?_
     refine jr_part (i:=2) (mo:=ixl x31.Lits x35) rfl rfl rfl rfl (fun _ hc=>aop_ixf (c:=cI) (sz:=1) (e:=3) (kk:=.i64) (by kernel_rfl) (by kernel_rfl) (by kernel_rfl) (by kernel_rfl) hc) (fun _=>rfl) ?_
     intro x45 h45
     refine jG 3 3 ⟨[V 1 (pt 0 3),V 3 (iv x15),V 4 (.fsl 1 (List.map cI x31.Lits)),V 5 (iv x35),V 44 (iv x45),V 46 (iv a0.Vars)],[W 0 3 [iv a0.Vars,.fsl 2 (List.map c_S_api_Clause a0.Clauses),.fsl 1 (List.map cI a0.Order)]],1⟩ ?_
     refine jK 6 (ref24_good_ok x45 a0.Vars) ?_
     intro x46 h46
     refine jG 7 2 ⟨[V 1 (pt 0 3),V 3 (iv x15),V 4 (.fsl 1 (List.map cI x31.Lits)),V 5 (iv x35),V 49 (bv (!x46))],[W 0 3 [iv a0.Vars,.fsl 2 (List.map c_S_api_Clause a0.Clauses),.fsl 1 (List.map cI a0.Order)]],1⟩ ?_
     refine jr_bind 9 17 (fun x52=>⟨[V 1 (pt 0 3),V 3 (iv x15),V 4 (.fsl 1 (List.map cI x31.Lits)),V 5 (iv x35),V 66 (bv x52)],[W 0 3 [iv a0.Vars,.fsl 2 (List.map c_S_api_Clause a0.Clauses),.fsl 1 (List.map cI a0.Order)]],1⟩) ?_ ?_
     ·refine jSp 49 ?_ ?_
      ·refine jG 0 17 ⟨[V 1 (pt 0 3),V 3 (iv x15),V 4 (.fsl 1 (List.map cI x31.Lits)),V 5 (iv x35),V 66 (bv true)],[W 0 3 [iv a0.Vars,.fsl 2 (List.map c_S_api_Clause a0.Clauses),.fsl 1 (List.map cI a0.Order)]],1⟩ ?_
       refine jr_nil rfl ?_
       exact jx_mid rfl (wkR [(0,some 0)] (fix_nil _) (pc (hC 0) allp_nil))
      refine jG 0 3 ⟨[V 1 (pt 0 3),V 3 (iv x15),V 4 (.fsl 1 (List.map cI x31.Lits)),V 5 (iv x35),(49,.lit false),V 52 (bv (decide (x35 > 0)))],[W 0 3 [iv a0.Vars,.fsl 2 (List.map c_S_api_Clause a0.Clauses),.fsl 1 (List.map cI a0.Order)]],1⟩ ?_
      refine jr_bind 3 13 (fun x57=>⟨[V 1 (pt 0 3),V 3 (iv x15),V 4 (.fsl 1 (List.map cI x31.Lits)),V 5 (iv x35),V 49 (bv false),V 65 (bv x57)],[W 0 3 [iv a0.Vars,.fsl 2 (List.map c_S_api_Clause a0.Clauses),.fsl 1 (List.map cI a0.Order)]],1⟩) ?_ ?_
      ·refine jSp 52 ?_ ?_
       ·refine jG 0 3 ⟨[V 1 (pt 0 3),V 3 (iv x15),V 4 (.fsl 1 (List.map cI x31.Lits)),V 5 (iv x35),(49,.lit false),(52,.lit true),V 53 (.fsl 1 (List.map cI x31.Lits)),V 55 (iv (w64 (x35 - 1)))],[W 0 3 [iv a0.Vars,.fsl 2 (List.map c_S_api_Clause a0.Clauses),.fsl 1 (List.map cI a0.Order)]],1⟩ ?_
        refine jr_part (i:=3) (mo:=ixl x31.Lits (w64 (x35 - 1))) rfl rfl rfl rfl (fun _ hc=>aop_ixf (c:=cI) (sz:=1) (e:=3) (kk:=.i64) (by kernel_rfl) (by kernel_rfl) (by kernel_rfl) (by kernel_rfl) hc) (fun _=>rfl) ?_
        intro x58 h58
        refine jG 4 1 ⟨[V 1 (pt 0 3),V 3 (iv x15),V 4 (.fsl 1 (List.map cI x31.Lits)),V 5 (iv x35),(49,.lit false),(52,.lit true),V 57 (iv x58)],[W 0 3 [iv a0.Vars,.fsl 2 (List.map c_S_api_Clause a0.Clauses),.fsl 1 (List.map cI a0.Order)]],1⟩ ?_
        refine jK 5 (ref24_abs_ok x58) ?_
        intro x59 h59
        refine jG 6 2 ⟨[V 1 (pt 0 3),V 3 (iv x15),V 4 (.fsl 1 (List.map cI x31.Lits)),V 5 (iv x35),(49,.lit false),(52,.lit true),V 58 (iv x59),V 59 (.fsl 1 (List.map cI x31.Lits)),V 60 (iv x35)],[W 0 3 [iv a0.Vars,.fsl 2 (List.map c_S_api_Clause a0.Clauses),.fsl 1 (List.map cI a0.Order)]],1⟩ ?_
        refine jr_part (i:=8) (mo:=ixl x31.Lits x35) rfl rfl rfl rfl (fun _ hc=>aop_ixf (c:=cI) (sz:=1) (e:=3) (kk:=.i64) (by kernel_rfl) (by kernel_rfl) (by kernel_rfl) (by kernel_rfl) hc) (fun _=>rfl) ?_
        intro x60 h60
        refine jG 9 1 ⟨[V 1 (pt 0 3),V 3 (iv x15),V 4 (.fsl 1 (List.map cI x31.Lits)),V 5 (iv x35),(49,.lit false),(52,.lit true),V 58 (iv x59),V 62 (iv x60)],[W 0 3 [iv a0.Vars,.fsl 2 (List.map c_S_api_Clause a0.Clauses),.fsl 1 (List.map cI a0.Order)]],1⟩ ?_
        refine jK 10 (ref24_abs_ok x60) ?_
        intro x61 h61
        refine jG 11 2 ⟨[V 1 (pt 0 3),V 3 (iv x15),V 4 (.fsl 1 (List.map cI x31.Lits)),V 5 (iv x35),(49,.lit false),V 65 (bv (decide (x59≥x61)))],[W 0 3 [iv a0.Vars,.fsl 2 (List.map c_S_api_Clause a0.Clauses),.fsl 1 (List.map cI a0.Order)]],1⟩ ?_
        refine jr_nil rfl ?_
        exact jx_mid rfl (wkR [(0,some 0)] (fix_nil _) (pc (hC 0) allp_nil))
       refine jG 0 13 ⟨[V 1 (pt 0 3),V 3 (iv x15),V 4 (.fsl 1 (List.map cI x31.Lits)),V 5 (iv x35),(49,.lit false),V 65 (bv false)],[W 0 3 [iv a0.Vars,.fsl 2 (List.map c_S_api_Clause a0.Clauses),.fsl 1 (List.map cI a0.Order)]],1⟩ ?_
       refine jr_nil rfl ?_
       exact jx_mid rfl (wkR [(0,some 0)] (fix_nil _) (pc (hC 0) allp_nil))
      intro x57
      refine jG 16 1 ⟨[V 1 (pt 0 3),V 3 (iv x15),V 4 (.fsl 1 (List.map cI x31.Lits)),V 5 (iv x35),V 66 (bv (false || x57))],[W 0 3 [iv a0.Vars,.fsl 2 (List.map c_S_api_Clause a0.Clauses),.fsl 1 (List.map cI a0.Order)]],1⟩ ?_
      refine jr_nil rfl ?_
      exact jx_mid rfl (wkR [(0,some 0)] (fix_nil _) (pc (hC 0) allp_nil))
     intro x52
     refine jN ?_
     refine jIf ?_ ?_
     ·refine jS ⟨[V 2 (bv false)],[],1⟩ ?_
      refine jc_ret ?_
      refine jx_blkR ?_
      refine jx_seqR ?_
      exact jx_done rfl nofun (wkR [] (fix_nil _) allp_nil)
     refine jc_skip ?_
     refine jx_blkN ?_
     refine jx_seqN ?_
     refine jT ⟨[V 1 (pt 0 3),V 3 (iv x15),V 4 (.fsl 1 (List.map cI x31.Lits)),V 5 (iv (w64 (x35 + 1)))],[W 0 3 [iv a0.Vars,.fsl 2 (List.map c_S_api_Clause a0.Clauses),.fsl 1 (List.map cI a0.Order)]],1⟩ ?_
     exact jx_next (wkR [(0,some 0)] (fix_nil _) (pc (hC 0) allp_nil))
    refine jc_exit ?_
    refine jx_seqE ?_
    exact jx_done rfl nofun (wkR [(0,some 0)] (fix_nil _) (pc (hC 0) allp_nil))
   rintro (_ | _)
   ·refine jx_blkR ?_
    refine jx_blkR ?_
    refine jx_seqR ?_
    exact jx_done rfl nofun (wkR [] (fix_nil _) allp_nil)
   refine jx_blkE ?_
   refine jx_blkN ?_
   refine jx_seqN ?_
   refine jT ⟨[V 1 (pt 0 3),V 3 (iv (w64 (x15 + 1)))],[W 0 3 [iv a0.Vars,.fsl 2 (List.map c_S_api_Clause a0.Clauses),.fsl 1 (List.map cI a0.Order)]],1⟩ ?_
   exact jx_next (wkR [(0,some 0)] (fix_nil _) (pc (hC 0) allp_nil))
  refine jc_exit ?_
  refine jx_seqE ?_
  exact jx_done rfl nofun (wkR [(0,some 0)] (fix_nil _) (pc (hC 0) allp_nil))
 rintro (_ | _)
 ·refine jx_blkR ?_
  refine jx_seqR ?_
  exact jx_retF (.inr rfl) (v:=bv false) (by kernel_rfl) rfl (fle_refl _)
 refine jx_blkE ?_
 refine jx_seqN ?_
 refine jR ?_
 refine jG 0 4 ⟨[V 1 (pt 0 3),V 70 (iv (w64 ((w64 (2 * a0.Vars)) + 1)))],[W 0 3 [iv a0.Vars,.fsl 2 (List.map c_S_api_Clause a0.Clauses),.fsl 1 (List.map cI a0.Order)]],1⟩ ?_
 refine jr_part (i:=4) (mo:=mkl 1 (false:Bool) (w64 ((w64 (2 * a0.Vars)) + 1)) (w64 ((w64 (2 * a0.Vars)) + 1))) rfl rfl rfl rfl (fun _ hc=>aop_mks (e:=4) (sz:=1) (b:=1) (cc:=cT) (kk:=.i64) (kc:=.i64) (by kernel_rfl) (by kernel_rfl) (by kernel_rfl) (by kernel_rfl) (by kernel_rfl) hc) (fun _=>rfl) ?_
 intro x62 h62
 refine jG 5 1 ⟨[V 1 (pt 0 3),V 6 (.osl 1 0 (List.length x62) 1)],[W 0 3 [iv a0.Vars,.fsl 2 (List.map c_S_api_Clause a0.Clauses),.fsl 1 (List.map cI a0.Order)],(1,.rows 1 (List.map cT x62))],2⟩ ?_
 refine jN ?_
 refine jc_seq ?_
 refine jS ⟨[V 1 (pt 0 3),V 6 (.osl 1 0 (List.length x62) 1),V 7 (iv 0)],[W 0 3 [iv a0.Vars,.fsl 2 (List.map c_S_api_Clause a0.Clauses),.fsl 1 (List.map cI a0.Order)],(1,.rows 1 (List.map cT x62))],2⟩ ?_
 refine jc_block ?_
 refine jc_bind (fun y=>match y with | Sum.inl _=>⟨[V 2 (bv false)],[],0⟩ | Sum.inr _=>⟨[],[],0⟩) (fun y=>match y with | Sum.inl _=>.ret | Sum.inr _=>(.exit 4)) (jc_loop (fun (x70,x71)=>⟨[V 1 (pt 0 3),V 6 (.osl 1 0 (List.length x70) 1),V 7 (iv x71)],[W 0 3 [iv a0.Vars,.fsl 2 (List.map c_S_api_Clause a0.Clauses),.fsl 1 (List.map cI a0.Order)],(1,.rows 1 (List.map cT x70))],2⟩) (wkR [(0,some 0),(1,some 1)] (fix_nil _) (pc (hC 0) (pc (hL 1 (noid_map ni_T _)) allp_nil))) ?_) ?_
 ·rintro⟨x70,x71⟩
  unfold ref24_Fit_l3
  refine jc_seq ?_
  refine jR ?_
  refine jG 0 5 ⟨[V 1 (pt 0 3),V 6 (.osl 1 0 (List.length x70) 1),V 7 (iv x71),V 76 (bv (decide (x71 < (List.length (List.map cI a0.Order):Int))))],[W 0 3 [iv a0.Vars,.fsl 2 (List.map c_S_api_Clause a0.Clauses),.fsl 1 (List.map cI a0.Order)],(1,.rows 1 (List.map cT x70))],2⟩ ?_
  simp only[List.length_map]
  refine jN ?_
  refine jIf ?_ ?_
  ·refine jc_skip ?_
   refine jx_seqN ?_
   refine jc_seq ?_
   refine jc_block ?_
   refine jc_seq ?_
   refine jR ?_
   refine jG 0 3 ⟨[V 1 (pt 0 3),V 6 (.osl 1 0 (List.length x70) 1),V 7 (iv x71),V 80 (.fsl 1 (List.map cI a0.Order)),V 81 (iv x71)],[W 0 3 [iv a0.Vars,.fsl 2 (List.map c_S_api_Clause a0.Clauses),.fsl 1 (List.map cI a0.Order)],(1,.rows 1 (List.map cT x70))],2⟩ ?_
   refine jr_part (i:=3) (mo:=ixl a0.Order x71) rfl rfl rfl rfl (fun _ hc=>aop_ixf (c:=cI) (sz:=1) (e:=3) (kk:=.i64) (by kernel_rfl) (by kernel_rfl) (by kernel_rfl) (by kernel_rfl) hc) (fun _=>rfl) ?_
   intro x81 h81
   refine jG 4 3 ⟨[V 1 (pt 0 3),V 6 (.osl 1 0 (List.length x70) 1),V 7 (iv x71),V 83 (iv x81),V 85 (iv a0.Vars)],[W 0 3 [iv a0.Vars,.fsl 2 (List.map c_S_api_Clause a0.Clauses),.fsl 1 (List.map cI a0.Order)],(1,.rows 1 (List.map cT x70))],2⟩ ?_
   refine jK 7 (ref24_good_ok x81 a0.Vars) ?_
   intro x82 h82
   refine jG 8 2 ⟨[V 1 (pt 0 3),V 6 (.osl 1 0 (List.length x70) 1),V 7 (iv x71),V 88 (bv (!x82))],[W 0 3 [iv a0.Vars,.fsl 2 (List.map c_S_api_Clause a0.Clauses),.fsl 1 (List.map cI a0.Order)],(1,.rows 1 (List.map cT x70))],2⟩ ?_
   refine jr_bind 10 12 (fun x85=>⟨[V 1 (pt 0 3),V 6 (.osl 1 0 (List.length x70) 1),V 7 (iv x71),V 100 (bv x85)],[W 0 3 [iv a0.Vars,.fsl 2 (List.map c_S_api_Clause a0.Clauses),.fsl 1 (List.map cI a0.Order)],(1,.rows 1 (List.map cT x70))],2⟩) ?_ ?_
   ·refine jSp 88 ?_ ?_
    ·refine jG 0 12 ⟨[V 1 (pt 0 3),V 6 (.osl 1 0 (List.length x70) 1),V 7 (iv x71),V 100 (bv true)],[W 0 3 [iv a0.Vars,.fsl 2 (List.map c_S_api_Clause a0.Clauses),.fsl 1 (List.map cI a0.Order)],(1,.rows 1 (List.map cT x70))],2⟩ ?_
     refine jr_nil rfl ?_
     exact jx_mid rfl (wkR [(0,some 0),(1,some 1)] (fix_nil _) (pc (hC 0) (pc (hL 1 (noid_map ni_T _)) allp_nil)))
    refine jG 0 4 ⟨[V 1 (pt 0 3),V 6 (.osl 1 0 (List.length x70) 1),V 7 (iv x71),(88,.lit false),V 89 (.osl 1 0 (List.length x70) 1),V 91 (.fsl 1 (List.map cI a0.Order)),V 92 (iv x71)],[W 0 3 [iv a0.Vars,.fsl 2 (List.map c_S_api_Clause a0.Clauses),.fsl 1 (List.map cI a0.Order)],(1,.rows 1 (List.map cT x70))],2⟩ ?_
    refine jr_part (i:=4) (mo:=ixl a0.Order x71) rfl rfl rfl rfl (fun _ hc=>aop_ixf (c:=cI) (sz:=1) (e:=3) (kk:=.i64) (by kernel_rfl) (by kernel_rfl) (by kernel_rfl) (by kernel_rfl) hc) (fun _=>rfl) ?_
    intro x86 h86
    refine jG 5 4 ⟨[V 1 (pt 0 3),V 6 (.osl 1 0 (List.length x70) 1),V 7 (iv x71),(88,.lit false),V 89 (.osl 1 0 (List.length x70) 1),V 97 (iv (w64 (x86 + a0.Vars)))],[W 0 3 [iv a0.Vars,.fsl 2 (List.map c_S_api_Clause a0.Clauses),.fsl 1 (List.map cI a0.Order)],(1,.rows 1 (List.map cT x70))],2⟩ ?_
    refine jr_part (i:=9) (mo:=ixl x70 (w64 (x86 + a0.Vars))) rfl rfl rfl rfl (fun _ hc=>aop_ixo0 (sz:=1) (e:=4) (kk:=.i64) (id:=1) (by kernel_rfl) (by kernel_rfl) (by kernel_rfl) (by kernel_rfl) hc) (fun _=>rfl) ?_
    intro x87 h87
    refine jr_one (i:=10) (v:=bv x87) rfl rfl rfl rfl (aop_ldo (l:=x70) (c:=cT) (id:=1) (k:=(Int.toNat (w64 (x86 + a0.Vars)))) (sz:=1) (off:=0) (a:=x87) (by kernel_rfl) (by kernel_rfl) (ixl_lt h87).2.2 (by kernel_rfl)) rfl ?_
    refine jG 11 1 ⟨[V 1 (pt 0 3),V 6 (.osl 1 0 (List.length x70) 1),V 7 (iv x71),V 100 (bv x87)],[W 0 3 [iv a0.Vars,.fsl 2 (List.map c_S_api_Clause a0.Clauses),.fsl 1 (List.map cI a0.Order)],(1,.rows 1 (List.map cT x70))],2⟩ ?_
    refine jr_nil rfl ?_
    exact jx_mid rfl (wkR [(0,some 0),(1,some 1)] (fix_nil _) (pc (hC 0) (pc (hL 1 (noid_map ni_T _)) allp_nil)))
   intro x85
   refine jN ?_
   refine jIf ?_ ?_
   ·refine jS ⟨[V 2 (bv false)],[],2⟩ ?_
    refine jc_ret ?_
    refine jx_seqR ?_
    refine jx_blkR ?_
    refine jx_seqR ?_
    exact jx_done rfl nofun (wkR [] (fix_nil _) allp_nil)
   refine jc_skip ?_
   refine jx_seqN ?_
   refine jc_reg ?_
   refine jG 0 4 ⟨[V 1 (pt 0 3),V 6 (.osl 1 0 (List.length x70) 1),V 7 (iv x71),V 101 (.osl 1 0 (List.length x70) 1),V 103 (.fsl 1 (List.map cI a0.Order)),V 104 (iv x71)],[W 0 3 [iv a0.Vars,.fsl 2 (List.map c_S_api_Clause a0.Clauses),.fsl 1 (List.map cI a0.Order)],(1,.rows 1 (List.map cT x70))],2⟩ ?_
   refine jr_part (i:=4) (mo:=ixl a0.Order x71) rfl rfl rfl rfl (fun _ hc=>aop_ixf (c:=cI) (sz:=1) (e:=3) (kk:=.i64) (by kernel_rfl) (by kernel_rfl) (by kernel_rfl) (by kernel_rfl) hc) (fun _=>rfl) ?_
   intro x88 h88
   refine jG 5 4 ⟨[V 1 (pt 0 3),V 6 (.osl 1 0 (List.length x70) 1),V 7 (iv x71),V 101 (.osl 1 0 (List.length x70) 1),V 109 (iv (w64 (x88 + a0.Vars)))],[W 0 3 [iv a0.Vars,.fsl 2 (List.map c_S_api_Clause a0.Clauses),.fsl 1 (List.map cI a0.Order)],(1,.rows 1 (List.map cT x70))],2⟩ ?_
   refine jr_part (i:=9) (mo:=ixl x70 (w64 (x88 + a0.Vars))) rfl rfl rfl rfl (fun _ hc=>aop_ixo0 (sz:=1) (e:=4) (kk:=.i64) (id:=1) (by kernel_rfl) (by kernel_rfl) (by kernel_rfl) (by kernel_rfl) hc) (fun _=>rfl) ?_
   intro x89 h89
   refine jr_sto (i:=10) [1,6,7] [0,1] (st1:=⟨[V 1 (pt 0 3),V 6 (.osl 1 0 (List.length (List.set x70 (Int.toNat (w64 (x88 + a0.Vars))) true)) 1),V 7 (iv x71)],[W 0 3 [iv a0.Vars,.fsl 2 (List.map c_S_api_Clause a0.Clauses),.fsl 1 (List.map cI a0.Order)],(1,.rows 1 (List.map cT (List.set x70 (Int.toNat (w64 (x88 + a0.Vars))) true)))],2⟩) rfl rfl rfl rfl (aop_sto (l:=x70) (c:=cT) (id:=1) (k:=(Int.toNat (w64 (x88 + a0.Vars)))) (sz:=1) (off:=0) (a:=x89) (a':=true) (w:=bv true) (cs:=[bv true]) (by kernel_rfl) (by kernel_rfl) (by kernel_rfl) (by kernel_rfl) (by kernel_rfl) (ixl_lt h89).2.2 (Nat.le_of_ble_eq_true rfl) (by kernel_rfl)) (by simp only[List.length_set]; kernel_rfl) ?_
   refine jr_nil rfl ?_
   refine jx_blkN ?_
   refine jx_seqN ?_
   refine jT ⟨[V 1 (pt 0 3),V 6 (.osl 1 0 (List.length (List.set x70 (Int.toNat (w64 (x88 + a0.Vars))) true)) 1),V 7 (iv (w64 (x71 + 1)))],[W 0 3 [iv a0.Vars,.fsl 2 (List.map c_S_api_Clause a0.Clauses),.fsl 1 (List.map cI a0.Order)],(1,.rows 1 (List.map cT (List.set x70 (Int.toNat (w64 (x88 + a0.Vars))) true)))],2⟩ ?_
   exact jx_next (wkR [(0,some 0),(1,some 1)] (fix_nil _) (pc (hC 0) (pc (hL 1 (noid_map ni_T _)) allp_nil)))
  refine jc_exit ?_
  refine jx_seqE ?_
  exact jx_done rfl nofun (wkR [] (fix_nil _) allp_nil)
 rintro (_ | _)
 ·refine jx_blkR ?_
  refine jx_seqR ?_
  exact jx_retF (.inr rfl) (v:=bv false) (by kernel_rfl) rfl (fle_refl _)
 refine jx_blkE ?_
 refine jx_seqN ?_
 refine jS ⟨[V 2 (bv true)],[],0⟩ ?_
 refine jc_ret ?_
 exact jx_retF (.inr rfl) (v:=bv true) (by kernel_rfl) rfl (fle_refl _))
abbrev ref24_Ints_r1:List LO:=[lo 4 (.assign (.const (.bool false))) 4]
abbrev ref24_Ints_r2:List LO:=[lm 6 0 23,lo 7 (.call ⟨.builtin .len,#[.tmp 6],#[23]⟩) 3,lm 8 1 23,lo 9 (.call ⟨.builtin .len,#[.tmp 8],#[23]⟩) 3,lo 10 (.binOp .neq 3 (.tmp 7) (.tmp 9) 3) 4]
abbrev ref24_Ints_r3:List LO:=[lo 4 (.assign (.const (.bool false))) 4]
abbrev ref24_Ints_r4:List LO:=[lo 5 (.assign (.const (.int .i64 0))) 3]
abbrev ref24_Ints_r5:List LO:=[lm 11 5 3,lm 12 0 23,lo 13 (.call ⟨.builtin .len,#[.tmp 12],#[23]⟩) 3,lo 14 (.binOp .lss 3 (.tmp 11) (.tmp 13) 3) 4]
abbrev ref24_Ints_r6:List LO:=[lm 17 0 23,lm 18 5 3,lo 19 (.indexAddr 23 (.tmp 17) (.tmp 18)) 0,lo 20 (.load 3 (.tmp 19)) 3,lm 21 1 23,lm 22 5 3,lo 23 (.indexAddr 23 (.tmp 21) (.tmp 22)) 0,lo 24 (.load 3 (.tmp 23)) 3,lo 25 (.binOp .neq 3 (.tmp 20) (.tmp 24) 3) 4]
abbrev ref24_Ints_r7:List LO:=[lo 4 (.assign (.const (.bool false))) 4]
abbrev ref24_Ints_r8:List LO:=[lm 15 5 3,lo 16 (.binOp .add 3 (.tmp 15) (.const (.int .i64 1)) 3) 3,lo 5 (.assign (.tmp 16)) 3]
abbrev ref24_Ints_r9:List LO:=[lo 4 (.assign (.const (.bool true))) 4]
abbrev ref24_Ints_c:LC:=.seq (.reg false ref24_Ints_r1) (.seq (.seq (.reg false ref24_Ints_r2) (.cond (.tmp 10) (.seq (.reg false ref24_Ints_r3) .ret) .skip)) (.seq (.seq (.reg false ref24_Ints_r4) (.block 0 (.loop (.seq (.seq (.reg false ref24_Ints_r5) (.cond (.tmp 14) .skip (.exit 0))) (.seq (.block 1 (.seq (.reg true ref24_Ints_r6) (.cond (.tmp 25) (.seq (.reg false ref24_Ints_r7) .ret) .skip))) (.reg false ref24_Ints_r8)))))) (.seq (.reg false ref24_Ints_r9) .ret)))
theorem ref24_Ints_k:FnOk E 11 26 [.tmp 4] ref24_Ints_c:=⟨⟨Go.Proofs.Tryd.f11,by kernel_rfl,by kernel_rfl,by kernel_rfl,by kernel_rfl,by kernel_rfl⟩,rfl,rfl⟩
noncomputable def ref24_Ints_l1 (a0:(List Int)) (a1:(List Int)):Int→Option (Step (Int) ((Unit) ⊕ (Unit))):=fun x3=>(if (decide (x3 < (List.length a0:Int)))=true then Option.bind (ixl a0 x3) (fun x7=>Option.bind (ixl a1 x3) (fun x8=>(if (x7 != x8)=true then some (Step.done (Sum.inl ())) else some (Step.next (w64 (x3 + 1)))))) else some (Step.done (Sum.inr ())))
noncomputable def ref24_Ints (a0:(List Int)) (a1:(List Int)):Option (Bool):=(if ((List.length a0:Int) != (List.length a1:Int))=true then some false else Option.bind (loopC (ref24_Ints_l1 a0 a1) 0) (fun y=>match y with | Sum.inl _=>some false | Sum.inr _=>some true))
theorem ref24_Ints_ok (a0:(List Int)) (a1:(List Int)):Ct E 11 [.fsl 1 (List.map cI a0),.fsl 1 (List.map cI a1)] (ref24_Ints a0 a1) (fun r:Bool=>bv r):=ct_intro (N:=26) (L:=ref24_Ints_c) ref24_Ints_k rfl (Nat.le_of_ble_eq_true rfl) (by kernel_rfl) (by
 unfold ref24_Ints
 refine jS ⟨[V 0 (.fsl 1 (List.map cI a0)),V 1 (.fsl 1 (List.map cI a1))],[],0⟩ ?_
 refine jc_seq ?_
 refine jR ?_
 refine jG 0 5 ⟨[V 0 (.fsl 1 (List.map cI a0)),V 1 (.fsl 1 (List.map cI a1)),V 10 (bv ((List.length (List.map cI a0):Int) != (List.length (List.map cI a1):Int)))],[],0⟩ ?_
 simp only[List.length_map]
 refine jN ?_
 refine jIf ?_ ?_
 ·refine jS ⟨[V 4 (bv false)],[],0⟩ ?_
  refine jc_ret ?_
  refine jx_seqR ?_
  exact jx_retF (.inr rfl) (v:=bv false) (by kernel_rfl) rfl (fle_refl _)
 refine jc_skip ?_
 refine jx_seqN ?_
 refine jc_seq ?_
 refine jS ⟨[V 0 (.fsl 1 (List.map cI a0)),V 1 (.fsl 1 (List.map cI a1)),V 5 (iv 0)],[],0⟩ ?_
 refine jc_block ?_
 refine jc_bind (fun y=>match y with | Sum.inl _=>⟨[V 4 (bv false)],[],0⟩ | Sum.inr _=>⟨[],[],0⟩) (fun y=>match y with | Sum.inl _=>.ret | Sum.inr _=>(.exit 0)) (jc_loop (fun x3=>⟨[V 0 (.fsl 1 (List.map cI a0)),V 1 (.fsl 1 (List.map cI a1)),V 5 (iv x3)],[],0⟩) (wkR [] (fix_nil _) allp_nil) ?_) ?_
 ·intro x3
  unfold ref24_Ints_l1
  refine jc_seq ?_
  refine jR ?_
  refine jG 0 4 ⟨[V 0 (.fsl 1 (List.map cI a0)),V 1 (.fsl 1 (List.map cI a1)),V 5 (iv x3),V 14 (bv (decide (x3 < (List.length (List.map cI a0):Int))))],[],0⟩ ?_
  simp only[List.length_map]
  refine jN ?_
  refine jIf ?_ ?_
  ·refine jc_skip ?_
   refine jx_seqN ?_
   refine jc_seq ?_
   refine jc_block ?_
   refine jR ?_
   refine jG 0 2 ⟨[V 0 (.fsl 1 (List.map cI a0)),V 1 (.fsl 1 (List.map cI a1)),V 5 (iv x3),V 17 (.fsl 1 (List.map cI a0)),V 18 (iv x3)],[],0⟩ ?_
   refine jr_part (i:=2) (mo:=ixl a0 x3) rfl rfl rfl rfl (fun _ hc=>aop_ixf (c:=cI) (sz:=1) (e:=3) (kk:=.i64) (by kernel_rfl) (by kernel_rfl) (by kernel_rfl) (by kernel_rfl) hc) (fun _=>rfl) ?_
   intro x7 h7
   refine jG 3 3 ⟨[V 0 (.fsl 1 (List.map cI a0)),V 1 (.fsl 1 (List.map cI a1)),V 5 (iv x3),V 20 (iv x7),V 21 (.fsl 1 (List.map cI a1)),V 22 (iv x3)],[],0⟩ ?_
   refine jr_part (i:=6) (mo:=ixl a1 x3) rfl rfl rfl rfl (fun _ hc=>aop_ixf (c:=cI) (sz:=1) (e:=3) (kk:=.i64) (by kernel_rfl) (by kernel_rfl) (by kernel_rfl) (by kernel_rfl) hc) (fun _=>rfl) ?_
   intro x8 h8
   refine jG 7 2 ⟨[V 0 (.fsl 1 (List.map cI a0)),V 1 (.fsl 1 (List.map cI a1)),V 5 (iv x3),V 25 (bv (x7 != x8))],[],0⟩ ?_
   refine jN ?_
   refine jIf ?_ ?_
   ·refine jS ⟨[V 4 (bv false)],[],0⟩ ?_
    refine jc_ret ?_
    refine jx_blkR ?_
    refine jx_seqR ?_
    exact jx_done rfl nofun (wkR [] (fix_nil _) allp_nil)
   refine jc_skip ?_
   refine jx_blkN ?_
   refine jx_seqN ?_
   refine jT ⟨[V 0 (.fsl 1 (List.map cI a0)),V 1 (.fsl 1 (List.map cI a1)),V 5 (iv (w64 (x3 + 1)))],[],0⟩ ?_
   exact jx_next (wkR [] (fix_nil _) allp_nil)
  refine jc_exit ?_
  refine jx_seqE ?_
  exact jx_done rfl nofun (wkR [] (fix_nil _) allp_nil)
 rintro (_ | _)
 ·refine jx_blkR ?_
  refine jx_seqR ?_
  exact jx_retF (.inr rfl) (v:=bv false) (by kernel_rfl) rfl (fle_refl _)
 refine jx_blkE ?_
 refine jx_seqN ?_
 refine jS ⟨[V 4 (bv true)],[],0⟩ ?_
 refine jc_ret ?_
 exact jx_retF (.inr rfl) (v:=bv true) (by kernel_rfl) rfl (fle_refl _))
abbrev cnf_Dimacs_r1:List LO:=[lo 1 (.box 25 (.tmp 0)) 0,lo 2 (.assign (.const (.string ⟨#[]⟩))) 9]
abbrev cnf_Dimacs_r2:List LO:=[lo 10 (.load 25 (.tmp 1)) 25,lo 11 (.call ⟨.value (.func 9),#[.tmp 10],#[25]⟩) 4,lo 12 (.unOp .not 4 (.tmp 11)) 4]
abbrev cnf_Dimacs_r3:List LO:=[lo 2 (.assign (.const (.string ⟨#[]⟩))) 9]
abbrev cnf_Dimacs_r4:List LO:=[lo 3 (.alloc 83) 0]
abbrev cnf_Dimacs_r5:List LO:=[lo 13 (.fieldAddr 25 (.tmp 1) 0) 0,lo 14 (.load 3 (.tmp 13)) 3,lo 15 (.call ⟨.value (.func 54),#[.tmp 14],#[3]⟩) 9,lo 16 (.binOp .add 9 (.const (.string ⟨#[112,32,99,110,102,32]⟩)) (.tmp 15) 9) 9,lo 17 (.binOp .add 9 (.tmp 16) (.const (.string ⟨#[32]⟩)) 9) 9,lo 18 (.fieldAddr 25 (.tmp 1) 1) 0,lo 19 (.load 22 (.tmp 18)) 22,lo 20 (.call ⟨.builtin .len,#[.tmp 19],#[22]⟩) 3,lo 21 (.call ⟨.value (.func 54),#[.tmp 20],#[3]⟩) 9,lo 22 (.binOp .add 9 (.tmp 17) (.tmp 21) 9) 9,lo 23 (.binOp .add 9 (.tmp 22) (.const (.string ⟨#[10]⟩)) 9) 9,lo 24 (.call ⟨.value (.func 53),#[.tmp 3,.tmp 23],#[83,9]⟩) 86]
abbrev cnf_Dimacs_r6:List LO:=[lo 25 (.fieldAddr 25 (.tmp 1) 1) 0,lo 26 (.load 22 (.tmp 25)) 22,lo 27 (.call ⟨.builtin .len,#[.tmp 26],#[22]⟩) 3,lo 28 (.move (.const (.int .i64 0))) 3]
abbrev cnf_Dimacs_r7:List LO:=[lo 29 (.binOp .lss 3 (.tmp 28) (.tmp 27) 3) 0]
abbrev cnf_Dimacs_r8:List LO:=[lo 30 (.indexAddr 22 (.tmp 26) (.tmp 28)) 0,lo 31 (.load 55 (.tmp 30)) 55,lo 5 (.alloc 55) 0,ln (.store 55 (.tmp 5) (.tmp 31)) 0]
abbrev cnf_Dimacs_r9:List LO:=[lo 32 (.fieldAddr 55 (.tmp 5) 0) 0,lo 33 (.load 23 (.tmp 32)) 23,lo 34 (.call ⟨.builtin .len,#[.tmp 33],#[23]⟩) 3,lo 35 (.move (.const (.int .i64 0))) 3]
abbrev cnf_Dimacs_r10:List LO:=[lo 36 (.binOp .lss 3 (.tmp 35) (.tmp 34) 3) 0]
abbrev cnf_Dimacs_r11:List LO:=[lo 37 (.indexAddr 23 (.tmp 33) (.tmp 35)) 0,lo 38 (.load 3 (.tmp 37)) 3,lo 7 (.assign (.tmp 38)) 3]
abbrev cnf_Dimacs_r12:List LO:=[lm 39 7 3,lo 40 (.call ⟨.value (.func 54),#[.tmp 39],#[3]⟩) 9,lo 41 (.binOp .add 9 (.tmp 40) (.const (.string ⟨#[32]⟩)) 9) 9,lo 42 (.call ⟨.value (.func 53),#[.tmp 3,.tmp 41],#[83,9]⟩) 86]
abbrev cnf_Dimacs_r13:List LO:=[lo 43 (.binOp .add 3 (.tmp 35) (.const (.int .i64 1)) 3) 3,lm 35 43 3]
abbrev cnf_Dimacs_r14:List LO:=[lo 44 (.call ⟨.value (.func 53),#[.tmp 3,.const (.string ⟨#[48,10]⟩)],#[83,9]⟩) 86]
abbrev cnf_Dimacs_r15:List LO:=[lo 45 (.binOp .add 3 (.tmp 28) (.const (.int .i64 1)) 3) 3,lm 28 45 3]
abbrev cnf_Dimacs_r16:List LO:=[lo 46 (.fieldAddr 25 (.tmp 1) 2) 0,lo 47 (.load 23 (.tmp 46)) 23,lo 48 (.call ⟨.builtin .len,#[.tmp 47],#[23]⟩) 3,lo 49 (.binOp .gtr 3 (.tmp 48) (.const (.int .i64 0)) 3) 4]
abbrev cnf_Dimacs_r17:List LO:=[lo 50 (.call ⟨.value (.func 53),#[.tmp 3,.const (.string ⟨#[99,32,111,114,100,101,114]⟩)],#[83,9]⟩) 86]
abbrev cnf_Dimacs_r18:List LO:=[lo 51 (.fieldAddr 25 (.tmp 1) 2) 0,lo 52 (.load 23 (.tmp 51)) 23,lo 53 (.call ⟨.builtin .len,#[.tmp 52],#[23]⟩) 3,lo 54 (.move (.const (.int .i64 0))) 3]
abbrev cnf_Dimacs_r19:List LO:=[lo 55 (.binOp .lss 3 (.tmp 54) (.tmp 53) 3) 0]
abbrev cnf_Dimacs_r20:List LO:=[lo 56 (.indexAddr 23 (.tmp 52) (.tmp 54)) 0,lo 57 (.load 3 (.tmp 56)) 3,lo 9 (.assign (.tmp 57)) 3]
abbrev cnf_Dimacs_r21:List LO:=[lm 58 9 3,lo 59 (.call ⟨.value (.func 54),#[.tmp 58],#[3]⟩) 9,lo 60 (.binOp .add 9 (.const (.string ⟨#[32]⟩)) (.tmp 59) 9) 9,lo 61 (.call ⟨.value (.func 53),#[.tmp 3,.tmp 60],#[83,9]⟩) 86]
abbrev cnf_Dimacs_r22:List LO:=[lo 62 (.binOp .add 3 (.tmp 54) (.const (.int .i64 1)) 3) 3,lm 54 62 3]
abbrev cnf_Dimacs_r23:List LO:=[lo 63 (.call ⟨.value (.func 53),#[.tmp 3,.const (.string ⟨#[10]⟩)],#[83,9]⟩) 86]
abbrev cnf_Dimacs_r24:List LO:=[lo 64 (.call ⟨.value (.func 55),#[.tmp 3],#[83]⟩) 9,lo 2 (.assign (.tmp 64)) 9]
abbrev cnf_Dimacs_c:LC:=.seq (.reg false cnf_Dimacs_r1) (.seq (.seq (.reg false cnf_Dimacs_r2) (.cond (.tmp 12) (.seq (.reg false cnf_Dimacs_r3) .ret) .skip)) (.seq (.reg false cnf_Dimacs_r4) (.seq (.reg true cnf_Dimacs_r5) (.seq (.seq (.reg false cnf_Dimacs_r6) (.block 0 (.loop (.seq (.reg false cnf_Dimacs_r7) (.seq (.cond (.tmp 29) .skip (.exit 0)) (.seq (.block 1 (.seq (.reg false cnf_Dimacs_r8) (.seq (.seq (.reg false cnf_Dimacs_r9) (.block 2 (.loop (.seq (.reg false cnf_Dimacs_r10) (.seq (.cond (.tmp 36) .skip (.exit 2)) (.seq (.block 3 (.seq (.reg false cnf_Dimacs_r11) (.reg false cnf_Dimacs_r12))) (.reg false cnf_Dimacs_r13))))))) (.reg false cnf_Dimacs_r14)))) (.reg false cnf_Dimacs_r15))))))) (.seq (.seq (.reg false cnf_Dimacs_r16) (.cond (.tmp 49) (.seq (.reg false cnf_Dimacs_r17) (.seq (.seq (.reg false cnf_Dimacs_r18) (.block 4 (.loop (.seq (.reg false cnf_Dimacs_r19) (.seq (.cond (.tmp 55) .skip (.exit 4)) (.seq (.block 5 (.seq (.reg false cnf_Dimacs_r20) (.reg false cnf_Dimacs_r21))) (.reg false cnf_Dimacs_r22))))))) (.reg false cnf_Dimacs_r23))) .skip)) (.seq (.reg false cnf_Dimacs_r24) .ret))))))
theorem cnf_Dimacs_k:FnOk E 24 65 [.tmp 2] cnf_Dimacs_c:=⟨⟨Go.Proofs.Tryd.f24,by kernel_rfl,by kernel_rfl,by kernel_rfl,by kernel_rfl,by kernel_rfl⟩,rfl,rfl⟩
noncomputable def cnf_Dimacs_l1 (x44:S_api_Clause):(Str × Int)→Option (Step (Str × Int) (Str)):=fun (x49,x50)=>(if (decide (x50 < (List.length x44.Lits:Int)))=true then Option.bind (ixl x44.Lits x50) (fun x58=>Option.bind (strconv_Itoa x58) (fun x59=>Option.bind (cat x59 [32]) (fun x60=>Option.bind (bwr x49 x60) (fun x61=>some (Step.next (x61,(w64 (x50 + 1)))))))) else some (Step.done x49))
noncomputable def cnf_Dimacs_l2 (a0:S_api_Formula):(Str × Int)→Option (Step (Str × Int) (Str)):=fun (x24,x25)=>(if (decide (x25 < (List.length a0.Clauses:Int)))=true then Option.bind (ixl a0.Clauses x25) (fun x44=>Option.bind (loopC (cnf_Dimacs_l1 x44) (x24,0)) (fun x57=>Option.bind (bwr x57 [48,10]) (fun x62=>some (Step.next (x62,(w64 (x25 + 1))))))) else some (Step.done x24))
noncomputable def cnf_Dimacs_l3 (a0:S_api_Formula):(Str × Int)→Option (Step (Str × Int) (Str)):=fun (x84,x85)=>(if (decide (x85 < (List.length a0.Order:Int)))=true then Option.bind (ixl a0.Order x85) (fun x93=>Option.bind (strconv_Itoa x93) (fun x94=>Option.bind (cat [32] x94) (fun x95=>Option.bind (bwr x84 x95) (fun x96=>some (Step.next (x96,(w64 (x85 + 1)))))))) else some (Step.done x84))
noncomputable def cnf_Dimacs (a0:S_api_Formula):Option (Str):=Option.bind (cnf_Fit a0) (fun x1=>(if (!x1)=true then some [] else Option.bind (strconv_Itoa a0.Vars) (fun x2=>Option.bind (cat [112,32,99,110,102,32] x2) (fun x3=>Option.bind (cat x3 [32]) (fun x4=>Option.bind (strconv_Itoa (List.length a0.Clauses:Int)) (fun x5=>Option.bind (cat x4 x5) (fun x6=>Option.bind (cat x6 [10]) (fun x7=>Option.bind (bwr ([]:Str) x7) (fun x8=>Option.bind (loopC (cnf_Dimacs_l2 a0) (x8,0)) (fun x43=>Option.bind ((if (decide ((List.length a0.Order:Int) > 0))=true then Option.bind (bwr x43 [99,32,111,114,100,101,114]) (fun x79=>Option.bind (loopC (cnf_Dimacs_l3 a0) (x79,0)) (fun x92=>Option.bind (bwr x92 [10]) (fun x97=>some x97))) else some x43):Option (Str)) (fun x78=>Option.bind (btx x78) (fun x98=>some x98))))))))))))
theorem cnf_Dimacs_ok (a0:S_api_Formula):Ct E 24 [.agg [iv a0.Vars,.fsl 2 (List.map c_S_api_Clause a0.Clauses),.fsl 1 (List.map cI a0.Order)]] (cnf_Dimacs a0) (fun r:Str=>bs r):=ct_intro (N:=65) (L:=cnf_Dimacs_c) cnf_Dimacs_k rfl (Nat.le_of_ble_eq_true rfl) (by kernel_rfl) (by
 unfold cnf_Dimacs
 refine jS ⟨[V 1 (pt 0 3)],[W 0 3 [iv a0.Vars,.fsl 2 (List.map c_S_api_Clause a0.Clauses),.fsl 1 (List.map cI a0.Order)]],1⟩ ?_
 refine jc_seq ?_
 refine jR ?_
 refine jG 0 1 ⟨[V 1 (pt 0 3),V 10 (.agg [iv a0.Vars,.fsl 2 (List.map c_S_api_Clause a0.Clauses),.fsl 1 (List.map cI a0.Order)])],[W 0 3 [iv a0.Vars,.fsl 2 (List.map c_S_api_Clause a0.Clauses),.fsl 1 (List.map cI a0.Order)]],1⟩ ?_
 refine jK 1 (cnf_Fit_ok a0) ?_
 intro x1 h1
 refine jG 2 1 ⟨[V 1 (pt 0 3),V 12 (bv (!x1))],[W 0 3 [iv a0.Vars,.fsl 2 (List.map c_S_api_Clause a0.Clauses),.fsl 1 (List.map cI a0.Order)]],1⟩ ?_
 refine jN ?_
 refine jIf ?_ ?_
 ·refine jS ⟨[V 2 (bs [])],[],1⟩ ?_
  refine jc_ret ?_
  refine jx_seqR ?_
  exact jx_retF (.inr rfl) (v:=bs []) (by kernel_rfl) rfl (fle_refl _)
 refine jc_skip ?_
 refine jx_seqN ?_
 refine jS ⟨[V 1 (pt 0 3),V 3 (pt 1 2)],[W 0 3 [iv a0.Vars,.fsl 2 (List.map c_S_api_Clause a0.Clauses),.fsl 1 (List.map cI a0.Order)],(1,.bld ([]:Str))],2⟩ ?_
 refine jR ?_
 refine jG 0 2 ⟨[V 1 (pt 0 3),V 3 (pt 1 2),V 14 (iv a0.Vars)],[W 0 3 [iv a0.Vars,.fsl 2 (List.map c_S_api_Clause a0.Clauses),.fsl 1 (List.map cI a0.Order)],(1,.bld ([]:Str))],2⟩ ?_
 refine jr_callPF (i:=2) rfl rfl (vs:=[iv a0.Vars]) (by kernel_rfl) rfl (strconv_Itoa_ok a0.Vars) (fun _=>rfl) ?_
 intro x2 h2
 refine jr_part (i:=3) (mo:=cat [112,32,99,110,102,32] x2) rfl rfl rfl rfl (fun _ hc=>aop_cat (by kernel_rfl) (by kernel_rfl) hc) (fun _=>rfl) ?_
 intro x3 h3
 refine jr_part (i:=4) (mo:=cat x3 [32]) rfl rfl rfl rfl (fun _ hc=>aop_cat (by kernel_rfl) (by kernel_rfl) hc) (fun _=>rfl) ?_
 intro x4 h4
 refine jG 5 3 ⟨[V 1 (pt 0 3),V 3 (pt 1 2),V 17 (bs x4),V 20 (iv (List.length (List.map c_S_api_Clause a0.Clauses):Int))],[W 0 3 [iv a0.Vars,.fsl 2 (List.map c_S_api_Clause a0.Clauses),.fsl 1 (List.map cI a0.Order)],(1,.bld ([]:Str))],2⟩ ?_
 simp only[List.length_map]
 refine jr_callPF (i:=8) rfl rfl (vs:=[iv (List.length a0.Clauses:Int)]) (by kernel_rfl) rfl (strconv_Itoa_ok (List.length a0.Clauses:Int)) (fun _=>rfl) ?_
 intro x5 h5
 refine jr_part (i:=9) (mo:=cat x4 x5) rfl rfl rfl rfl (fun _ hc=>aop_cat (by kernel_rfl) (by kernel_rfl) hc) (fun _=>rfl) ?_
 intro x6 h6
 refine jr_part (i:=10) (mo:=cat x6 [10]) rfl rfl rfl rfl (fun _ hc=>aop_cat (by kernel_rfl) (by kernel_rfl) hc) (fun _=>rfl) ?_
 intro x7 h7
 refine jr_callM 11 [(0,some 1)] [(1,some 0)] (fun r:Str=>[W 0 3 [iv a0.Vars,.fsl 2 (List.map c_S_api_Clause a0.Clauses),.fsl 1 (List.map cI a0.Order)],(1,.bld r)]) (fun r:Str=>.tup [iv (List.length x7:Int),.s .nilIface]) 2 (bwr_ok ([]:Str) x7) (pc (hB 1) allp_nil) (fun r=>(pc (.inl ⟨rfl,rfl⟩) (pc (.inr (hB 0)) allp_nil))) ?_
 rintro x8 hm21
 refine jN ?_
 refine jc_seq ?_
 refine jR ?_
 refine jG 0 4 ⟨[V 1 (pt 0 3),V 3 (pt 1 2),V 26 (.fsl 2 (List.map c_S_api_Clause a0.Clauses)),V 27 (iv (List.length (List.map c_S_api_Clause a0.Clauses):Int)),V 28 (iv 0)],[W 0 3 [iv a0.Vars,.fsl 2 (List.map c_S_api_Clause a0.Clauses),.fsl 1 (List.map cI a0.Order)],(1,.bld x8)],2⟩ ?_
 simp only[List.length_map]
 refine jN ?_
 refine jc_block ?_
 refine jc_bind (fun x43=>⟨[V 1 (pt 0 3),V 3 (pt 1 2)],[W 0 3 [iv a0.Vars,.fsl 2 (List.map c_S_api_Clause a0.Clauses),.fsl 1 (List.map cI a0.Order)],(1,.bld x43)],2⟩) (fun x43=>(.exit 0)) (jc_loop (fun (x24,x25)=>⟨[V 1 (pt 0 3),V 3 (pt 1 2),V 26 (.fsl 2 (List.map c_S_api_Clause a0.Clauses)),V 27 (iv (List.length a0.Clauses:Int)),V 28 (iv x25)],[W 0 3 [iv a0.Vars,.fsl 2 (List.map c_S_api_Clause a0.Clauses),.fsl 1 (List.map cI a0.Order)],(1,.bld x24)],2⟩) (wkR [(0,some 0),(1,some 1)] (fix_nil _) (pc (hC 0) (pc (hB 1) allp_nil))) ?_) ?_
 ·rintro⟨x24,x25⟩
  unfold cnf_Dimacs_l2
  refine jS ⟨[V 1 (pt 0 3),V 3 (pt 1 2),V 26 (.fsl 2 (List.map c_S_api_Clause a0.Clauses)),V 27 (iv (List.length a0.Clauses:Int)),V 28 (iv x25),V 29 (bv (decide (x25 < (List.length a0.Clauses:Int))))],[W 0 3 [iv a0.Vars,.fsl 2 (List.map c_S_api_Clause a0.Clauses),.fsl 1 (List.map cI a0.Order)],(1,.bld x24)],2⟩ ?_
  refine jc_seq ?_
  refine jIf ?_ ?_
  ·refine jc_skip ?_
   refine jx_seqN ?_
   refine jc_seq ?_
   refine jc_block ?_
   refine jR ?_
   refine jr_part (i:=0) (mo:=ixl a0.Clauses x25) rfl rfl rfl rfl (fun _ hc=>aop_ixf (c:=c_S_api_Clause) (sz:=2) (e:=55) (kk:=.i64) (by kernel_rfl) (by kernel_rfl) (by kernel_rfl) (by kernel_rfl) hc) (fun _=>rfl) ?_
   intro x44 h44
   refine jG 1 3 ⟨[V 1 (pt 0 3),V 3 (pt 1 2),V 5 (pt 2 2),V 26 (.fsl 2 (List.map c_S_api_Clause a0.Clauses)),V 27 (iv (List.length a0.Clauses:Int)),V 28 (iv x25)],[W 0 3 [iv a0.Vars,.fsl 2 (List.map c_S_api_Clause a0.Clauses),.fsl 1 (List.map cI a0.Order)],(1,.bld x24),W 2 2 [.fsl 1 (List.map cI x44.Lits),iv x44.Tag]],3⟩ ?_
   refine jN ?_
   refine jc_seq ?_
   refine jR ?_
   refine jG 0 4 ⟨[V 1 (pt 0 3),V 3 (pt 1 2),V 26 (.fsl 2 (List.map c_S_api_Clause a0.Clauses)),V 27 (iv (List.length a0.Clauses:Int)),V 28 (iv x25),V 33 (.fsl 1 (List.map cI x44.Lits)),V 34 (iv (List.length (List.map cI x44.Lits):Int)),V 35 (iv 0)],[W 0 3 [iv a0.Vars,.fsl 2 (List.map c_S_api_Clause a0.Clauses),.fsl 1 (List.map cI a0.Order)],(1,.bld x24)],3⟩ ?_
   simp only[List.length_map]
   refine jN ?_
   refine jc_block ?_
   refine jc_bind (fun x57=>⟨[V 1 (pt 0 3),V 3 (pt 1 2),V 26 (.fsl 2 (List.map c_S_api_Clause a0.Clauses)),V 27 (iv (List.length a0.Clauses:Int)),V 28 (iv x25)],[W 0 3 [iv a0.Vars,.fsl 2 (List.map c_S_api_Clause a0.Clauses),.fsl 1 (List.map cI a0.Order)],(1,.bld x57)],2⟩) (fun x57=>(.exit 2)) (jc_loop (fun (x49,x50)=>⟨[V 1 (pt 0 3),V 3 (pt 1 2),V 26 (.fsl 2 (List.map c_S_api_Clause a0.Clauses)),V 27 (iv (List.length a0.Clauses:Int)),V 28 (iv x25),V 33 (.fsl 1 (List.map cI x44.Lits)),V 34 (iv (List.length x44.Lits:Int)),V 35 (iv x50)],[W 0 3 [iv a0.Vars,.fsl 2 (List.map c_S_api_Clause a0.Clauses),.fsl 1 (List.map cI a0.Order)],(1,.bld x49)],2⟩) (wkR [(0,some 0),(1,some 1)] (fix_nil _) (pc (hC 0) (pc (hB 1) allp_nil))) ?_) ?_
   ·rintro⟨x49,x50⟩
    unfold cnf_Dimacs_l1
    refine jS ⟨[V 1 (pt 0 3),V 3 (pt 1 2),V 26 (.fsl 2 (List.map c_S_api_Clause a0.Clauses)),V 27 (iv (List.length a0.Clauses:Int)),V 28 (iv x25),V 33 (.fsl 1 (List.map cI x44.Lits)),V 34 (iv (List.length x44.Lits:Int)),V 35 (iv x50),V 36 (bv (decide (x50 < (List.length x44.Lits:Int))))],[W 0 3 [iv a0.Vars,.fsl 2 (List.map c_S_api_Clause a0.Clauses),.fsl 1 (List.map cI a0.Order)],(1,.bld x49)],2⟩ ?_
    refine jc_seq ?_
    refine jIf ?_ ?_
    ·refine jc_skip ?_
     refine jx_seqN ?_
     refine jc_seq ?_
     refine jc_block ?_
     refine jR ?_
     refine jr_part (i:=0) (mo:=ixl x44.Lits x50) rfl rfl rfl rfl (fun _ hc=>aop_ixf (c:=cI) (sz:=1) (e:=3) (kk:=.i64) (by kernel_rfl) (by kernel_rfl) (by kernel_rfl) (by kernel_rfl) hc) (fun _=>rfl) ?_
     intro x58 h58
     refine jG 1 2 ⟨[V 1 (pt 0 3),V 3 (pt 1 2),V 7 (iv x58),V 26 (.fsl 2 (List.map c_S_api_Clause a0.Clauses)),V 27 (iv (List.length a0.Clauses:Int)),V 28 (iv x25),V 33 (.fsl 1 (List.map cI x44.Lits)),V 34 (iv (List.length x44.Lits:Int)),V 35 (iv x50)],[W 0 3 [iv a0.Vars,.fsl 2 (List.map c_S_api_Clause a0.Clauses),.fsl 1 (List.map cI a0.Order)],(1,.bld x49)],2⟩ ?_
     refine jN ?_
     refine jc_reg ?_
     refine jG 0 1 ⟨[V 1 (pt 0 3),V 3 (pt 1 2),V 26 (.fsl 2 (List.map c_S_api_Clause a0.Clauses)),V 27 (iv (List.length a0.Clauses:Int)),V 28 (iv x25),V 33 (.fsl 1 (List.map cI x44.Lits)),V 34 (iv (List.length x44.Lits:Int)),V 35 (iv x50),V 39 (iv x58)],[W 0 3 [iv a0.Vars,.fsl 2 (List.map c_S_api_Clause a0.Clauses),.fsl 1 (List.map cI a0.Order)],(1,.bld x49)],2⟩ ?_
     refine jr_callPF (i:=1) rfl rfl (vs:=[iv x58]) (by kernel_rfl) rfl (strconv_Itoa_ok x58) (fun _=>rfl) ?_
     intro x59 h59
     refine jr_part (i:=2) (mo:=cat x59 [32]) rfl rfl rfl rfl (fun _ hc=>aop_cat (by kernel_rfl) (by kernel_rfl) hc) (fun _=>rfl) ?_
     intro x60 h60
     refine jr_callM 3 [(0,some 1)] [(1,some 0)] (fun r:Str=>[W 0 3 [iv a0.Vars,.fsl 2 (List.map c_S_api_Clause a0.Clauses),.fsl 1 (List.map cI a0.Order)],(1,.bld r)]) (fun r:Str=>.tup [iv (List.length x60:Int),.s .nilIface]) 2 (bwr_ok x49 x60) (pc (hB 1) allp_nil) (fun r=>(pc (.inl ⟨rfl,rfl⟩) (pc (.inr (hB 0)) allp_nil))) ?_
     rintro x61 hm9
     refine jr_nil rfl ?_
     refine jx_blkN ?_
     refine jx_seqN ?_
     refine jT ⟨[V 1 (pt 0 3),V 3 (pt 1 2),V 26 (.fsl 2 (List.map c_S_api_Clause a0.Clauses)),V 27 (iv (List.length a0.Clauses:Int)),V 28 (iv x25),V 33 (.fsl 1 (List.map cI x44.Lits)),V 34 (iv (List.length x44.Lits:Int)),V 35 (iv (w64 (x50 + 1)))],[W 0 3 [iv a0.Vars,.fsl 2 (List.map c_S_api_Clause a0.Clauses),.fsl 1 (List.map cI a0.Order)],(1,.bld x61)],2⟩ ?_
     exact jx_next (wkR [(0,some 0),(1,some 1)] (fix_nil _) (pc (hC 0) (pc (hB 1) allp_nil)))
    refine jc_exit ?_
    refine jx_seqE ?_
    exact jx_done rfl nofun (wkR [(0,some 0),(1,some 1)] (fix_nil _) (pc (hC 0) (pc (hB 1) allp_nil)))
   intro x57
   refine jx_blkE ?_
   refine jx_seqN ?_
   refine jc_reg ?_
   refine jr_callM 0 [(0,some 1)] [(1,some 0)] (fun r:Str=>[W 0 3 [iv a0.Vars,.fsl 2 (List.map c_S_api_Clause a0.Clauses),.fsl 1 (List.map cI a0.Order)],(1,.bld r)]) (fun r:Str=>.tup [iv (List.length [48,10]:Int),.s .nilIface]) 2 (bwr_ok x57 [48,10]) (pc (hB 1) allp_nil) (fun r=>(pc (.inl ⟨rfl,rfl⟩) (pc (.inr (hB 0)) allp_nil))) ?_
   rintro x62 hm10
   refine jr_nil rfl ?_
   refine jx_blkN ?_
   refine jx_seqN ?_
   refine jT ⟨[V 1 (pt 0 3),V 3 (pt 1 2),V 26 (.fsl 2 (List.map c_S_api_Clause a0.Clauses)),V 27 (iv (List.length a0.Clauses:Int)),V 28 (iv (w64 (x25 + 1)))],[W 0 3 [iv a0.Vars,.fsl 2 (List.map c_S_api_Clause a0.Clauses),.fsl 1 (List.map cI a0.Order)],(1,.bld x62)],2⟩ ?_
   exact jx_next (wkR [(0,some 0),(1,some 1)] (fix_nil _) (pc (hC 0) (pc (hB 1) allp_nil)))
  refine jc_exit ?_
  refine jx_seqE ?_
  exact jx_done rfl nofun (wkR [(0,some 0),(1,some 1)] (fix_nil _) (pc (hC 0) (pc (hB 1) allp_nil)))
 intro x43
 refine jx_blkE ?_
 refine jx_seqN ?_
 refine jc_seq ?_
 refine jc_bind (fun x78=>⟨[V 3 (pt 0 2)],[(0,.bld x78)],1⟩) (fun x78=>.normal) ?_ ?_
 ·refine jR ?_
  refine jG 0 4 ⟨[V 1 (pt 0 3),V 3 (pt 1 2),V 49 (bv (decide ((List.length (List.map cI a0.Order):Int) > 0)))],[W 0 3 [iv a0.Vars,.fsl 2 (List.map c_S_api_Clause a0.Clauses),.fsl 1 (List.map cI a0.Order)],(1,.bld x43)],2⟩ ?_
  simp only[List.length_map]
  refine jN ?_
  refine jIf ?_ ?_
  ·refine jR ?_
   refine jr_callM 0 [(0,some 1)] [(1,some 0)] (fun r:Str=>[W 0 3 [iv a0.Vars,.fsl 2 (List.map c_S_api_Clause a0.Clauses),.fsl 1 (List.map cI a0.Order)],(1,.bld r)]) (fun r:Str=>.tup [iv (List.length [99,32,111,114,100,101,114]:Int),.s .nilIface]) 2 (bwr_ok x43 [99,32,111,114,100,101,114]) (pc (hB 1) allp_nil) (fun r=>(pc (.inl ⟨rfl,rfl⟩) (pc (.inr (hB 0)) allp_nil))) ?_
   rintro x79 hm19
   refine jN ?_
   refine jc_seq ?_
   refine jR ?_
   refine jG 0 4 ⟨[V 3 (pt 1 2),V 52 (.fsl 1 (List.map cI a0.Order)),V 53 (iv (List.length (List.map cI a0.Order):Int)),V 54 (iv 0)],[(1,.bld x79)],2⟩ ?_
   simp only[List.length_map]
   refine jN ?_
   refine jc_block ?_
   refine jc_bind (fun x92=>⟨[V 3 (pt 0 2)],[(0,.bld x92)],1⟩) (fun x92=>(.exit 4)) (jc_loop (fun (x84,x85)=>⟨[V 3 (pt 0 2),V 52 (.fsl 1 (List.map cI a0.Order)),V 53 (iv (List.length a0.Order:Int)),V 54 (iv x85)],[(0,.bld x84)],1⟩) (wkR [(0,some 1)] (fix_nil _) (pc (hB 1) allp_nil)) ?_) ?_
   ·rintro⟨x84,x85⟩
    unfold cnf_Dimacs_l3
    refine jS ⟨[V 3 (pt 0 2),V 52 (.fsl 1 (List.map cI a0.Order)),V 53 (iv (List.length a0.Order:Int)),V 54 (iv x85),V 55 (bv (decide (x85 < (List.length a0.Order:Int))))],[(0,.bld x84)],1⟩ ?_
    refine jc_seq ?_
    refine jIf ?_ ?_
    ·refine jc_skip ?_
     refine jx_seqN ?_
     refine jc_seq ?_
     refine jc_block ?_
     refine jR ?_
     refine jr_part (i:=0) (mo:=ixl a0.Order x85) rfl rfl rfl rfl (fun _ hc=>aop_ixf (c:=cI) (sz:=1) (e:=3) (kk:=.i64) (by kernel_rfl) (by kernel_rfl) (by kernel_rfl) (by kernel_rfl) hc) (fun _=>rfl) ?_
     intro x93 h93
     refine jG 1 2 ⟨[V 3 (pt 0 2),V 9 (iv x93),V 52 (.fsl 1 (List.map cI a0.Order)),V 53 (iv (List.length a0.Order:Int)),V 54 (iv x85)],[(0,.bld x84)],1⟩ ?_
     refine jN ?_
     refine jc_reg ?_
     refine jG 0 1 ⟨[V 3 (pt 0 2),V 52 (.fsl 1 (List.map cI a0.Order)),V 53 (iv (List.length a0.Order:Int)),V 54 (iv x85),V 58 (iv x93)],[(0,.bld x84)],1⟩ ?_
     refine jr_callPF (i:=1) rfl rfl (vs:=[iv x93]) (by kernel_rfl) rfl (strconv_Itoa_ok x93) (fun _=>rfl) ?_
     intro x94 h94
     refine jr_part (i:=2) (mo:=cat [32] x94) rfl rfl rfl rfl (fun _ hc=>aop_cat (by kernel_rfl) (by kernel_rfl) hc) (fun _=>rfl) ?_
     intro x95 h95
     refine jr_callM 3 [(0,some 0)] [(0,some 0)] (fun r:Str=>[(0,.bld r)]) (fun r:Str=>.tup [iv (List.length x95:Int),.s .nilIface]) 1 (bwr_ok x84 x95) (pc (hB 0) allp_nil) (fun r=>(pc (.inr (hB 0)) allp_nil)) ?_
     rintro x96 hm17
     refine jr_nil rfl ?_
     refine jx_blkN ?_
     refine jx_seqN ?_
     refine jT ⟨[V 3 (pt 0 2),V 52 (.fsl 1 (List.map cI a0.Order)),V 53 (iv (List.length a0.Order:Int)),V 54 (iv (w64 (x85 + 1)))],[(0,.bld x96)],1⟩ ?_
     exact jx_next (wkR [(0,some 0)] (fix_nil _) (pc (hB 0) allp_nil))
    refine jc_exit ?_
    refine jx_seqE ?_
    exact jx_done rfl nofun (wkR [(0,some 0)] (fix_nil _) (pc (hB 0) allp_nil))
   intro x92
   refine jx_blkE ?_
   refine jx_seqN ?_
   refine jc_reg ?_
   refine jr_callM 0 [(0,some 0)] [(0,some 0)] (fun r:Str=>[(0,.bld r)]) (fun r:Str=>.tup [iv (List.length [10]:Int),.s .nilIface]) 1 (bwr_ok x92 [10]) (pc (hB 0) allp_nil) (fun r=>(pc (.inr (hB 0)) allp_nil)) ?_
   rintro x97 hm18
   refine jr_nil rfl ?_
   exact jx_mid rfl (wkR [(0,some 0)] (fix_nil _) (pc (hB 0) allp_nil))
  refine jc_skip ?_
  exact jx_mid rfl (wkR [(0,some 1)] (fix_nil _) (pc (hB 1) allp_nil))
 intro x78
 refine jx_seqN ?_
 refine jR ?_
 refine jr_callM 0 [(0,some 0)] [(0,some 0)] (fun r:Str=>[(0,.bld x78)]) (fun r:Str=>bs r) 1 (btx_ok x78) (pc (hB 0) allp_nil) (fun r=>(pc (.inr (hB 0)) allp_nil)) ?_
 rintro x98 hm20
 refine jG 1 1 ⟨[V 2 (bs x98)],[],1⟩ ?_
 refine jN ?_
 refine jc_ret ?_
 exact jx_retF (.inr rfl) (v:=bs x98) (by kernel_rfl) rfl (fle_refl _))
abbrev ref24_digits_r1:List LO:=[lo 2 (.assign (.const (.string ⟨#[]⟩))) 9]
abbrev ref24_digits_r2:List LO:=[lm 3 0 3,lo 4 (.binOp .lss 3 (.tmp 3) (.const (.int .i64 0)) 3) 4]
abbrev ref24_digits_r3:List LO:=[lm 5 0 3,lo 6 (.unOp .neg 3 (.tmp 5)) 3,lo 7 (.call ⟨.value (.func 67),#[.tmp 6],#[3]⟩) 9,lo 8 (.binOp .add 9 (.const (.string ⟨#[45]⟩)) (.tmp 7) 9) 9,lo 2 (.assign (.tmp 8)) 9]
abbrev ref24_digits_r4:List LO:=[lm 9 0 3,lo 10 (.binOp .lss 3 (.tmp 9) (.const (.int .i64 10)) 3) 4]
abbrev ref24_digits_r5:List LO:=[lm 11 0 3,lo 12 (.binOp .add 3 (.const (.int .i64 48)) (.tmp 11) 3) 3,lo 13 (.convert 3 5 (.tmp 12)) 5,lo 14 (.buildSlice 81 1 #[(0,.tmp 13)]) 81,lo 15 (.convert 81 9 (.tmp 14)) 9,lo 2 (.assign (.tmp 15)) 9]
abbrev ref24_digits_r6:List LO:=[lm 16 0 3,lo 17 (.binOp .quo 3 (.tmp 16) (.const (.int .i64 10)) 3) 3,lo 18 (.call ⟨.value (.func 67),#[.tmp 17],#[3]⟩) 9,lm 19 0 3,lo 20 (.binOp .rem 3 (.tmp 19) (.const (.int .i64 10)) 3) 3,lo 21 (.call ⟨.value (.func 67),#[.tmp 20],#[3]⟩) 9,lo 22 (.binOp .add 9 (.tmp 18) (.tmp 21) 9) 9,lo 2 (.assign (.tmp 22)) 9]
abbrev ref24_digits_c:LC:=.seq (.reg false ref24_digits_r1) (.seq (.seq (.reg false ref24_digits_r2) (.cond (.tmp 4) (.seq (.reg false ref24_digits_r3) .ret) .skip)) (.seq (.seq (.reg false ref24_digits_r4) (.cond (.tmp 10) (.seq (.reg false ref24_digits_r5) .ret) .skip)) (.seq (.reg false ref24_digits_r6) .ret)))
theorem ref24_digits_k:FnOk E 67 23 [.tmp 2] ref24_digits_c:=⟨⟨Go.Proofs.Tryd.f67,by kernel_rfl,by kernel_rfl,by kernel_rfl,by kernel_rfl,by kernel_rfl⟩,rfl,rfl⟩
noncomputable def ref24_digits_b (r0:Int→Option (Str)) (a0:Int):Option (Str):=(if (decide (a0 < 0))=true then Option.bind (r0 (w64 (0 - a0))) (fun x1=>Option.bind (cat [45] x1) (fun x2=>some x2)) else (if (decide (a0 < 10))=true then some (ofb [(IntKind.wrap .u8 ((w64 (48 + a0))))]) else Option.bind (r0 (w64 (Int.tdiv a0 10))) (fun x3=>Option.bind (r0 (Int.tmod a0 10)) (fun x4=>Option.bind (cat x3 x4) (fun x5=>some x5)))))
noncomputable def ref24_digits_f:Nat→Int→Option (Str)
  | 0,_=>none
  | n + 1,a0=>ref24_digits_b (ref24_digits_f n) a0
noncomputable def ref24_digits (a0:Int):Option (Str):=ref24_digits_f 2097152 a0
theorem ref24_digits_b_ok (r0:Int→Option (Str)) (r0_ok:∀ (a0:Int),Ct E 67 [iv a0] (r0 a0) (fun r:Str=>bs r)) (a0:Int):Ct E 67 [iv a0] (ref24_digits_b r0 a0) (fun r:Str=>bs r):=ct_intro (N:=23) (L:=ref24_digits_c) ref24_digits_k rfl (Nat.le_of_ble_eq_true rfl) (by kernel_rfl) (by
 unfold ref24_digits_b
 refine jS ⟨[V 0 (iv a0)],[],0⟩ ?_
 refine jc_seq ?_
 refine jS ⟨[V 0 (iv a0),V 4 (bv (decide (a0 < 0)))],[],0⟩ ?_
 refine jIf ?_ ?_
 ·refine jR ?_
  refine jG 0 2 ⟨[V 6 (iv (w64 (0 - a0)))],[],0⟩ ?_
  refine jK 2 (r0_ok (w64 (0 - a0))) ?_
  intro x1 h1
  refine jr_part (i:=3) (mo:=cat [45] x1) rfl rfl rfl rfl (fun _ hc=>aop_cat (by kernel_rfl) (by kernel_rfl) hc) (fun _=>rfl) ?_
  intro x2 h2
  refine jG 4 1 ⟨[V 2 (bs x2)],[],0⟩ ?_
  refine jN ?_
  refine jc_ret ?_
  refine jx_seqR ?_
  exact jx_retF (.inr rfl) (v:=bs x2) (by kernel_rfl) rfl (fle_refl _)
 refine jc_skip ?_
 refine jx_seqN ?_
 refine jc_seq ?_
 refine jS ⟨[V 0 (iv a0),V 10 (bv (decide (a0 < 10)))],[],0⟩ ?_
 refine jIf ?_ ?_
 ·refine jR ?_
  refine jG 0 4 ⟨[V 14 (.osl 1 0 (List.length [(IntKind.wrap .u8 ((w64 (48 + a0))))]) 1)],[(1,.rows 1 (List.map cB [(IntKind.wrap .u8 ((w64 (48 + a0))))]))],2⟩ ?_
  refine jr_one (i:=4) rfl rfl rfl rfl (aop_ofb_o (e:=5) (id:=1) (l:=[(IntKind.wrap .u8 ((w64 (48 + a0))))]) (by kernel_rfl) (by kernel_rfl) (by kernel_rfl) (by kernel_rfl) (by kernel_rfl)) rfl ?_
  refine jG 5 1 ⟨[V 2 (bs (ofb [(IntKind.wrap .u8 ((w64 (48 + a0))))]))],[],3⟩ ?_
  refine jN ?_
  refine jc_ret ?_
  refine jx_seqR ?_
  exact jx_retF (.inr rfl) (v:=bs (ofb [(IntKind.wrap .u8 ((w64 (48 + a0))))])) (by kernel_rfl) rfl (fle_refl _)
 refine jc_skip ?_
 refine jx_seqN ?_
 refine jR ?_
 refine jG 0 2 ⟨[V 0 (iv a0),V 17 (iv (w64 (Int.tdiv a0 10)))],[],0⟩ ?_
 refine jK 2 (r0_ok (w64 (Int.tdiv a0 10))) ?_
 intro x3 h3
 refine jG 3 2 ⟨[V 18 (bs x3),V 20 (iv (Int.tmod a0 10))],[],0⟩ ?_
 refine jK 5 (r0_ok (Int.tmod a0 10)) ?_
 intro x4 h4
 refine jr_part (i:=6) (mo:=cat x3 x4) rfl rfl rfl rfl (fun _ hc=>aop_cat (by kernel_rfl) (by kernel_rfl) hc) (fun _=>rfl) ?_
 intro x5 h5
 refine jG 7 1 ⟨[V 2 (bs x5)],[],0⟩ ?_
 refine jN ?_
 refine jc_ret ?_
 exact jx_retF (.inr rfl) (v:=bs x5) (by kernel_rfl) rfl (fle_refl _))
theorem ref24_digits_f_ok:∀ (n:Nat) (a0:Int),Ct E 67 [iv a0] (ref24_digits_f n a0) (fun r:Str=>bs r)
  | 0,_=>fun r hr=>nomatch hr
  | n + 1,a0=>ref24_digits_b_ok (ref24_digits_f n) (ref24_digits_f_ok n) a0
theorem ref24_digits_ok (a0:Int):Ct E 67 [iv a0] (ref24_digits a0) (fun r:Str=>bs r):=ref24_digits_f_ok _ a0
abbrev ref24_Dimacs_r1:List LO:=[lo 1 (.box 25 (.tmp 0)) 0,lo 2 (.assign (.const (.string ⟨#[]⟩))) 9]
abbrev ref24_Dimacs_r2:List LO:=[lo 7 (.load 25 (.tmp 1)) 25,lo 8 (.call ⟨.value (.func 10),#[.tmp 7],#[25]⟩) 4,lo 9 (.unOp .not 4 (.tmp 8)) 4]
abbrev ref24_Dimacs_r3:List LO:=[lo 2 (.assign (.const (.string ⟨#[]⟩))) 9]
abbrev ref24_Dimacs_r4:List LO:=[lo 3 (.assign (.const (.slice none 0 0))) 81]
abbrev ref24_Dimacs_r5:List LO:=[lm 10 3 81,lo 11 (.fieldAddr 25 (.tmp 1) 0) 0,lo 12 (.load 3 (.tmp 11)) 3,lo 13 (.call ⟨.value (.func 67),#[.tmp 12],#[3]⟩) 9,lo 14 (.binOp .add 9 (.const (.string ⟨#[112,32,99,110,102,32]⟩)) (.tmp 13) 9) 9,lo 15 (.binOp .add 9 (.tmp 14) (.const (.string ⟨#[32]⟩)) 9) 9,lo 16 (.fieldAddr 25 (.tmp 1) 1) 0,lo 17 (.load 22 (.tmp 16)) 22,lo 18 (.call ⟨.builtin .len,#[.tmp 17],#[22]⟩) 3,lo 19 (.call ⟨.value (.func 67),#[.tmp 18],#[3]⟩) 9,lo 20 (.binOp .add 9 (.tmp 15) (.tmp 19) 9) 9,lo 21 (.binOp .add 9 (.tmp 20) (.const (.string ⟨#[10]⟩)) 9) 9,lo 22 (.call ⟨.builtin .append,#[.tmp 10,.tmp 21],#[81,9]⟩) 81,lo 3 (.assign (.tmp 22)) 81]
abbrev ref24_Dimacs_r6:List LO:=[lo 4 (.assign (.const (.int .i64 0))) 3]
abbrev ref24_Dimacs_r7:List LO:=[lm 23 4 3,lo 24 (.fieldAddr 25 (.tmp 1) 1) 0,lo 25 (.load 22 (.tmp 24)) 22,lo 26 (.call ⟨.builtin .len,#[.tmp 25],#[22]⟩) 3,lo 27 (.binOp .lss 3 (.tmp 23) (.tmp 26) 3) 4]
abbrev ref24_Dimacs_r8:List LO:=[lo 5 (.assign (.const (.int .i64 0))) 3]
abbrev ref24_Dimacs_r9:List LO:=[lm 30 5 3,lo 31 (.fieldAddr 25 (.tmp 1) 1) 0,lo 32 (.load 22 (.tmp 31)) 22,lm 33 4 3,lo 34 (.indexAddr 22 (.tmp 32) (.tmp 33)) 0,lo 35 (.fieldAddr 55 (.tmp 34) 0) 0,lo 36 (.load 23 (.tmp 35)) 23,lo 37 (.call ⟨.builtin .len,#[.tmp 36],#[23]⟩) 3,lo 38 (.binOp .lss 3 (.tmp 30) (.tmp 37) 3) 4]
abbrev ref24_Dimacs_r10:List LO:=[lm 41 3 81,lo 42 (.fieldAddr 25 (.tmp 1) 1) 0,lo 43 (.load 22 (.tmp 42)) 22,lm 44 4 3,lo 45 (.indexAddr 22 (.tmp 43) (.tmp 44)) 0,lo 46 (.fieldAddr 55 (.tmp 45) 0) 0,lo 47 (.load 23 (.tmp 46)) 23,lm 48 5 3,lo 49 (.indexAddr 23 (.tmp 47) (.tmp 48)) 0,lo 50 (.load 3 (.tmp 49)) 3,lo 51 (.call ⟨.value (.func 67),#[.tmp 50],#[3]⟩) 9,lo 52 (.binOp .add 9 (.tmp 51) (.const (.string ⟨#[32]⟩)) 9) 9,lo 53 (.call ⟨.builtin .append,#[.tmp 41,.tmp 52],#[81,9]⟩) 81,lo 3 (.assign (.tmp 53)) 81]
abbrev ref24_Dimacs_r11:List LO:=[lm 39 5 3,lo 40 (.binOp .add 3 (.tmp 39) (.const (.int .i64 1)) 3) 3,lo 5 (.assign (.tmp 40)) 3]
abbrev ref24_Dimacs_r12:List LO:=[lm 54 3 81,lo 55 (.call ⟨.builtin .append,#[.tmp 54,.const (.string ⟨#[48,10]⟩)],#[81,9]⟩) 81,lo 3 (.assign (.tmp 55)) 81]
abbrev ref24_Dimacs_r13:List LO:=[lm 28 4 3,lo 29 (.binOp .add 3 (.tmp 28) (.const (.int .i64 1)) 3) 3,lo 4 (.assign (.tmp 29)) 3]
abbrev ref24_Dimacs_r14:List LO:=[lo 56 (.fieldAddr 25 (.tmp 1) 2) 0,lo 57 (.load 23 (.tmp 56)) 23,lo 58 (.call ⟨.builtin .len,#[.tmp 57],#[23]⟩) 3,lo 59 (.binOp .gtr 3 (.tmp 58) (.const (.int .i64 0)) 3) 4]
abbrev ref24_Dimacs_r15:List LO:=[lm 60 3 81,lo 61 (.call ⟨.builtin .append,#[.tmp 60,.const (.string ⟨#[99,32,111,114,100,101,114]⟩)],#[81,9]⟩) 81,lo 3 (.assign (.tmp 61)) 81]
abbrev ref24_Dimacs_r16:List LO:=[lo 6 (.assign (.const (.int .i64 0))) 3]
abbrev ref24_Dimacs_r17:List LO:=[lm 62 6 3,lo 63 (.fieldAddr 25 (.tmp 1) 2) 0,lo 64 (.load 23 (.tmp 63)) 23,lo 65 (.call ⟨.builtin .len,#[.tmp 64],#[23]⟩) 3,lo 66 (.binOp .lss 3 (.tmp 62) (.tmp 65) 3) 4]
abbrev ref24_Dimacs_r18:List LO:=[lm 69 3 81,lo 70 (.fieldAddr 25 (.tmp 1) 2) 0,lo 71 (.load 23 (.tmp 70)) 23,lm 72 6 3,lo 73 (.indexAddr 23 (.tmp 71) (.tmp 72)) 0,lo 74 (.load 3 (.tmp 73)) 3,lo 75 (.call ⟨.value (.func 67),#[.tmp 74],#[3]⟩) 9,lo 76 (.binOp .add 9 (.const (.string ⟨#[32]⟩)) (.tmp 75) 9) 9,lo 77 (.call ⟨.builtin .append,#[.tmp 69,.tmp 76],#[81,9]⟩) 81,lo 3 (.assign (.tmp 77)) 81]
abbrev ref24_Dimacs_r19:List LO:=[lm 67 6 3,lo 68 (.binOp .add 3 (.tmp 67) (.const (.int .i64 1)) 3) 3,lo 6 (.assign (.tmp 68)) 3]
abbrev ref24_Dimacs_r20:List LO:=[lm 78 3 81,lo 79 (.buildSlice 81 1 #[(0,.const (.int .u8 10))]) 81,lo 80 (.call ⟨.builtin .append,#[.tmp 78,.tmp 79],#[81,81]⟩) 81,lo 3 (.assign (.tmp 80)) 81]
abbrev ref24_Dimacs_r21:List LO:=[lm 81 3 81,lo 82 (.convert 81 9 (.tmp 81)) 9,lo 2 (.assign (.tmp 82)) 9]
abbrev ref24_Dimacs_c:LC:=.seq (.reg false ref24_Dimacs_r1) (.seq (.seq (.reg false ref24_Dimacs_r2) (.cond (.tmp 9) (.seq (.reg false ref24_Dimacs_r3) .ret) .skip)) (.seq (.reg false ref24_Dimacs_r4) (.seq (.reg true ref24_Dimacs_r5) (.seq (.seq (.reg false ref24_Dimacs_r6) (.block 0 (.loop (.seq (.seq (.reg false ref24_Dimacs_r7) (.cond (.tmp 27) .skip (.exit 0))) (.seq (.block 1 (.seq (.seq (.reg false ref24_Dimacs_r8) (.block 2 (.loop (.seq (.seq (.reg false ref24_Dimacs_r9) (.cond (.tmp 38) .skip (.exit 2))) (.seq (.block 3 (.reg false ref24_Dimacs_r10)) (.reg false ref24_Dimacs_r11)))))) (.reg false ref24_Dimacs_r12))) (.reg false ref24_Dimacs_r13)))))) (.seq (.seq (.reg false ref24_Dimacs_r14) (.cond (.tmp 59) (.seq (.reg false ref24_Dimacs_r15) (.seq (.seq (.reg false ref24_Dimacs_r16) (.block 4 (.loop (.seq (.seq (.reg false ref24_Dimacs_r17) (.cond (.tmp 66) .skip (.exit 4))) (.seq (.block 5 (.reg false ref24_Dimacs_r18)) (.reg false ref24_Dimacs_r19)))))) (.reg false ref24_Dimacs_r20))) .skip)) (.seq (.reg false ref24_Dimacs_r21) .ret))))))
theorem ref24_Dimacs_k:FnOk E 27 83 [.tmp 2] ref24_Dimacs_c:=⟨⟨Go.Proofs.Tryd.f27,by kernel_rfl,by kernel_rfl,by kernel_rfl,by kernel_rfl,by kernel_rfl⟩,rfl,rfl⟩
noncomputable def ref24_Dimacs_l1 (a0:S_api_Formula) (x28:Int):(List Int × Int)→Option (Step (List Int × Int) (List Int)):=fun (x56,x57)=>Option.bind (ixl a0.Clauses x28) (fun x67=>(if (decide (x57 < (List.length x67.Lits:Int)))=true then Option.bind (ixl a0.Clauses x28) (fun x68=>Option.bind (ixl x68.Lits x57) (fun x69=>Option.bind (ref24_digits x69) (fun x70=>Option.bind (cat x70 [32]) (fun x71=>Option.bind (app 1 x56 (bytesI x71)) (fun x72=>some (Step.next (x72,(w64 (x57 + 1))))))))) else some (Step.done x56)))
noncomputable def ref24_Dimacs_l2 (a0:S_api_Formula):(List Int × Int)→Option (Step (List Int × Int) (List Int)):=fun (x27,x28)=>(if (decide (x28 < (List.length a0.Clauses:Int)))=true then Option.bind (loopC (ref24_Dimacs_l1 a0 x28) (x27,0)) (fun x66=>Option.bind (app 1 x66 [48,10]) (fun x73=>some (Step.next (x73,(w64 (x28 + 1)))))) else some (Step.done x27))
noncomputable def ref24_Dimacs_l3 (a0:S_api_Formula):(List Int × Int)→Option (Step (List Int × Int) (List Int)):=fun (x95,x96)=>(if (decide (x96 < (List.length a0.Order:Int)))=true then Option.bind (ixl a0.Order x96) (fun x104=>Option.bind (ref24_digits x104) (fun x105=>Option.bind (cat [32] x105) (fun x106=>Option.bind (app 1 x95 (bytesI x106)) (fun x107=>some (Step.next (x107,(w64 (x96 + 1)))))))) else some (Step.done x95))
noncomputable def ref24_Dimacs (a0:S_api_Formula):Option (Str):=Option.bind (ref24_Fit a0) (fun x1=>(if (!x1)=true then some [] else Option.bind (ref24_digits a0.Vars) (fun x2=>Option.bind (cat [112,32,99,110,102,32] x2) (fun x3=>Option.bind (cat x3 [32]) (fun x4=>Option.bind (ref24_digits (List.length a0.Clauses:Int)) (fun x5=>Option.bind (cat x4 x5) (fun x6=>Option.bind (cat x6 [10]) (fun x7=>Option.bind (app 1 ([]:List Int) (bytesI x7)) (fun x8=>Option.bind (loopC (ref24_Dimacs_l2 a0) (x8,0)) (fun x49=>Option.bind ((if (decide ((List.length a0.Order:Int) > 0))=true then Option.bind (app 1 x49 [99,32,111,114,100,101,114]) (fun x90=>Option.bind (loopC (ref24_Dimacs_l3 a0) (x90,0)) (fun x103=>Option.bind (app 1 x103 [10]) (fun x108=>some x108))) else some x49):Option (List Int)) (fun x89=>some (ofb x89))))))))))))
theorem ref24_Dimacs_ok (a0:S_api_Formula):Ct E 27 [.agg [iv a0.Vars,.fsl 2 (List.map c_S_api_Clause a0.Clauses),.fsl 1 (List.map cI a0.Order)]] (ref24_Dimacs a0) (fun r:Str=>bs r):=ct_intro (N:=83) (L:=ref24_Dimacs_c) ref24_Dimacs_k rfl (Nat.le_of_ble_eq_true rfl) (by kernel_rfl) (by
 unfold ref24_Dimacs
 refine jS ⟨[V 1 (pt 0 3)],[W 0 3 [iv a0.Vars,.fsl 2 (List.map c_S_api_Clause a0.Clauses),.fsl 1 (List.map cI a0.Order)]],1⟩ ?_
 refine jc_seq ?_
 refine jR ?_
 refine jG 0 1 ⟨[V 1 (pt 0 3),V 7 (.agg [iv a0.Vars,.fsl 2 (List.map c_S_api_Clause a0.Clauses),.fsl 1 (List.map cI a0.Order)])],[W 0 3 [iv a0.Vars,.fsl 2 (List.map c_S_api_Clause a0.Clauses),.fsl 1 (List.map cI a0.Order)]],1⟩ ?_
 refine jK 1 (ref24_Fit_ok a0) ?_
 intro x1 h1
 refine jG 2 1 ⟨[V 1 (pt 0 3),V 9 (bv (!x1))],[W 0 3 [iv a0.Vars,.fsl 2 (List.map c_S_api_Clause a0.Clauses),.fsl 1 (List.map cI a0.Order)]],1⟩ ?_
 refine jN ?_
 refine jIf ?_ ?_
 ·refine jS ⟨[V 2 (bs [])],[],1⟩ ?_
  refine jc_ret ?_
  refine jx_seqR ?_
  exact jx_retF (.inr rfl) (v:=bs []) (by kernel_rfl) rfl (fle_refl _)
 refine jc_skip ?_
 refine jx_seqN ?_
 refine jS ⟨[V 1 (pt 0 3),V 3 (nilS)],[W 0 3 [iv a0.Vars,.fsl 2 (List.map c_S_api_Clause a0.Clauses),.fsl 1 (List.map cI a0.Order)]],1⟩ ?_
 refine jR ?_
 refine jG 0 3 ⟨[V 1 (pt 0 3),V 10 (nilS),V 12 (iv a0.Vars)],[W 0 3 [iv a0.Vars,.fsl 2 (List.map c_S_api_Clause a0.Clauses),.fsl 1 (List.map cI a0.Order)]],1⟩ ?_
 refine jK 3 (ref24_digits_ok a0.Vars) ?_
 intro x2 h2
 refine jr_part (i:=4) (mo:=cat [112,32,99,110,102,32] x2) rfl rfl rfl rfl (fun _ hc=>aop_cat (by kernel_rfl) (by kernel_rfl) hc) (fun _=>rfl) ?_
 intro x3 h3
 refine jr_part (i:=5) (mo:=cat x3 [32]) rfl rfl rfl rfl (fun _ hc=>aop_cat (by kernel_rfl) (by kernel_rfl) hc) (fun _=>rfl) ?_
 intro x4 h4
 refine jG 6 3 ⟨[V 1 (pt 0 3),V 10 (nilS),V 15 (bs x4),V 18 (iv (List.length (List.map c_S_api_Clause a0.Clauses):Int))],[W 0 3 [iv a0.Vars,.fsl 2 (List.map c_S_api_Clause a0.Clauses),.fsl 1 (List.map cI a0.Order)]],1⟩ ?_
 simp only[List.length_map]
 refine jK 9 (ref24_digits_ok (List.length a0.Clauses:Int)) ?_
 intro x5 h5
 refine jr_part (i:=10) (mo:=cat x4 x5) rfl rfl rfl rfl (fun _ hc=>aop_cat (by kernel_rfl) (by kernel_rfl) hc) (fun _=>rfl) ?_
 intro x6 h6
 refine jr_part (i:=11) (mo:=cat x6 [10]) rfl rfl rfl rfl (fun _ hc=>aop_cat (by kernel_rfl) (by kernel_rfl) hc) (fun _=>rfl) ?_
 intro x7 h7
 refine jr_two (i:=12) (C:=(bytesI x7)=[]) (st1:=fun x8=>⟨[V 1 (pt 0 3),V 22 (.osl 1 0 (List.length x8) 1)],[W 0 3 [iv a0.Vars,.fsl 2 (List.map c_S_api_Clause a0.Clauses),.fsl 1 (List.map cI a0.Order)],(1,.rows 1 (List.map cB x8))],2⟩) rfl rfl rfl rfl (fun q _ hc=>aop_app (u:=nilS) (w:=bs x7) (e:=5) (td:=.string) (by kernel_rfl) (by kernel_rfl) (by kernel_rfl) (by kernel_rfl) (.inr rfl) (appendOf_nil (c:=cB) (sz:=1) (b:=1) (by kernel_rfl) (.inl rfl) (rows_str _) q hc)) (fun q _ hc=>aop_app (u:=nilS) (w:=bs x7) (e:=5) (td:=.string) (by kernel_rfl) (by kernel_rfl) (by kernel_rfl) (by kernel_rfl) (.inr rfl) (appendOf_same (c:=cB) (sz:=1) (b:=1) (m:=(bytesI x7)) (by kernel_rfl) (.inl rfl) (rows_str _) q)) (fun _=>rfl) (fun _=>rfl) (fun _=>wkR [(0,some 0),(1,some 1)] (fix_nil _) (pc (hC 0) (pc (hL 1 (noid_map ni_B _)) allp_nil))) (fun q _ hc=>by cases app_same q hc; exact wkR [(0,some 0),(1,none)] (fix_nil _) (pc (hC 0) (pc hZ allp_nil))) ?_
 intro x8 h8
 refine jG 13 1 ⟨[V 1 (pt 0 3),V 3 (.osl 1 0 (List.length x8) 1)],[W 0 3 [iv a0.Vars,.fsl 2 (List.map c_S_api_Clause a0.Clauses),.fsl 1 (List.map cI a0.Order)],(1,.rows 1 (List.map cB x8))],2⟩ ?_
 refine jN ?_
 refine jc_seq ?_
 refine jS ⟨[V 1 (pt 0 3),V 3 (.osl 1 0 (List.length x8) 1),V 4 (iv 0)],[W 0 3 [iv a0.Vars,.fsl 2 (List.map c_S_api_Clause a0.Clauses),.fsl 1 (List.map cI a0.Order)],(1,.rows 1 (List.map cB x8))],2⟩ ?_
 refine jc_block ?_
 refine jc_bind (fun x49=>⟨[V 1 (pt 0 3),V 3 (.osl 1 0 (List.length x49) 1)],[W 0 3 [iv a0.Vars,.fsl 2 (List.map c_S_api_Clause a0.Clauses),.fsl 1 (List.map cI a0.Order)],(1,.rows 1 (List.map cB x49))],2⟩) (fun x49=>(.exit 0)) (jc_loop (fun (x27,x28)=>⟨[V 1 (pt 0 3),V 3 (.osl 1 0 (List.length x27) 1),V 4 (iv x28)],[W 0 3 [iv a0.Vars,.fsl 2 (List.map c_S_api_Clause a0.Clauses),.fsl 1 (List.map cI a0.Order)],(1,.rows 1 (List.map cB x27))],2⟩) (wkR [(0,some 0),(1,some 1)] (fix_nil _) (pc (hC 0) (pc (hL 1 (noid_map ni_B _)) allp_nil))) ?_) ?_
 ·rintro⟨x27,x28⟩
  unfold ref24_Dimacs_l2
  refine jc_seq ?_
  refine jR ?_
  refine jG 0 5 ⟨[V 1 (pt 0 3),V 3 (.osl 1 0 (List.length x27) 1),V 4 (iv x28),V 27 (bv (decide (x28 < (List.length (List.map c_S_api_Clause a0.Clauses):Int))))],[W 0 3 [iv a0.Vars,.fsl 2 (List.map c_S_api_Clause a0.Clauses),.fsl 1 (List.map cI a0.Order)],(1,.rows 1 (List.map cB x27))],2⟩ ?_
  simp only[List.length_map]
  refine jN ?_
  refine jIf ?_ ?_
  ·refine jc_skip ?_
   refine jx_seqN ?_
   refine jc_seq ?_
   refine jc_block ?_
   refine jc_seq ?_
   refine jS ⟨[V 1 (pt 0 3),V 3 (.osl 1 0 (List.length x27) 1),V 4 (iv x28),V 5 (iv 0)],[W 0 3 [iv a0.Vars,.fsl 2 (List.map c_S_api_Clause a0.Clauses),.fsl 1 (List.map cI a0.Order)],(1,.rows 1 (List.map cB x27))],2⟩ ?_
   refine jc_block ?_
   refine jc_bind (fun x66=>⟨[V 1 (pt 0 3),V 3 (.osl 1 0 (List.length x66) 1),V 4 (iv x28)],[W 0 3 [iv a0.Vars,.fsl 2 (List.map c_S_api_Clause a0.Clauses),.fsl 1 (List.map cI a0.Order)],(1,.rows 1 (List.map cB x66))],2⟩) (fun x66=>(.exit 2)) (jc_loop (fun (x56,x57)=>⟨[V 1 (pt 0 3),V 3 (.osl 1 0 (List.length x56) 1),V 4 (iv x28),V 5 (iv x57)],[W 0 3 [iv a0.Vars,.fsl 2 (List.map c_S_api_Clause a0.Clauses),.fsl 1 (List.map cI a0.Order)],(1,.rows 1 (List.map cB x56))],2⟩) (wkR [(0,some 0),(1,some 1)] (fix_nil _) (pc (hC 0) (pc (hL 1 (noid_map ni_B _)) allp_nil))) ?_) ?_
   ·rintro⟨x56,x57⟩
    unfold ref24_Dimacs_l1
    refine jc_seq ?_
    refine jR ?_
    refine jG 0 4 ⟨[V 1 (pt 0 3),V 3 (.osl 1 0 (List.length x56) 1),V 4 (iv x28),V 5 (iv x57),V 30 (iv x57),V 32 (.fsl 2 (List.map c_S_api_Clause a0.Clauses)),V 33 (iv x28)],[W 0 3 [iv a0.Vars,.fsl 2 (List.map c_S_api_Clause a0.Clauses),.fsl 1 (List.map cI a0.Order)],(1,.rows 1 (List.map cB x56))],2⟩ ?_
    refine jr_part (i:=4) (mo:=ixl a0.Clauses x28) rfl rfl rfl rfl (fun _ hc=>aop_ixf (c:=c_S_api_Clause) (sz:=2) (e:=55) (kk:=.i64) (by kernel_rfl) (by kernel_rfl) (by kernel_rfl) (by kernel_rfl) hc) (fun _=>rfl) ?_
    intro x67 h67
    refine jG 5 4 ⟨[V 1 (pt 0 3),V 3 (.osl 1 0 (List.length x56) 1),V 4 (iv x28),V 5 (iv x57),V 38 (bv (decide (x57 < (List.length (List.map cI x67.Lits):Int))))],[W 0 3 [iv a0.Vars,.fsl 2 (List.map c_S_api_Clause a0.Clauses),.fsl 1 (List.map cI a0.Order)],(1,.rows 1 (List.map cB x56))],2⟩ ?_
    simp only[List.length_map]
    refine jN ?_
    refine jIf ?_ ?_
    ·refine jc_skip ?_
     refine jx_seqN ?_
     refine jc_seq ?_
     refine jc_block ?_
     refine jc_reg ?_
     refine jG 0 4 ⟨[V 1 (pt 0 3),V 4 (iv x28),V 5 (iv x57),V 41 (.osl 1 0 (List.length x56) 1),V 43 (.fsl 2 (List.map c_S_api_Clause a0.Clauses)),V 44 (iv x28)],[W 0 3 [iv a0.Vars,.fsl 2 (List.map c_S_api_Clause a0.Clauses),.fsl 1 (List.map cI a0.Order)],(1,.rows 1 (List.map cB x56))],2⟩ ?_
     refine jr_part (i:=4) (mo:=ixl a0.Clauses x28) rfl rfl rfl rfl (fun _ hc=>aop_ixf (c:=c_S_api_Clause) (sz:=2) (e:=55) (kk:=.i64) (by kernel_rfl) (by kernel_rfl) (by kernel_rfl) (by kernel_rfl) hc) (fun _=>rfl) ?_
     intro x68 h68
     refine jG 5 3 ⟨[V 1 (pt 0 3),V 4 (iv x28),V 5 (iv x57),V 41 (.osl 1 0 (List.length x56) 1),V 47 (.fsl 1 (List.map cI x68.Lits)),V 48 (iv x57)],[W 0 3 [iv a0.Vars,.fsl 2 (List.map c_S_api_Clause a0.Clauses),.fsl 1 (List.map cI a0.Order)],(1,.rows 1 (List.map cB x56))],2⟩ ?_
     refine jr_part (i:=8) (mo:=ixl x68.Lits x57) rfl rfl rfl rfl (fun _ hc=>aop_ixf (c:=cI) (sz:=1) (e:=3) (kk:=.i64) (by kernel_rfl) (by kernel_rfl) (by kernel_rfl) (by kernel_rfl) hc) (fun _=>rfl) ?_
     intro x69 h69
     refine jG 9 1 ⟨[V 1 (pt 0 3),V 4 (iv x28),V 5 (iv x57),V 41 (.osl 1 0 (List.length x56) 1),V 50 (iv x69)],[W 0 3 [iv a0.Vars,.fsl 2 (List.map c_S_api_Clause a0.Clauses),.fsl 1 (List.map cI a0.Order)],(1,.rows 1 (List.map cB x56))],2⟩ ?_
     refine jK 10 (ref24_digits_ok x69) ?_
     intro x70 h70
     refine jr_part (i:=11) (mo:=cat x70 [32]) rfl rfl rfl rfl (fun _ hc=>aop_cat (by kernel_rfl) (by kernel_rfl) hc) (fun _=>rfl) ?_
     intro x71 h71
     refine jr_two (i:=12) (C:=(bytesI x71)=[]) (st1:=fun x72=>⟨[V 1 (pt 0 3),V 4 (iv x28),V 5 (iv x57),V 53 (.osl 2 0 (List.length x72) 1)],[W 0 3 [iv a0.Vars,.fsl 2 (List.map c_S_api_Clause a0.Clauses),.fsl 1 (List.map cI a0.Order)],(2,.rows 1 (List.map cB x72))],3⟩) rfl rfl rfl rfl (fun q _ hc=>aop_app (u:=.osl 1 0 (List.length x56) 1) (w:=bs x71) (e:=5) (td:=.string) (by kernel_rfl) (by kernel_rfl) (by kernel_rfl) (by kernel_rfl) (.inr rfl) (appendOf_own (c:=cB) (sz:=1) (b:=1) (id:=1) (by kernel_rfl) (by kernel_rfl) (rows_str _) q hc)) (fun q _ hc=>aop_app (u:=.osl 1 0 (List.length x56) 1) (w:=bs x71) (e:=5) (td:=.string) (by kernel_rfl) (by kernel_rfl) (by kernel_rfl) (by kernel_rfl) (.inr rfl) (appendOf_same (c:=cB) (sz:=1) (b:=1) (m:=(bytesI x71)) (by kernel_rfl) (.inr (.inr ⟨_,_,_,_,rfl⟩)) (rows_str _) q)) (fun _=>rfl) (fun _=>rfl) (fun _=>wkR [(0,some 0),(2,some 2)] (fix_nil _) (pc (hC 0) (pc (hL 2 (noid_map ni_B _)) allp_nil))) (fun q _ hc=>by cases app_same q hc; exact wkR [(0,some 0),(2,some 1)] (fix_nil _) (pc (hC 0) (pc (hL 1 (noid_map ni_B _)) allp_nil))) ?_
     intro x72 h72
     refine jG 13 1 ⟨[V 1 (pt 0 3),V 3 (.osl 2 0 (List.length x72) 1),V 4 (iv x28),V 5 (iv x57)],[W 0 3 [iv a0.Vars,.fsl 2 (List.map c_S_api_Clause a0.Clauses),.fsl 1 (List.map cI a0.Order)],(2,.rows 1 (List.map cB x72))],3⟩ ?_
     refine jr_nil rfl ?_
     refine jx_blkN ?_
     refine jx_seqN ?_
     refine jT ⟨[V 1 (pt 0 3),V 3 (.osl 2 0 (List.length x72) 1),V 4 (iv x28),V 5 (iv (w64 (x57 + 1)))],[W 0 3 [iv a0.Vars,.fsl 2 (List.map c_S_api_Clause a0.Clauses),.fsl 1 (List.map cI a0.Order)],(2,.rows 1 (List.map cB x72))],3⟩ ?_
     exact jx_next (wkR [(0,some 0),(1,some 2)] (fix_nil _) (pc (hC 0) (pc (hL 2 (noid_map ni_B _)) allp_nil)))
    refine jc_exit ?_
    refine jx_seqE ?_
    exact jx_done rfl nofun (wkR [(0,some 0),(1,some 1)] (fix_nil _) (pc (hC 0) (pc (hL 1 (noid_map ni_B _)) allp_nil)))
   intro x66
   refine jx_blkE ?_
   refine jx_seqN ?_
   refine jc_reg ?_
   refine jG 0 1 ⟨[V 1 (pt 0 3),V 4 (iv x28),V 54 (.osl 1 0 (List.length x66) 1)],[W 0 3 [iv a0.Vars,.fsl 2 (List.map c_S_api_Clause a0.Clauses),.fsl 1 (List.map cI a0.Order)],(1,.rows 1 (List.map cB x66))],2⟩ ?_
   refine jr_part (i:=1) (mo:=app 1 x66 [48,10]) rfl rfl rfl rfl (fun _ hc=>aop_app (u:=.osl 1 0 (List.length x66) 1) (w:=bs [48,10]) (e:=5) (td:=.string) (by kernel_rfl) (by kernel_rfl) (by kernel_rfl) (by kernel_rfl) (.inr rfl) (appendOf_own (c:=cB) (sz:=1) (b:=1) (id:=1) (by kernel_rfl) (by kernel_rfl) (show rowsOf _ 1 (bs [48,10])=some (List.map cB ([48,10]:List Int)) by kernel_rfl) (List.cons_ne_nil _ _) hc)) (fun _=>rfl) ?_
   intro x73 h73
   refine jG 2 1 ⟨[V 1 (pt 0 3),V 3 (.osl 2 0 (List.length x73) 1),V 4 (iv x28)],[W 0 3 [iv a0.Vars,.fsl 2 (List.map c_S_api_Clause a0.Clauses),.fsl 1 (List.map cI a0.Order)],(2,.rows 1 (List.map cB x73))],3⟩ ?_
   refine jr_nil rfl ?_
   refine jx_blkN ?_
   refine jx_seqN ?_
   refine jT ⟨[V 1 (pt 0 3),V 3 (.osl 2 0 (List.length x73) 1),V 4 (iv (w64 (x28 + 1)))],[W 0 3 [iv a0.Vars,.fsl 2 (List.map c_S_api_Clause a0.Clauses),.fsl 1 (List.map cI a0.Order)],(2,.rows 1 (List.map cB x73))],3⟩ ?_
   exact jx_next (wkR [(0,some 0),(1,some 2)] (fix_nil _) (pc (hC 0) (pc (hL 2 (noid_map ni_B _)) allp_nil)))
  refine jc_exit ?_
  refine jx_seqE ?_
  exact jx_done rfl nofun (wkR [(0,some 0),(1,some 1)] (fix_nil _) (pc (hC 0) (pc (hL 1 (noid_map ni_B _)) allp_nil)))
 intro x49
 refine jx_blkE ?_
 refine jx_seqN ?_
 refine jc_seq ?_
 refine jc_bind (fun x89=>⟨[V 3 (.osl 0 0 (List.length x89) 1)],[(0,.rows 1 (List.map cB x89))],1⟩) (fun x89=>.normal) ?_ ?_
 ·refine jR ?_
  refine jG 0 4 ⟨[V 1 (pt 0 3),V 3 (.osl 1 0 (List.length x49) 1),V 59 (bv (decide ((List.length (List.map cI a0.Order):Int) > 0)))],[W 0 3 [iv a0.Vars,.fsl 2 (List.map c_S_api_Clause a0.Clauses),.fsl 1 (List.map cI a0.Order)],(1,.rows 1 (List.map cB x49))],2⟩ ?_
  simp only[List.length_map]
  refine jN ?_
  refine jIf ?_ ?_
  ·refine jR ?_
   refine jG 0 1 ⟨[V 1 (pt 0 3),V 60 (.osl 1 0 (List.length x49) 1)],[W 0 3 [iv a0.Vars,.fsl 2 (List.map c_S_api_Clause a0.Clauses),.fsl 1 (List.map cI a0.Order)],(1,.rows 1 (List.map cB x49))],2⟩ ?_
   refine jr_part (i:=1) (mo:=app 1 x49 [99,32,111,114,100,101,114]) rfl rfl rfl rfl (fun _ hc=>aop_app (u:=.osl 1 0 (List.length x49) 1) (w:=bs [99,32,111,114,100,101,114]) (e:=5) (td:=.string) (by kernel_rfl) (by kernel_rfl) (by kernel_rfl) (by kernel_rfl) (.inr rfl) (appendOf_own (c:=cB) (sz:=1) (b:=1) (id:=1) (by kernel_rfl) (by kernel_rfl) (show rowsOf _ 1 (bs [99,32,111,114,100,101,114])=some (List.map cB ([99,32,111,114,100,101,114]:List Int)) by kernel_rfl) (List.cons_ne_nil _ _) hc)) (fun _=>rfl) ?_
   intro x90 h90
   refine jG 2 1 ⟨[V 1 (pt 0 3),V 3 (.osl 2 0 (List.length x90) 1)],[W 0 3 [iv a0.Vars,.fsl 2 (List.map c_S_api_Clause a0.Clauses),.fsl 1 (List.map cI a0.Order)],(2,.rows 1 (List.map cB x90))],3⟩ ?_
   refine jN ?_
   refine jc_seq ?_
   refine jS ⟨[V 1 (pt 0 3),V 3 (.osl 2 0 (List.length x90) 1),V 6 (iv 0)],[W 0 3 [iv a0.Vars,.fsl 2 (List.map c_S_api_Clause a0.Clauses),.fsl 1 (List.map cI a0.Order)],(2,.rows 1 (List.map cB x90))],3⟩ ?_
   refine jc_block ?_
   refine jc_bind (fun x103=>⟨[V 3 (.osl 0 0 (List.length x103) 1)],[(0,.rows 1 (List.map cB x103))],1⟩) (fun x103=>(.exit 4)) (jc_loop (fun (x95,x96)=>⟨[V 1 (pt 0 3),V 3 (.osl 1 0 (List.length x95) 1),V 6 (iv x96)],[W 0 3 [iv a0.Vars,.fsl 2 (List.map c_S_api_Clause a0.Clauses),.fsl 1 (List.map cI a0.Order)],(1,.rows 1 (List.map cB x95))],2⟩) (wkR [(0,some 0),(1,some 2)] (fix_nil _) (pc (hC 0) (pc (hL 2 (noid_map ni_B _)) allp_nil))) ?_) ?_
   ·rintro⟨x95,x96⟩
    unfold ref24_Dimacs_l3
    refine jc_seq ?_
    refine jR ?_
    refine jG 0 5 ⟨[V 1 (pt 0 3),V 3 (.osl 1 0 (List.length x95) 1),V 6 (iv x96),V 66 (bv (decide (x96 < (List.length (List.map cI a0.Order):Int))))],[W 0 3 [iv a0.Vars,.fsl 2 (List.map c_S_api_Clause a0.Clauses),.fsl 1 (List.map cI a0.Order)],(1,.rows 1 (List.map cB x95))],2⟩ ?_
    simp only[List.length_map]
    refine jN ?_
    refine jIf ?_ ?_
    ·refine jc_skip ?_
     refine jx_seqN ?_
     refine jc_seq ?_
     refine jc_block ?_
     refine jc_reg ?_
     refine jG 0 4 ⟨[V 1 (pt 0 3),V 6 (iv x96),V 69 (.osl 1 0 (List.length x95) 1),V 71 (.fsl 1 (List.map cI a0.Order)),V 72 (iv x96)],[W 0 3 [iv a0.Vars,.fsl 2 (List.map c_S_api_Clause a0.Clauses),.fsl 1 (List.map cI a0.Order)],(1,.rows 1 (List.map cB x95))],2⟩ ?_
     refine jr_part (i:=4) (mo:=ixl a0.Order x96) rfl rfl rfl rfl (fun _ hc=>aop_ixf (c:=cI) (sz:=1) (e:=3) (kk:=.i64) (by kernel_rfl) (by kernel_rfl) (by kernel_rfl) (by kernel_rfl) hc) (fun _=>rfl) ?_
     intro x104 h104
     refine jG 5 1 ⟨[V 1 (pt 0 3),V 6 (iv x96),V 69 (.osl 1 0 (List.length x95) 1),V 74 (iv x104)],[W 0 3 [iv a0.Vars,.fsl 2 (List.map c_S_api_Clause a0.Clauses),.fsl 1 (List.map cI a0.Order)],(1,.rows 1 (List.map cB x95))],2⟩ ?_
     refine jK 6 (ref24_digits_ok x104) ?_
     intro x105 h105
     refine jr_part (i:=7) (mo:=cat [32] x105) rfl rfl rfl rfl (fun _ hc=>aop_cat (by kernel_rfl) (by kernel_rfl) hc) (fun _=>rfl) ?_
     intro x106 h106
     refine jr_two (i:=8) (C:=(bytesI x106)=[]) (st1:=fun x107=>⟨[V 1 (pt 0 3),V 6 (iv x96),V 77 (.osl 2 0 (List.length x107) 1)],[W 0 3 [iv a0.Vars,.fsl 2 (List.map c_S_api_Clause a0.Clauses),.fsl 1 (List.map cI a0.Order)],(2,.rows 1 (List.map cB x107))],3⟩) rfl rfl rfl rfl (fun q _ hc=>aop_app (u:=.osl 1 0 (List.length x95) 1) (w:=bs x106) (e:=5) (td:=.string) (by kernel_rfl) (by kernel_rfl) (by kernel_rfl) (by kernel_rfl) (.inr rfl) (appendOf_own (c:=cB) (sz:=1) (b:=1) (id:=1) (by kernel_rfl) (by kernel_rfl) (rows_str _) q hc)) (fun q _ hc=>aop_app (u:=.osl 1 0 (List.length x95) 1) (w:=bs x106) (e:=5) (td:=.string) (by kernel_rfl) (by kernel_rfl) (by kernel_rfl) (by kernel_rfl) (.inr rfl) (appendOf_same (c:=cB) (sz:=1) (b:=1) (m:=(bytesI x106)) (by kernel_rfl) (.inr (.inr ⟨_,_,_,_,rfl⟩)) (rows_str _) q)) (fun _=>rfl) (fun _=>rfl) (fun _=>wkR [(0,some 0),(2,some 2)] (fix_nil _) (pc (hC 0) (pc (hL 2 (noid_map ni_B _)) allp_nil))) (fun q _ hc=>by cases app_same q hc; exact wkR [(0,some 0),(2,some 1)] (fix_nil _) (pc (hC 0) (pc (hL 1 (noid_map ni_B _)) allp_nil))) ?_
     intro x107 h107
     refine jG 9 1 ⟨[V 1 (pt 0 3),V 3 (.osl 2 0 (List.length x107) 1),V 6 (iv x96)],[W 0 3 [iv a0.Vars,.fsl 2 (List.map c_S_api_Clause a0.Clauses),.fsl 1 (List.map cI a0.Order)],(2,.rows 1 (List.map cB x107))],3⟩ ?_
     refine jr_nil rfl ?_
     refine jx_blkN ?_
     refine jx_seqN ?_
     refine jT ⟨[V 1 (pt 0 3),V 3 (.osl 2 0 (List.length x107) 1),V 6 (iv (w64 (x96 + 1)))],[W 0 3 [iv a0.Vars,.fsl 2 (List.map c_S_api_Clause a0.Clauses),.fsl 1 (List.map cI a0.Order)],(2,.rows 1 (List.map cB x107))],3⟩ ?_
     exact jx_next (wkR [(0,some 0),(1,some 2)] (fix_nil _) (pc (hC 0) (pc (hL 2 (noid_map ni_B _)) allp_nil)))
    refine jc_exit ?_
    refine jx_seqE ?_
    exact jx_done rfl nofun (wkR [(0,some 1)] (fix_nil _) (pc (hL 1 (noid_map ni_B _)) allp_nil))
   intro x103
   refine jx_blkE ?_
   refine jx_seqN ?_
   refine jc_reg ?_
   refine jG 0 2 ⟨[V 78 (.osl 0 0 (List.length x103) 1),V 79 (.osl 1 0 (List.length [10]) 1)],[(0,.rows 1 (List.map cB x103)),(1,.rows 1 (List.map cB [10]))],2⟩ ?_
   refine jr_part (i:=2) (mo:=app 1 x103 [10]) rfl rfl rfl rfl (fun _ hc=>aop_app (u:=.osl 0 0 (List.length x103) 1) (w:=.osl 1 0 (List.length [10]) 1) (e:=5) (td:=.slice 5) (by kernel_rfl) (by kernel_rfl) (by kernel_rfl) (by kernel_rfl) (.inl ⟨_,rfl⟩) (appendOf_own (c:=cB) (sz:=1) (b:=1) (id:=0) (by kernel_rfl) (by kernel_rfl) (rows_own (by kernel_rfl)) (List.cons_ne_nil _ _) hc)) (fun _=>rfl) ?_
   intro x108 h108
   refine jG 3 1 ⟨[V 3 (.osl 2 0 (List.length x108) 1)],[(2,.rows 1 (List.map cB x108))],3⟩ ?_
   refine jr_nil rfl ?_
   exact jx_mid rfl (wkR [(0,some 2)] (fix_nil _) (pc (hL 2 (noid_map ni_B _)) allp_nil))
  refine jc_skip ?_
  exact jx_mid rfl (wkR [(0,some 1)] (fix_nil _) (pc (hL 1 (noid_map ni_B _)) allp_nil))
 intro x89
 refine jx_seqN ?_
 refine jR ?_
 refine jG 0 1 ⟨[V 81 (.osl 0 0 (List.length x89) 1)],[(0,.rows 1 (List.map cB x89))],1⟩ ?_
 refine jr_one (i:=1) rfl rfl rfl rfl (aop_ofb_o (e:=5) (id:=0) (l:=x89) (by kernel_rfl) (by kernel_rfl) (by kernel_rfl) (by kernel_rfl) (by kernel_rfl)) rfl ?_
 refine jG 2 1 ⟨[V 2 (bs (ofb x89))],[],2⟩ ?_
 refine jN ?_
 refine jc_ret ?_
 exact jx_retF (.inr rfl) (v:=bs (ofb x89)) (by kernel_rfl) rfl (fle_refl _))
abbrev cnf_reader_ok_s6db9_r1:List LO:=[lo 2 (.assign (.const (.bool false))) 4]
abbrev cnf_reader_ok_s6db9_r2:List LO:=[lm 3 0 90,lo 4 (.nilCheck (.tmp 3)) 0,lo 5 (.fieldAddr 92 (.tmp 4) 2) 0,lo 6 (.fieldAddr 50 (.tmp 5) 0) 0,lo 7 (.load 38 (.tmp 6)) 38,lo 8 (.binOp .eql 38 (.tmp 7) (.const (.int .i64 0)) 38) 4,lo 2 (.assign (.tmp 8)) 4]
abbrev cnf_reader_ok_s6db9_c:LC:=.seq (.reg false cnf_reader_ok_s6db9_r1) (.seq (.reg false cnf_reader_ok_s6db9_r2) .ret)
theorem cnf_reader_ok_s6db9_k:FnOk E 58 9 [.tmp 2] cnf_reader_ok_s6db9_c:=⟨⟨Go.Proofs.Tryd.f58,by kernel_rfl,by kernel_rfl,by kernel_rfl,by kernel_rfl,by kernel_rfl⟩,rfl,rfl⟩
noncomputable def cnf_reader_ok_s6db9 (a0:Str) (a1:Int) (a2:Int) (a3:Int):Option (Bool):=some (a2 == 0)
theorem cnf_reader_ok_s6db9_ok (a0:Str) (a1:Int) (a2:Int) (a3:Int):Ct E 58 [.fptr [bs a0,iv a1,iv a2,iv a3] 0] (cnf_reader_ok_s6db9 a0 a1 a2 a3) (fun r:Bool=>bv r):=ct_intro (N:=9) (L:=cnf_reader_ok_s6db9_c) cnf_reader_ok_s6db9_k rfl (Nat.le_of_ble_eq_true rfl) (by kernel_rfl) (by
 unfold cnf_reader_ok_s6db9
 refine jS ⟨[V 0 (.fptr [bs a0,iv a1,iv a2,iv a3] 0)],[],0⟩ ?_
 refine jS ⟨[V 2 (bv (a2 == 0))],[],0⟩ ?_
 refine jc_ret ?_
 exact jx_retF (.inr rfl) (v:=bv (a2 == 0)) (by kernel_rfl) rfl (fle_refl _))
abbrev cnf_reader_stuck_r1:List LO:=[lm 2 0 90,lo 3 (.call ⟨.value (.func 58),#[.tmp 2],#[90]⟩) 4,lo 4 (.unOp .not 4 (.tmp 3)) 4]
abbrev cnf_reader_stuck_r2:List LO:=[lm 5 0 90,lm 6 0 90,lo 7 (.nilCheck (.tmp 6)) 0,lo 8 (.fieldAddr 92 (.tmp 7) 1) 0,lo 9 (.load 3 (.tmp 8)) 3,lo 10 (.build 50 #[(0,.const (.int .i64 10)),(1,.tmp 9)]) 50,lo 11 (.nilCheck (.tmp 5)) 0,lo 12 (.fieldAddr 92 (.tmp 11) 2) 0,ln (.store 50 (.tmp 12) (.tmp 10)) 0]
abbrev cnf_reader_stuck_r3:List LO:=[lm 13 0 90,lo 14 (.nilCheck (.tmp 13)) 0,lo 15 (.fieldAddr 92 (.tmp 14) 1) 0,lo 16 (.load 3 (.tmp 15)) 3,lm 17 0 90,lo 18 (.nilCheck (.tmp 17)) 0,lo 19 (.fieldAddr 92 (.tmp 18) 0) 0,lo 20 (.load 9 (.tmp 19)) 9,lo 21 (.call ⟨.builtin .len,#[.tmp 20],#[9]⟩) 3,lo 22 (.binOp .geq 3 (.tmp 16) (.tmp 21) 3) 4]
abbrev cnf_reader_stuck_r4:List LO:=[lm 23 0 90,lm 24 0 90,lo 25 (.nilCheck (.tmp 24)) 0,lo 26 (.fieldAddr 92 (.tmp 25) 0) 0,lo 27 (.load 9 (.tmp 26)) 9,lo 28 (.call ⟨.builtin .len,#[.tmp 27],#[9]⟩) 3,lo 29 (.build 50 #[(0,.const (.int .i64 11)),(1,.tmp 28)]) 50,lo 30 (.nilCheck (.tmp 23)) 0,lo 31 (.fieldAddr 92 (.tmp 30) 2) 0,ln (.store 50 (.tmp 31) (.tmp 29)) 0]
abbrev cnf_reader_stuck_c:LC:=.seq (.seq (.reg false cnf_reader_stuck_r1) (.cond (.tmp 4) .ret .skip)) (.seq (.reg false cnf_reader_stuck_r2) (.seq (.reg true cnf_reader_stuck_r3) (.cond (.tmp 22) (.reg false cnf_reader_stuck_r4) .skip)))
theorem cnf_reader_stuck_k:FnOk E 61 32 [] cnf_reader_stuck_c:=⟨⟨Go.Proofs.Tryd.f61,by kernel_rfl,by kernel_rfl,by kernel_rfl,by kernel_rfl,by kernel_rfl⟩,rfl,rfl⟩
abbrev cnf_reader_stuck_T (a0:Str) (a1:Int) (a2:Int) (a3:Int) (r:Int × Int):CS:=⟨[],[W 0 4 [bs a0,iv a1,iv r.1,iv r.2]],1⟩
noncomputable def cnf_reader_stuck (a0:Str) (a1:Int) (a2:Int) (a3:Int):Option (Int × Int):=Option.bind (cnf_reader_ok_s6db9 a0 a1 a2 a3) (fun x4=>(if (!x4)=true then some (a2,a3) else (if (decide (a1≥(List.length a0:Int)))=true then some (11,(List.length a0:Int)) else some (10,a1))))
theorem cnf_reader_stuck_ok (a0:Str) (a1:Int) (a2:Int) (a3:Int):CtM E 61 [pt 0 4] [W 0 4 [bs a0,iv a1,iv a2,iv a3]] 1 (cnf_reader_stuck a0 a1 a2 a3) (fun r:Int × Int=>.tup []) (fun r:Int × Int=>[W 0 4 [bs a0,iv a1,iv r.1,iv r.2]]) 1:=ctm_intro (N:=32) (L:=cnf_reader_stuck_c) cnf_reader_stuck_k rfl (Nat.le_of_ble_eq_true rfl) (fun F hF=>by
 unfold cnf_reader_stuck
 refine jc_seq ?_
 refine jR ?_
 refine jG 0 1 ⟨[V 0 (pt 0 4),V 2 (pt 0 4)],[W 0 4 [bs a0,iv a1,iv a2,iv a3]],1⟩ ?_
 refine jr_callF (i:=1) rfl rfl rfl rfl (vs:=[pt 0 4]) (vs0:=[.fptr [bs a0,iv a1,iv a2,iv a3] 0]) (b:=true) (by kernel_rfl) (by kernel_rfl) (all2_cons (fle_refl _) all2_nil) (cnf_reader_ok_s6db9_ok a0 a1 a2 a3) (fun _=>rfl) (fun _=>rfl) ?_
 intro x4 h4
 refine jG 2 1 ⟨[V 0 (pt 0 4),V 4 (bv (!x4))],[W 0 4 [bs a0,iv a1,iv a2,iv a3]],1⟩ ?_
 refine jN ?_
 refine jIf ?_ ?_
 ·refine jc_ret ?_
  refine jx_seqR ?_
  exact jx_retM (cnf_reader_stuck_T a0 a1 a2 a3 (a2,a3)) (.inr rfl) (wkR [(0,some 0)] (fix_of hF (k:=1) rfl) (pc (hC 0) allp_nil))
 refine jc_skip ?_
 refine jx_seqN ?_
 refine jS ⟨[V 0 (pt 0 4)],[W 0 4 [bs a0,iv a1,iv 10,iv a1]],1⟩ ?_
 refine jS ⟨[V 0 (pt 0 4),V 22 (bv (decide (a1≥(List.length a0:Int))))],[W 0 4 [bs a0,iv a1,iv 10,iv a1]],1⟩ ?_
 refine jIf ?_ ?_
 ·refine jT ⟨[],[W 0 4 [bs a0,iv a1,iv 11,iv (List.length a0:Int)]],1⟩ ?_
  exact jx_retM (cnf_reader_stuck_T a0 a1 a2 a3 (11,(List.length a0:Int))) (.inl rfl) (wkR [(0,some 0)] (fix_of hF (k:=1) rfl) (pc (hC 0) allp_nil))
 refine jc_skip ?_
 exact jx_retM (cnf_reader_stuck_T a0 a1 a2 a3 (10,a1)) (.inl rfl) (wkR [(0,some 0)] (fix_of hF (k:=1) rfl) (pc (hC 0) allp_nil)))
abbrev cnf_reader_must_r1:List LO:=[lo 4 (.assign (.const (.int .i64 0))) 3]
abbrev cnf_reader_must_r2:List LO:=[lm 5 4 3,lm 6 1 9,lo 7 (.call ⟨.builtin .len,#[.tmp 6],#[9]⟩) 3,lo 8 (.binOp .lss 3 (.tmp 5) (.tmp 7) 3) 4,lm 9 8 4,lmg 10 0 90 9 true,lg 11 (.call ⟨.value (.func 58),#[.tmp 10],#[90]⟩) 4 9 true,lo 12 (.pick (.tmp 9) (.tmp 11) (.const (.bool false))) 4]
abbrev cnf_reader_must_r3:List LO:=[lm 15 0 90,lo 16 (.nilCheck (.tmp 15)) 0,lo 17 (.fieldAddr 92 (.tmp 16) 1) 0,lo 18 (.load 3 (.tmp 17)) 3,lm 19 0 90,lo 20 (.nilCheck (.tmp 19)) 0,lo 21 (.fieldAddr 92 (.tmp 20) 0) 0,lo 22 (.load 9 (.tmp 21)) 9,lo 23 (.call ⟨.builtin .len,#[.tmp 22],#[9]⟩) 3,lo 24 (.binOp .geq 3 (.tmp 18) (.tmp 23) 3) 4,lm 25 24 4,lmg 26 0 90 25 false,lg 27 (.nilCheck (.tmp 26)) 0 25 false,lg 28 (.fieldAddr 92 (.tmp 27) 0) 0 25 false,lg 29 (.load 9 (.tmp 28)) 9 25 false,lmg 30 0 90 25 false,lg 31 (.nilCheck (.tmp 30)) 0 25 false,lg 32 (.fieldAddr 92 (.tmp 31) 1) 0 25 false,lg 33 (.load 3 (.tmp 32)) 3 25 false,lg 34 (.index 9 (.tmp 29) (.tmp 33)) 5 25 false,lmg 35 1 9 25 false,lmg 36 4 3 25 false,lg 37 (.index 9 (.tmp 35) (.tmp 36)) 5 25 false,lg 38 (.binOp .neq 5 (.tmp 34) (.tmp 37) 5) 4 25 false,lo 39 (.pick (.tmp 25) (.const (.bool true)) (.tmp 38)) 4]
abbrev cnf_reader_must_r4:List LO:=[lm 40 0 90,lo 41 (.call ⟨.value (.func 61),#[.tmp 40],#[90]⟩) 0]
abbrev cnf_reader_must_r5:List LO:=[lm 42 0 90,lo 43 (.nilCheck (.tmp 42)) 0,lo 44 (.fieldAddr 92 (.tmp 43) 1) 0,lo 45 (.load 3 (.tmp 44)) 3,lo 46 (.binOp .add 3 (.tmp 45) (.const (.int .i64 1)) 3) 3,lo 47 (.nilCheck (.tmp 42)) 0,lo 48 (.fieldAddr 92 (.tmp 47) 1) 0,ln (.store 3 (.tmp 48) (.tmp 46)) 0]
abbrev cnf_reader_must_r6:List LO:=[lm 13 4 3,lo 14 (.binOp .add 3 (.tmp 13) (.const (.int .i64 1)) 3) 3,lo 4 (.assign (.tmp 14)) 3]
abbrev cnf_reader_must_c:LC:=.seq (.reg false cnf_reader_must_r1) (.block 0 (.loop (.seq (.seq (.reg false cnf_reader_must_r2) (.cond (.tmp 12) .skip (.exit 0))) (.seq (.block 1 (.seq (.seq (.reg true cnf_reader_must_r3) (.cond (.tmp 39) (.seq (.reg false cnf_reader_must_r4) .ret) .skip)) (.reg false cnf_reader_must_r5))) (.reg false cnf_reader_must_r6)))))
theorem cnf_reader_must_k:FnOk E 56 49 [] cnf_reader_must_c:=⟨⟨Go.Proofs.Tryd.f56,by kernel_rfl,by kernel_rfl,by kernel_rfl,by kernel_rfl,by kernel_rfl⟩,rfl,rfl⟩
noncomputable def cnf_reader_must_l1 (a0:Str) (a2:Int) (a3:Int) (a4:Str):(Int × Int)→Option (Step (Int × Int) ((Int × Int × Int) ⊕ (Int))):=fun (x33,x34)=>Option.bind (if (decide (x34 < (List.length a4:Int)))=true then Option.bind (cnf_reader_ok_s6db9 a0 x33 a2 a3) (fun x50=>some x50) else some false:Option (Bool)) (fun x49=>(if x49=true then Option.bind (if (decide (x33≥(List.length a0:Int)))=true then some true else Option.bind (idx a0 x33) (fun x54=>Option.bind (idx a4 x34) (fun x55=>some (x54 != x55))):Option (Bool)) (fun x53=>(if x53=true then Option.bind (cnf_reader_stuck a0 x33 a2 a3) (fun (x56,x57)=>some (Step.done (Sum.inl (x33,x56,x57)))) else some (Step.next ((w64 (x33 + 1)),(w64 (x34 + 1)))))) else some (Step.done (Sum.inr x33))))
abbrev cnf_reader_must_T (a0:Str) (a1:Int) (a2:Int) (a3:Int) (a4:Str) (r:Int × Int × Int):CS:=⟨[],[W 0 4 [bs a0,iv r.1,iv r.2.1,iv r.2.2]],1⟩
noncomputable def cnf_reader_must (a0:Str) (a1:Int) (a2:Int) (a3:Int) (a4:Str):Option (Int × Int × Int):=Option.bind (loopC (cnf_reader_must_l1 a0 a2 a3 a4) (a1,0)) (fun y=>match y with | Sum.inl (x44,x45,x46)=>some (x44,x45,x46) | Sum.inr x47=>some (x47,a2,a3))
theorem cnf_reader_must_ok (a0:Str) (a1:Int) (a2:Int) (a3:Int) (a4:Str):CtM E 56 [pt 0 4,bs a4] [W 0 4 [bs a0,iv a1,iv a2,iv a3]] 1 (cnf_reader_must a0 a1 a2 a3 a4) (fun r:Int × Int × Int=>.tup []) (fun r:Int × Int × Int=>[W 0 4 [bs a0,iv r.1,iv r.2.1,iv r.2.2]]) 1:=ctm_intro (N:=49) (L:=cnf_reader_must_c) cnf_reader_must_k rfl (Nat.le_of_ble_eq_true rfl) (fun F hF=>by
 unfold cnf_reader_must
 refine jS ⟨[V 0 (pt 0 4),V 1 (bs a4),V 4 (iv 0)],[W 0 4 [bs a0,iv a1,iv a2,iv a3]],1⟩ ?_
 refine jc_block ?_
 refine jc_bind (fun y=>match y with | Sum.inl (x44,x45,x46)=>⟨[],[W 0 4 [bs a0,iv x44,iv x45,iv x46]],1⟩ | Sum.inr x47=>⟨[],[W 0 4 [bs a0,iv x47,iv a2,iv a3]],1⟩) (fun y=>match y with | Sum.inl (x44,x45,x46)=>.ret | Sum.inr x47=>(.exit 0)) (jc_loop (fun (x33,x34)=>⟨[V 0 (pt 0 4),V 1 (bs a4),V 4 (iv x34)],[W 0 4 [bs a0,iv x33,iv a2,iv a3]],1⟩) (wkR [(0,some 0)] (fix_of hF (k:=1) rfl) (pc (hC 0) allp_nil)) ?_) ?_
 ·rintro⟨x33,x34⟩
  unfold cnf_reader_must_l1
  refine jc_seq ?_
  refine jR ?_
  refine jG 0 5 ⟨[V 0 (pt 0 4),V 1 (bs a4),V 4 (iv x34),V 9 (bv (decide (x34 < (List.length a4:Int))))],[W 0 4 [bs a0,iv x33,iv a2,iv a3]],1⟩ ?_
  refine jr_bind 5 3 (fun x49=>⟨[V 0 (pt 0 4),V 1 (bs a4),V 4 (iv x34),V 12 (bv x49)],[W 0 4 [bs a0,iv x33,iv a2,iv a3]],1⟩) ?_ ?_
  ·refine jSp 9 ?_ ?_
   ·refine jG 0 1 ⟨[V 0 (pt 0 4),V 1 (bs a4),V 4 (iv x34),(9,.lit true),V 10 (pt 0 4)],[W 0 4 [bs a0,iv x33,iv a2,iv a3]],1⟩ ?_
    refine jr_callF (i:=1) rfl rfl rfl rfl (vs:=[pt 0 4]) (vs0:=[.fptr [bs a0,iv x33,iv a2,iv a3] 0]) (b:=true) (by kernel_rfl) (by kernel_rfl) (all2_cons (fle_refl _) all2_nil) (cnf_reader_ok_s6db9_ok a0 x33 a2 a3) (fun _=>rfl) (fun _=>rfl) ?_
    intro x50 h50
    refine jG 2 1 ⟨[V 0 (pt 0 4),V 1 (bs a4),V 4 (iv x34),V 12 (bv x50)],[W 0 4 [bs a0,iv x33,iv a2,iv a3]],1⟩ ?_
    refine jr_nil rfl ?_
    exact jx_mid rfl (wkR [(0,some 0)] (fix_of hF (k:=1) rfl) (pc (hC 0) allp_nil))
   refine jG 0 3 ⟨[V 0 (pt 0 4),V 1 (bs a4),V 4 (iv x34),V 12 (bv false)],[W 0 4 [bs a0,iv x33,iv a2,iv a3]],1⟩ ?_
   refine jr_nil rfl ?_
   exact jx_mid rfl (wkR [(0,some 0)] (fix_of hF (k:=1) rfl) (pc (hC 0) allp_nil))
  intro x49
  refine jN ?_
  refine jIf ?_ ?_
  ·refine jc_skip ?_
   refine jx_seqN ?_
   refine jc_seq ?_
   refine jc_block ?_
   refine jc_seq ?_
   refine jR ?_
   refine jG 0 11 ⟨[V 0 (pt 0 4),V 1 (bs a4),V 4 (iv x34),V 25 (bv (decide (x33≥(List.length a0:Int))))],[W 0 4 [bs a0,iv x33,iv a2,iv a3]],1⟩ ?_
   refine jr_bind 11 14 (fun x53=>⟨[V 0 (pt 0 4),V 1 (bs a4),V 4 (iv x34),V 39 (bv x53)],[W 0 4 [bs a0,iv x33,iv a2,iv a3]],1⟩) ?_ ?_
   ·refine jSp 25 ?_ ?_
    ·refine jG 0 14 ⟨[V 0 (pt 0 4),V 1 (bs a4),V 4 (iv x34),V 39 (bv true)],[W 0 4 [bs a0,iv x33,iv a2,iv a3]],1⟩ ?_
     refine jr_nil rfl ?_
     exact jx_mid rfl (wkR [(0,some 0)] (fix_of hF (k:=1) rfl) (pc (hC 0) allp_nil))
    refine jG 0 8 ⟨[V 0 (pt 0 4),V 1 (bs a4),V 4 (iv x34),(25,.lit false),V 29 (bs a0),V 33 (iv x33)],[W 0 4 [bs a0,iv x33,iv a2,iv a3]],1⟩ ?_
    refine jr_part (i:=8) (mo:=idx a0 x33) rfl rfl rfl rfl (fun _ hc=>aop_index (kk:=.i64) (by kernel_rfl) (by kernel_rfl) (by kernel_rfl) hc) (fun _=>rfl) ?_
    intro x54 h54
    refine jG 9 2 ⟨[V 0 (pt 0 4),V 1 (bs a4),V 4 (iv x34),(25,.lit false),V 34 (.s (.int .u8 x54)),V 35 (bs a4),V 36 (iv x34)],[W 0 4 [bs a0,iv x33,iv a2,iv a3]],1⟩ ?_
    refine jr_part (i:=11) (mo:=idx a4 x34) rfl rfl rfl rfl (fun _ hc=>aop_index (kk:=.i64) (by kernel_rfl) (by kernel_rfl) (by kernel_rfl) hc) (fun _=>rfl) ?_
    intro x55 h55
    refine jG 12 2 ⟨[V 0 (pt 0 4),V 1 (bs a4),V 4 (iv x34),V 39 (bv (x54 != x55))],[W 0 4 [bs a0,iv x33,iv a2,iv a3]],1⟩ ?_
    refine jr_nil rfl ?_
    exact jx_mid rfl (wkR [(0,some 0)] (fix_of hF (k:=1) rfl) (pc (hC 0) allp_nil))
   intro x53
   refine jN ?_
   refine jIf ?_ ?_
   ·refine jR ?_
    refine jG 0 1 ⟨[V 40 (pt 0 4)],[W 0 4 [bs a0,iv x33,iv a2,iv a3]],1⟩ ?_
    refine jr_callM 1 [(0,some 0)] [(0,some 0)] (fun r:Int × Int=>[W 0 4 [bs a0,iv x33,iv r.1,iv r.2]]) (fun r:Int × Int=>.tup []) 1 (cnf_reader_stuck_ok a0 x33 a2 a3) (pc (hC 0) allp_nil) (fun r=>(pc (.inr (hC 0)) allp_nil)) ?_
    rintro⟨x56,x57⟩ hm5
    refine jN ?_
    refine jc_ret ?_
    refine jx_seqR ?_
    refine jx_blkR ?_
    refine jx_seqR ?_
    exact jx_done rfl nofun (wkR [(0,some 0)] (fix_of hF (k:=1) rfl) (pc (hC 0) allp_nil))
   refine jc_skip ?_
   refine jx_seqN ?_
   refine jT ⟨[V 0 (pt 0 4),V 1 (bs a4),V 4 (iv x34)],[W 0 4 [bs a0,iv (w64 (x33 + 1)),iv a2,iv a3]],1⟩ ?_
   refine jx_blkN ?_
   refine jx_seqN ?_
   refine jT ⟨[V 0 (pt 0 4),V 1 (bs a4),V 4 (iv (w64 (x34 + 1)))],[W 0 4 [bs a0,iv (w64 (x33 + 1)),iv a2,iv a3]],1⟩ ?_
   exact jx_next (wkR [(0,some 0)] (fix_of hF (k:=1) rfl) (pc (hC 0) allp_nil))
  refine jc_exit ?_
  refine jx_seqE ?_
  exact jx_done rfl nofun (wkR [(0,some 0)] (fix_of hF (k:=1) rfl) (pc (hC 0) allp_nil))
 rintro (⟨x44,x45,x46⟩ | x47)
 ·refine jx_blkR ?_
  exact jx_retM (cnf_reader_must_T a0 a1 a2 a3 a4 (x44,x45,x46)) (.inr rfl) (wkR [(0,some 0)] (fix_of hF (k:=1) rfl) (pc (hC 0) allp_nil))
 refine jx_blkE ?_
 exact jx_retM (cnf_reader_must_T a0 a1 a2 a3 a4 (x47,a2,a3)) (.inl rfl) (wkR [(0,some 0)] (fix_of hF (k:=1) rfl) (pc (hC 0) allp_nil)))
abbrev ref24_Reader_is_s1fbc_r1:List LO:=[lo 4 (.assign (.const (.bool false))) 4]
abbrev ref24_Reader_is_s1fbc_r2:List LO:=[lm 5 0 96,lo 6 (.nilCheck (.tmp 5)) 0,lo 7 (.fieldAddr 98 (.tmp 6) 2) 0,lo 8 (.load 3 (.tmp 7)) 3,lo 9 (.binOp .eql 3 (.tmp 8) (.const (.int .i64 0)) 3) 4,lm 10 9 4,lmg 11 0 96 10 true,lg 12 (.nilCheck (.tmp 11)) 0 10 true,lg 13 (.fieldAddr 98 (.tmp 12) 1) 0 10 true,lg 14 (.load 3 (.tmp 13)) 3 10 true,lmg 15 0 96 10 true,lg 16 (.nilCheck (.tmp 15)) 0 10 true,lg 17 (.fieldAddr 98 (.tmp 16) 0) 0 10 true,lg 18 (.load 9 (.tmp 17)) 9 10 true,lg 19 (.call ⟨.builtin .len,#[.tmp 18],#[9]⟩) 3 10 true,lg 20 (.binOp .lss 3 (.tmp 14) (.tmp 19) 3) 4 10 true,lo 21 (.pick (.tmp 10) (.tmp 20) (.const (.bool false))) 4,lm 22 21 4,lmg 23 0 96 22 true,lg 24 (.nilCheck (.tmp 23)) 0 22 true,lg 25 (.fieldAddr 98 (.tmp 24) 0) 0 22 true,lg 26 (.load 9 (.tmp 25)) 9 22 true,lmg 27 0 96 22 true,lg 28 (.nilCheck (.tmp 27)) 0 22 true,lg 29 (.fieldAddr 98 (.tmp 28) 1) 0 22 true,lg 30 (.load 3 (.tmp 29)) 3 22 true,lg 31 (.index 9 (.tmp 26) (.tmp 30)) 5 22 true,lmg 32 1 5 22 true,lg 33 (.binOp .eql 5 (.tmp 31) (.tmp 32) 5) 4 22 true,lo 34 (.pick (.tmp 22) (.tmp 33) (.const (.bool false))) 4,lo 4 (.assign (.tmp 34)) 4]
abbrev ref24_Reader_is_s1fbc_c:LC:=.seq (.reg false ref24_Reader_is_s1fbc_r1) (.seq (.reg true ref24_Reader_is_s1fbc_r2) .ret)
theorem ref24_Reader_is_s1fbc_k:FnOk E 64 35 [.tmp 4] ref24_Reader_is_s1fbc_c:=⟨⟨Go.Proofs.Tryd.f64,by kernel_rfl,by kernel_rfl,by kernel_rfl,by kernel_rfl,by kernel_rfl⟩,rfl,rfl⟩
noncomputable def ref24_Reader_is_s1fbc (a0:Str) (a1:Int) (a2:Int) (a3:Int):Option (Bool):=Option.bind (if ((a2 == 0) && (decide (a1 < (List.length a0:Int))))=true then Option.bind (idx a0 a1) (fun x3=>some (x3 == a3)) else some false:Option (Bool)) (fun x2=>some x2)
theorem ref24_Reader_is_s1fbc_ok (a0:Str) (a1:Int) (a2:Int) (a3:Int):Ct E 64 [.fptr [bs a0,iv a1,iv a2] 0,.s (.int .u8 a3)] (ref24_Reader_is_s1fbc a0 a1 a2 a3) (fun r:Bool=>bv r):=ct_intro (N:=35) (L:=ref24_Reader_is_s1fbc_c) ref24_Reader_is_s1fbc_k rfl (Nat.le_of_ble_eq_true rfl) (by kernel_rfl) (by
 unfold ref24_Reader_is_s1fbc
 refine jS ⟨[V 0 (.fptr [bs a0,iv a1,iv a2] 0),V 1 (.s (.int .u8 a3))],[],0⟩ ?_
 refine jR ?_
 refine jG 0 18 ⟨[V 0 (.fptr [bs a0,iv a1,iv a2] 0),V 1 (.s (.int .u8 a3)),V 22 (bv ((a2 == 0) && (decide (a1 < (List.length a0:Int)))))],[],0⟩ ?_
 refine jr_bind 18 12 (fun x2=>⟨[V 34 (bv x2)],[],0⟩) ?_ ?_
 ·refine jSp 22 ?_ ?_
  ·refine jG 0 8 ⟨[V 1 (.s (.int .u8 a3)),(22,.lit true),V 26 (bs a0),V 30 (iv a1)],[],0⟩ ?_
   refine jr_part (i:=8) (mo:=idx a0 a1) rfl rfl rfl rfl (fun _ hc=>aop_index (kk:=.i64) (by kernel_rfl) (by kernel_rfl) (by kernel_rfl) hc) (fun _=>rfl) ?_
   intro x3 h3
   refine jG 9 3 ⟨[V 34 (bv (x3 == a3))],[],0⟩ ?_
   refine jr_nil rfl ?_
   exact jx_mid rfl (wkR [] (fix_nil _) allp_nil)
  refine jG 0 12 ⟨[V 34 (bv false)],[],0⟩ ?_
  refine jr_nil rfl ?_
  exact jx_mid rfl (wkR [] (fix_nil _) allp_nil)
 intro x2
 refine jG 30 1 ⟨[V 4 (bv x2)],[],0⟩ ?_
 refine jN ?_
 refine jc_ret ?_
 exact jx_retF (.inr rfl) (v:=bv x2) (by kernel_rfl) rfl (fle_refl _))
abbrev ref24_Reader_none_r1:List LO:=[lm 2 0 96,lo 3 (.nilCheck (.tmp 2)) 0,lo 4 (.fieldAddr 98 (.tmp 3) 2) 0,lo 5 (.load 3 (.tmp 4)) 3,lo 6 (.binOp .neq 3 (.tmp 5) (.const (.int .i64 0)) 3) 4]
abbrev ref24_Reader_none_r2:List LO:=[lm 7 0 96,lo 8 (.nilCheck (.tmp 7)) 0,lo 9 (.fieldAddr 98 (.tmp 8) 2) 0,ln (.store 3 (.tmp 9) (.const (.int .i64 10))) 0]
abbrev ref24_Reader_none_r3:List LO:=[lm 10 0 96,lo 11 (.nilCheck (.tmp 10)) 0,lo 12 (.fieldAddr 98 (.tmp 11) 1) 0,lo 13 (.load 3 (.tmp 12)) 3,lm 14 0 96,lo 15 (.nilCheck (.tmp 14)) 0,lo 16 (.fieldAddr 98 (.tmp 15) 0) 0,lo 17 (.load 9 (.tmp 16)) 9,lo 18 (.call ⟨.builtin .len,#[.tmp 17],#[9]⟩) 3,lo 19 (.binOp .geq 3 (.tmp 13) (.tmp 18) 3) 4]
abbrev ref24_Reader_none_r4:List LO:=[lm 20 0 96,lo 21 (.nilCheck (.tmp 20)) 0,lo 22 (.fieldAddr 98 (.tmp 21) 2) 0,ln (.store 3 (.tmp 22) (.const (.int .i64 11))) 0]
abbrev ref24_Reader_none_c:LC:=.seq (.seq (.reg false ref24_Reader_none_r1) (.cond (.tmp 6) .ret .skip)) (.seq (.reg false ref24_Reader_none_r2) (.seq (.reg true ref24_Reader_none_r3) (.cond (.tmp 19) (.reg false ref24_Reader_none_r4) .skip)))
theorem ref24_Reader_none_k:FnOk E 66 23 [] ref24_Reader_none_c:=⟨⟨Go.Proofs.Tryd.f66,by kernel_rfl,by kernel_rfl,by kernel_rfl,by kernel_rfl,by kernel_rfl⟩,rfl,rfl⟩
abbrev ref24_Reader_none_T (a0:Str) (a1:Int) (a2:Int) (r:Int):CS:=⟨[],[W 0 3 [bs a0,iv a1,iv r]],1⟩
noncomputable def ref24_Reader_none (a0:Str) (a1:Int) (a2:Int):Option (Int):=(if (a2 != 0)=true then some a2 else (if (decide (a1≥(List.length a0:Int)))=true then some 11 else some 10))
theorem ref24_Reader_none_ok (a0:Str) (a1:Int) (a2:Int):CtM E 66 [pt 0 3] [W 0 3 [bs a0,iv a1,iv a2]] 1 (ref24_Reader_none a0 a1 a2) (fun r:Int=>.tup []) (fun r:Int=>[W 0 3 [bs a0,iv a1,iv r]]) 1:=ctm_intro (N:=23) (L:=ref24_Reader_none_c) ref24_Reader_none_k rfl (Nat.le_of_ble_eq_true rfl) (fun F hF=>by
 unfold ref24_Reader_none
 refine jc_seq ?_
 refine jS ⟨[V 0 (pt 0 3),V 6 (bv (a2 != 0))],[W 0 3 [bs a0,iv a1,iv a2]],1⟩ ?_
 refine jIf ?_ ?_
 ·refine jc_ret ?_
  refine jx_seqR ?_
  exact jx_retM (ref24_Reader_none_T a0 a1 a2 a2) (.inr rfl) (wkR [(0,some 0)] (fix_of hF (k:=1) rfl) (pc (hC 0) allp_nil))
 refine jc_skip ?_
 refine jx_seqN ?_
 refine jS ⟨[V 0 (pt 0 3)],[W 0 3 [bs a0,iv a1,iv 10]],1⟩ ?_
 refine jS ⟨[V 0 (pt 0 3),V 19 (bv (decide (a1≥(List.length a0:Int))))],[W 0 3 [bs a0,iv a1,iv 10]],1⟩ ?_
 refine jIf ?_ ?_
 ·refine jT ⟨[],[W 0 3 [bs a0,iv a1,iv 11]],1⟩ ?_
  exact jx_retM (ref24_Reader_none_T a0 a1 a2 11) (.inl rfl) (wkR [(0,some 0)] (fix_of hF (k:=1) rfl) (pc (hC 0) allp_nil))
 refine jc_skip ?_
 exact jx_retM (ref24_Reader_none_T a0 a1 a2 10) (.inl rfl) (wkR [(0,some 0)] (fix_of hF (k:=1) rfl) (pc (hC 0) allp_nil)))
abbrev ref24_Reader_all_r1:List LO:=[lo 4 (.assign (.const (.int .i64 0))) 3]
abbrev ref24_Reader_all_r2:List LO:=[lm 5 4 3,lm 6 1 9,lo 7 (.call ⟨.builtin .len,#[.tmp 6],#[9]⟩) 3,lo 8 (.binOp .lss 3 (.tmp 5) (.tmp 7) 3) 4,lm 9 8 4,lmg 10 0 96 9 true,lg 11 (.nilCheck (.tmp 10)) 0 9 true,lg 12 (.fieldAddr 98 (.tmp 11) 2) 0 9 true,lg 13 (.load 3 (.tmp 12)) 3 9 true,lg 14 (.binOp .eql 3 (.tmp 13) (.const (.int .i64 0)) 3) 4 9 true,lo 15 (.pick (.tmp 9) (.tmp 14) (.const (.bool false))) 4]
abbrev ref24_Reader_all_r3:List LO:=[lm 18 0 96,lm 19 1 9,lm 20 4 3,lo 21 (.index 9 (.tmp 19) (.tmp 20)) 5,lo 22 (.call ⟨.value (.func 64),#[.tmp 18,.tmp 21],#[96,5]⟩) 4]
abbrev ref24_Reader_all_r4:List LO:=[lm 23 0 96,lo 24 (.nilCheck (.tmp 23)) 0,lo 25 (.fieldAddr 98 (.tmp 24) 1) 0,lo 26 (.load 3 (.tmp 25)) 3,lo 27 (.binOp .add 3 (.tmp 26) (.const (.int .i64 1)) 3) 3,lo 28 (.nilCheck (.tmp 23)) 0,lo 29 (.fieldAddr 98 (.tmp 28) 1) 0,ln (.store 3 (.tmp 29) (.tmp 27)) 0]
abbrev ref24_Reader_all_r5:List LO:=[lm 30 0 96,lo 31 (.call ⟨.value (.func 66),#[.tmp 30],#[96]⟩) 0]
abbrev ref24_Reader_all_r6:List LO:=[lm 16 4 3,lo 17 (.binOp .add 3 (.tmp 16) (.const (.int .i64 1)) 3) 3,lo 4 (.assign (.tmp 17)) 3]
abbrev ref24_Reader_all_c:LC:=.seq (.reg false ref24_Reader_all_r1) (.block 0 (.loop (.seq (.seq (.reg false ref24_Reader_all_r2) (.cond (.tmp 15) .skip (.exit 0))) (.seq (.block 1 (.seq (.reg false ref24_Reader_all_r3) (.cond (.tmp 22) (.reg false ref24_Reader_all_r4) (.reg false ref24_Reader_all_r5)))) (.reg false ref24_Reader_all_r6)))))
theorem ref24_Reader_all_k:FnOk E 62 32 [] ref24_Reader_all_c:=⟨⟨Go.Proofs.Tryd.f62,by kernel_rfl,by kernel_rfl,by kernel_rfl,by kernel_rfl,by kernel_rfl⟩,rfl,rfl⟩
noncomputable def ref24_Reader_all_l1 (a0:Str) (a3:Str):(Int × Int × Int)→Option (Step (Int × Int × Int) (Int × Int)):=fun (x26,x27,x28)=>(if ((decide (x28 < (List.length a3:Int))) && (x27 == 0))=true then Option.bind (Option.bind (idx a3 x28) (fun x44=>Option.bind (ref24_Reader_is_s1fbc a0 x26 x27 x44) (fun x45=>(if x45=true then some ((w64 (x26 + 1)),x27) else Option.bind (ref24_Reader_none a0 x26 x27) (fun x46=>some (x26,x46))))):Option (Int × Int)) (fun (x42,x43)=>some (Step.next (x42,x43,(w64 (x28 + 1))))) else some (Step.done (x26,x27)))
abbrev ref24_Reader_all_T (a0:Str) (a1:Int) (a2:Int) (a3:Str) (r:Int × Int):CS:=⟨[],[W 0 3 [bs a0,iv r.1,iv r.2]],1⟩
noncomputable def ref24_Reader_all (a0:Str) (a1:Int) (a2:Int) (a3:Str):Option (Int × Int):=Option.bind (loopC (ref24_Reader_all_l1 a0 a3) (a1,a2,0)) (fun (x37,x38)=>some (x37,x38))
theorem ref24_Reader_all_ok (a0:Str) (a1:Int) (a2:Int) (a3:Str):CtM E 62 [pt 0 3,bs a3] [W 0 3 [bs a0,iv a1,iv a2]] 1 (ref24_Reader_all a0 a1 a2 a3) (fun r:Int × Int=>.tup []) (fun r:Int × Int=>[W 0 3 [bs a0,iv r.1,iv r.2]]) 1:=ctm_intro (N:=32) (L:=ref24_Reader_all_c) ref24_Reader_all_k rfl (Nat.le_of_ble_eq_true rfl) (fun F hF=>by
 unfold ref24_Reader_all
 refine jS ⟨[V 0 (pt 0 3),V 1 (bs a3),V 4 (iv 0)],[W 0 3 [bs a0,iv a1,iv a2]],1⟩ ?_
 refine jc_block ?_
 refine jc_bind (fun (x37,x38)=>⟨[],[W 0 3 [bs a0,iv x37,iv x38]],1⟩) (fun (x37,x38)=>(.exit 0)) (jc_loop (fun (x26,x27,x28)=>⟨[V 0 (pt 0 3),V 1 (bs a3),V 4 (iv x28)],[W 0 3 [bs a0,iv x26,iv x27]],1⟩) (wkR [(0,some 0)] (fix_of hF (k:=1) rfl) (pc (hC 0) allp_nil)) ?_) ?_
 ·rintro⟨x26,x27,x28⟩
  unfold ref24_Reader_all_l1
  refine jc_seq ?_
  refine jS ⟨[V 0 (pt 0 3),V 1 (bs a3),V 4 (iv x28),V 15 (bv ((decide (x28 < (List.length a3:Int))) && (x27 == 0)))],[W 0 3 [bs a0,iv x26,iv x27]],1⟩ ?_
  refine jIf ?_ ?_
  ·refine jc_skip ?_
   refine jx_seqN ?_
   refine jc_seq ?_
   refine jc_bind (fun (x42,x43)=>⟨[V 0 (pt 0 3),V 1 (bs a3),V 4 (iv x28)],[W 0 3 [bs a0,iv x42,iv x43]],1⟩) (fun (x42,x43)=>.normal) ?_ ?_
   ·refine jc_block ?_
    refine jR ?_
    refine jG 0 3 ⟨[V 0 (pt 0 3),V 1 (bs a3),V 4 (iv x28),V 18 (pt 0 3),V 19 (bs a3),V 20 (iv x28)],[W 0 3 [bs a0,iv x26,iv x27]],1⟩ ?_
    refine jr_part (i:=3) (mo:=idx a3 x28) rfl rfl rfl rfl (fun _ hc=>aop_index (kk:=.i64) (by kernel_rfl) (by kernel_rfl) (by kernel_rfl) hc) (fun _=>rfl) ?_
    intro x44 h44
    refine jr_callF (i:=4) rfl rfl rfl rfl (vs:=[pt 0 3,.s (.int .u8 x44)]) (vs0:=[.fptr [bs a0,iv x26,iv x27] 0,.s (.int .u8 x44)]) (b:=true) (by kernel_rfl) (by kernel_rfl) (all2_cons (fle_refl _) (all2_cons (fle_refl _) all2_nil)) (ref24_Reader_is_s1fbc_ok a0 x26 x27 x44) (fun _=>rfl) (fun _=>rfl) ?_
    intro x45 h45
    refine jN ?_
    refine jIf ?_ ?_
    ·refine jT ⟨[V 0 (pt 0 3),V 1 (bs a3),V 4 (iv x28)],[W 0 3 [bs a0,iv (w64 (x26 + 1)),iv x27]],1⟩ ?_
     refine jx_blkN ?_
     exact jx_mid rfl (wkR [(0,some 0)] (fix_of hF (k:=1) rfl) (pc (hC 0) allp_nil))
    refine jc_reg ?_
    refine jG 0 1 ⟨[V 0 (pt 0 3),V 1 (bs a3),V 4 (iv x28),V 30 (pt 0 3)],[W 0 3 [bs a0,iv x26,iv x27]],1⟩ ?_
    refine jr_callM 1 [(0,some 0)] [(0,some 0)] (fun r:Int=>[W 0 3 [bs a0,iv x26,iv r]]) (fun r:Int=>.tup []) 1 (ref24_Reader_none_ok a0 x26 x27) (pc (hC 0) allp_nil) (fun r=>(pc (.inr (hC 0)) allp_nil)) ?_
    rintro x46 hm6
    refine jr_nil rfl ?_
    refine jx_blkN ?_
    exact jx_mid rfl (wkR [(0,some 0)] (fix_of hF (k:=1) rfl) (pc (hC 0) allp_nil))
   rintro⟨x42,x43⟩
   refine jx_seqN ?_
   refine jT ⟨[V 0 (pt 0 3),V 1 (bs a3),V 4 (iv (w64 (x28 + 1)))],[W 0 3 [bs a0,iv x42,iv x43]],1⟩ ?_
   exact jx_next (wkR [(0,some 0)] (fix_of hF (k:=1) rfl) (pc (hC 0) allp_nil))
  refine jc_exit ?_
  refine jx_seqE ?_
  exact jx_done rfl nofun (wkR [(0,some 0)] (fix_of hF (k:=1) rfl) (pc (hC 0) allp_nil))
 rintro⟨x37,x38⟩
 refine jx_blkE ?_
 exact jx_retM (ref24_Reader_all_T a0 a1 a2 a3 (x37,x38)) (.inl rfl) (wkR [(0,some 0)] (fix_of hF (k:=1) rfl) (pc (hC 0) allp_nil)))
abbrev cnf_digit_r1:List LO:=[lo 2 (.assign (.const (.bool false))) 4]
abbrev cnf_digit_r2:List LO:=[lm 3 0 5,lo 4 (.binOp .geq 5 (.tmp 3) (.const (.int .u8 48)) 5) 4,lm 5 4 4,lmg 6 0 5 5 true,lg 7 (.binOp .leq 5 (.tmp 6) (.const (.int .u8 57)) 5) 4 5 true,lo 8 (.pick (.tmp 5) (.tmp 7) (.const (.bool false))) 4,lo 2 (.assign (.tmp 8)) 4]
abbrev cnf_digit_c:LC:=.seq (.reg false cnf_digit_r1) (.seq (.reg false cnf_digit_r2) .ret)
theorem cnf_digit_k:FnOk E 82 9 [.tmp 2] cnf_digit_c:=⟨⟨Go.Proofs.Tryd.f82,by kernel_rfl,by kernel_rfl,by kernel_rfl,by kernel_rfl,by kernel_rfl⟩,rfl,rfl⟩
noncomputable def cnf_digit (a0:Int):Option (Bool):=some ((decide (a0≥48)) && (decide (a0≤57)))
theorem cnf_digit_ok (a0:Int):Ct E 82 [.s (.int .u8 a0)] (cnf_digit a0) (fun r:Bool=>bv r):=ct_intro (N:=9) (L:=cnf_digit_c) cnf_digit_k rfl (Nat.le_of_ble_eq_true rfl) (by kernel_rfl) (by
 unfold cnf_digit
 refine jS ⟨[V 0 (.s (.int .u8 a0))],[],0⟩ ?_
 refine jS ⟨[V 2 (bv ((decide (a0≥48)) && (decide (a0≤57))))],[],0⟩ ?_
 refine jc_ret ?_
 exact jx_retF (.inr rfl) (v:=bv ((decide (a0≥48)) && (decide (a0≤57)))) (by kernel_rfl) rfl (fle_refl _))
abbrev cnf_reader_is_sb17f_r1:List LO:=[lo 4 (.assign (.const (.bool false))) 4]
abbrev cnf_reader_is_sb17f_r2:List LO:=[lm 5 0 90,lo 6 (.nilCheck (.tmp 5)) 0,lo 7 (.fieldAddr 92 (.tmp 6) 1) 0,lo 8 (.load 3 (.tmp 7)) 3,lm 9 0 90,lo 10 (.nilCheck (.tmp 9)) 0,lo 11 (.fieldAddr 92 (.tmp 10) 0) 0,lo 12 (.load 9 (.tmp 11)) 9,lo 13 (.call ⟨.builtin .len,#[.tmp 12],#[9]⟩) 3,lo 14 (.binOp .lss 3 (.tmp 8) (.tmp 13) 3) 4,lm 15 14 4,lmg 16 0 90 15 true,lg 17 (.nilCheck (.tmp 16)) 0 15 true,lg 18 (.fieldAddr 92 (.tmp 17) 0) 0 15 true,lg 19 (.load 9 (.tmp 18)) 9 15 true,lmg 20 0 90 15 true,lg 21 (.nilCheck (.tmp 20)) 0 15 true,lg 22 (.fieldAddr 92 (.tmp 21) 1) 0 15 true,lg 23 (.load 3 (.tmp 22)) 3 15 true,lg 24 (.index 9 (.tmp 19) (.tmp 23)) 5 15 true,lmg 25 1 5 15 true,lg 26 (.binOp .eql 5 (.tmp 24) (.tmp 25) 5) 4 15 true,lo 27 (.pick (.tmp 15) (.tmp 26) (.const (.bool false))) 4,lo 4 (.assign (.tmp 27)) 4]
abbrev cnf_reader_is_sb17f_c:LC:=.seq (.reg false cnf_reader_is_sb17f_r1) (.seq (.reg true cnf_reader_is_sb17f_r2) .ret)
theorem cnf_reader_is_sb17f_k:FnOk E 81 28 [.tmp 4] cnf_reader_is_sb17f_c:=⟨⟨Go.Proofs.Tryd.f81,by kernel_rfl,by kernel_rfl,by kernel_rfl,by kernel_rfl,by kernel_rfl⟩,rfl,rfl⟩
noncomputable def cnf_reader_is_sb17f (a0:Str) (a1:Int) (a2:Int) (a3:Int) (a4:Int):Option (Bool):=Option.bind (if (decide (a1 < (List.length a0:Int)))=true then Option.bind (idx a0 a1) (fun x3=>some (x3 == a4)) else some false:Option (Bool)) (fun x2=>some x2)
theorem cnf_reader_is_sb17f_ok (a0:Str) (a1:Int) (a2:Int) (a3:Int) (a4:Int):Ct E 81 [.fptr [bs a0,iv a1,iv a2,iv a3] 0,.s (.int .u8 a4)] (cnf_reader_is_sb17f a0 a1 a2 a3 a4) (fun r:Bool=>bv r):=ct_intro (N:=28) (L:=cnf_reader_is_sb17f_c) cnf_reader_is_sb17f_k rfl (Nat.le_of_ble_eq_true rfl) (by kernel_rfl) (by
 unfold cnf_reader_is_sb17f
 refine jS ⟨[V 0 (.fptr [bs a0,iv a1,iv a2,iv a3] 0),V 1 (.s (.int .u8 a4))],[],0⟩ ?_
 refine jR ?_
 refine jG 0 11 ⟨[V 0 (.fptr [bs a0,iv a1,iv a2,iv a3] 0),V 1 (.s (.int .u8 a4)),V 15 (bv (decide (a1 < (List.length a0:Int))))],[],0⟩ ?_
 refine jr_bind 11 12 (fun x2=>⟨[V 27 (bv x2)],[],0⟩) ?_ ?_
 ·refine jSp 15 ?_ ?_
  ·refine jG 0 8 ⟨[V 1 (.s (.int .u8 a4)),(15,.lit true),V 19 (bs a0),V 23 (iv a1)],[],0⟩ ?_
   refine jr_part (i:=8) (mo:=idx a0 a1) rfl rfl rfl rfl (fun _ hc=>aop_index (kk:=.i64) (by kernel_rfl) (by kernel_rfl) (by kernel_rfl) hc) (fun _=>rfl) ?_
   intro x3 h3
   refine jG 9 3 ⟨[V 27 (bv (x3 == a4))],[],0⟩ ?_
   refine jr_nil rfl ?_
   exact jx_mid rfl (wkR [] (fix_nil _) allp_nil)
  refine jG 0 12 ⟨[V 27 (bv false)],[],0⟩ ?_
  refine jr_nil rfl ?_
  exact jx_mid rfl (wkR [] (fix_nil _) allp_nil)
 intro x2
 refine jG 23 1 ⟨[V 4 (bv x2)],[],0⟩ ?_
 refine jN ?_
 refine jc_ret ?_
 exact jx_retF (.inr rfl) (v:=bv x2) (by kernel_rfl) rfl (fle_refl _))
abbrev cnf_reader_number_r1:List LO:=[lo 4 (.assign (.const (.int .i64 0))) 3]
abbrev cnf_reader_number_r2:List LO:=[lm 9 0 90,lo 10 (.call ⟨.value (.func 58),#[.tmp 9],#[90]⟩) 4,lo 11 (.unOp .not 4 (.tmp 10)) 4]
abbrev cnf_reader_number_r3:List LO:=[lo 4 (.assign (.const (.int .i64 0))) 3]
abbrev cnf_reader_number_r4:List LO:=[lm 12 0 90,lo 13 (.nilCheck (.tmp 12)) 0,lo 14 (.fieldAddr 92 (.tmp 13) 1) 0,lo 15 (.load 3 (.tmp 14)) 3,lo 5 (.assign (.tmp 15)) 3]
abbrev cnf_reader_number_r5:List LO:=[lm 16 1 4,lm 17 16 4,lmg 18 0 90 17 true,lg 19 (.call ⟨.value (.func 81),#[.tmp 18,.const (.int .u8 45)],#[90,5]⟩) 4 17 true,lo 20 (.pick (.tmp 17) (.tmp 19) (.const (.bool false))) 4]
abbrev cnf_reader_number_r6:List LO:=[lm 21 0 90,lo 22 (.nilCheck (.tmp 21)) 0,lo 23 (.fieldAddr 92 (.tmp 22) 1) 0,lo 24 (.load 3 (.tmp 23)) 3,lo 25 (.binOp .add 3 (.tmp 24) (.const (.int .i64 1)) 3) 3,lo 26 (.nilCheck (.tmp 21)) 0,lo 27 (.fieldAddr 92 (.tmp 26) 1) 0,ln (.store 3 (.tmp 27) (.tmp 25)) 0]
abbrev cnf_reader_number_r7:List LO:=[lm 28 0 90,lo 29 (.nilCheck (.tmp 28)) 0,lo 30 (.fieldAddr 92 (.tmp 29) 1) 0,lo 31 (.load 3 (.tmp 30)) 3,lo 6 (.assign (.tmp 31)) 3]
abbrev cnf_reader_number_r8:List LO:=[lm 32 0 90,lo 33 (.nilCheck (.tmp 32)) 0,lo 34 (.fieldAddr 92 (.tmp 33) 1) 0,lo 35 (.load 3 (.tmp 34)) 3,lm 36 0 90,lo 37 (.nilCheck (.tmp 36)) 0,lo 38 (.fieldAddr 92 (.tmp 37) 0) 0,lo 39 (.load 9 (.tmp 38)) 9,lo 40 (.call ⟨.builtin .len,#[.tmp 39],#[9]⟩) 3,lo 41 (.binOp .lss 3 (.tmp 35) (.tmp 40) 3) 4,lm 42 41 4,lmg 43 0 90 42 true,lg 44 (.nilCheck (.tmp 43)) 0 42 true,lg 45 (.fieldAddr 92 (.tmp 44) 0) 0 42 true,lg 46 (.load 9 (.tmp 45)) 9 42 true,lmg 47 0 90 42 true,lg 48 (.nilCheck (.tmp 47)) 0 42 true,lg 49 (.fieldAddr 92 (.tmp 48) 1) 0 42 true,lg 50 (.load 3 (.tmp 49)) 3 42 true,lg 51 (.index 9 (.tmp 46) (.tmp 50)) 5 42 true,lg 52 (.binOp .geq 5 (.tmp 51) (.const (.int .u8 49)) 5) 4 42 true,lmg 53 52 4 42 true,lmg 54 0 90 53 true,lg 55 (.nilCheck (.tmp 54)) 0 53 true,lg 56 (.fieldAddr 92 (.tmp 55) 0) 0 53 true,lg 57 (.load 9 (.tmp 56)) 9 53 true,lmg 58 0 90 53 true,lg 59 (.nilCheck (.tmp 58)) 0 53 true,lg 60 (.fieldAddr 92 (.tmp 59) 1) 0 53 true,lg 61 (.load 3 (.tmp 60)) 3 53 true,lg 62 (.index 9 (.tmp 57) (.tmp 61)) 5 53 true,lg 63 (.binOp .leq 5 (.tmp 62) (.const (.int .u8 57)) 5) 4 53 true,lg 64 (.pick (.tmp 53) (.tmp 63) (.const (.bool false))) 4 42 true,lo 65 (.pick (.tmp 42) (.tmp 64) (.const (.bool false))) 4]
abbrev cnf_reader_number_r9:List LO:=[lm 66 0 90,lo 67 (.nilCheck (.tmp 66)) 0,lo 68 (.fieldAddr 92 (.tmp 67) 1) 0,lo 69 (.load 3 (.tmp 68)) 3,lm 70 0 90,lo 71 (.nilCheck (.tmp 70)) 0,lo 72 (.fieldAddr 92 (.tmp 71) 0) 0,lo 73 (.load 9 (.tmp 72)) 9,lo 74 (.call ⟨.builtin .len,#[.tmp 73],#[9]⟩) 3,lo 75 (.binOp .lss 3 (.tmp 69) (.tmp 74) 3) 4,lm 76 75 4,lmg 77 0 90 76 true,lg 78 (.nilCheck (.tmp 77)) 0 76 true,lg 79 (.fieldAddr 92 (.tmp 78) 0) 0 76 true,lg 80 (.load 9 (.tmp 79)) 9 76 true,lmg 81 0 90 76 true,lg 82 (.nilCheck (.tmp 81)) 0 76 true,lg 83 (.fieldAddr 92 (.tmp 82) 1) 0 76 true,lg 84 (.load 3 (.tmp 83)) 3 76 true,lg 85 (.index 9 (.tmp 80) (.tmp 84)) 5 76 true,lg 86 (.call ⟨.value (.func 82),#[.tmp 85],#[5]⟩) 4 76 true,lo 87 (.pick (.tmp 76) (.tmp 86) (.const (.bool false))) 4,lm 88 87 4,lmg 89 0 90 88 true,lg 90 (.nilCheck (.tmp 89)) 0 88 true,lg 91 (.fieldAddr 92 (.tmp 90) 1) 0 88 true,lg 92 (.load 3 (.tmp 91)) 3 88 true,lmg 93 6 3 88 true,lg 94 (.binOp .sub 3 (.tmp 92) (.tmp 93) 3) 3 88 true,lg 95 (.binOp .lss 3 (.tmp 94) (.const (.int .i64 9)) 3) 4 88 true,lo 96 (.pick (.tmp 88) (.tmp 95) (.const (.bool false))) 4]
abbrev cnf_reader_number_r10:List LO:=[lm 97 0 90,lo 98 (.nilCheck (.tmp 97)) 0,lo 99 (.fieldAddr 92 (.tmp 98) 1) 0,lo 100 (.load 3 (.tmp 99)) 3,lo 101 (.binOp .add 3 (.tmp 100) (.const (.int .i64 1)) 3) 3,lo 102 (.nilCheck (.tmp 97)) 0,lo 103 (.fieldAddr 92 (.tmp 102) 1) 0,ln (.store 3 (.tmp 103) (.tmp 101)) 0]
abbrev cnf_reader_number_r11:List LO:=[lm 104 0 90,lo 105 (.call ⟨.value (.func 81),#[.tmp 104,.const (.int .u8 48)],#[90,5]⟩) 4,lm 106 105 4,lmg 107 6 3 106 true,lmg 108 5 3 106 true,lg 109 (.binOp .eql 3 (.tmp 107) (.tmp 108) 3) 4 106 true,lo 110 (.pick (.tmp 106) (.tmp 109) (.const (.bool false))) 4]
abbrev cnf_reader_number_r12:List LO:=[lm 111 0 90,lo 112 (.nilCheck (.tmp 111)) 0,lo 113 (.fieldAddr 92 (.tmp 112) 1) 0,lo 114 (.load 3 (.tmp 113)) 3,lo 115 (.binOp .add 3 (.tmp 114) (.const (.int .i64 1)) 3) 3,lo 116 (.nilCheck (.tmp 111)) 0,lo 117 (.fieldAddr 92 (.tmp 116) 1) 0,ln (.store 3 (.tmp 117) (.tmp 115)) 0]
abbrev cnf_reader_number_r13:List LO:=[lm 118 0 90,lo 119 (.call ⟨.value (.func 61),#[.tmp 118],#[90]⟩) 0]
abbrev cnf_reader_number_r14:List LO:=[lo 4 (.assign (.const (.int .i64 0))) 3]
abbrev cnf_reader_number_r15:List LO:=[lm 121 0 90,lo 122 (.nilCheck (.tmp 121)) 0,lo 123 (.fieldAddr 92 (.tmp 122) 0) 0,lo 124 (.load 9 (.tmp 123)) 9,lm 125 5 3,lm 126 0 90,lo 127 (.nilCheck (.tmp 126)) 0,lo 128 (.fieldAddr 92 (.tmp 127) 1) 0,lo 129 (.load 3 (.tmp 128)) 3,lo 130 (.slice 9 (.tmp 124) (some (.tmp 125)) (some (.tmp 129)) none) 9,lo 131 (.call ⟨.value (.func 83),#[.tmp 130],#[9]⟩) 86,lm 120 131 86,lo 132 (.extract (.tmp 120) 0) 3,lo 133 (.extract (.tmp 120) 1) 85,lo 7 (.assign (.tmp 132)) 3,lo 8 (.assign (.tmp 133)) 85]
abbrev cnf_reader_number_r16:List LO:=[lm 134 7 3,lo 4 (.assign (.tmp 134)) 3]
abbrev cnf_reader_number_c:LC:=.seq (.reg false cnf_reader_number_r1) (.seq (.seq (.reg false cnf_reader_number_r2) (.cond (.tmp 11) (.seq (.reg false cnf_reader_number_r3) .ret) .skip)) (.seq (.reg false cnf_reader_number_r4) (.seq (.seq (.reg false cnf_reader_number_r5) (.cond (.tmp 20) (.reg false cnf_reader_number_r6) .skip)) (.seq (.reg false cnf_reader_number_r7) (.seq (.seq (.reg true cnf_reader_number_r8) (.cond (.tmp 65) (.block 0 (.loop (.seq (.seq (.reg true cnf_reader_number_r9) (.cond (.tmp 96) .skip (.exit 0))) (.block 1 (.reg false cnf_reader_number_r10))))) (.seq (.reg false cnf_reader_number_r11) (.cond (.tmp 110) (.reg false cnf_reader_number_r12) (.seq (.reg false cnf_reader_number_r13) (.seq (.reg false cnf_reader_number_r14) .ret)))))) (.seq (.reg true cnf_reader_number_r15) (.seq (.reg false cnf_reader_number_r16) .ret)))))))
theorem cnf_reader_number_k:FnOk E 57 135 [.tmp 4] cnf_reader_number_c:=⟨⟨Go.Proofs.Tryd.f57,by kernel_rfl,by kernel_rfl,by kernel_rfl,by kernel_rfl,by kernel_rfl⟩,rfl,rfl⟩
noncomputable def cnf_reader_number_l1 (a0:Str) (x33:Int):Int→Option (Step (Int) (Int)):=fun x67=>Option.bind (if (decide (x67 < (List.length a0:Int)))=true then Option.bind (idx a0 x67) (fun x76=>Option.bind (cnf_digit x76) (fun x77=>some x77)) else some false:Option (Bool)) (fun x75=>(if (x75 && (decide ((w64 (x67 - x33)) < 9)))=true then some (Step.next (w64 (x67 + 1))) else some (Step.done x67)))
abbrev cnf_reader_number_T (a0:Str) (a1:Int) (a2:Int) (a3:Int) (a4:Bool) (r:Int × Int × Int × Int):CS:=⟨[V 4 (iv r.1)],[W 0 4 [bs a0,iv r.2.1,iv r.2.2.1,iv r.2.2.2]],1⟩
noncomputable def cnf_reader_number (a0:Str) (a1:Int) (a2:Int) (a3:Int) (a4:Bool):Option (Int × Int × Int × Int):=Option.bind (cnf_reader_ok_s6db9 a0 a1 a2 a3) (fun x30=>(if (!x30)=true then some (0,a1,a2,a3) else Option.bind (Option.bind (if a4=true then Option.bind (cnf_reader_is_sb17f a0 a1 a2 a3 45) (fun x36=>some x36) else some false:Option (Bool)) (fun x35=>(if x35=true then some (w64 (a1 + 1)) else some a1)):Option (Int)) (fun x33=>Option.bind (Option.bind (if (decide (x33 < (List.length a0:Int)))=true then Option.bind (idx a0 x33) (fun x60=>Option.bind (if (decide (x60≥49))=true then Option.bind (idx a0 x33) (fun x63=>some (decide (x63≤57))) else some false:Option (Bool)) (fun x62=>some (true && x62))) else some false:Option (Bool)) (fun x59=>(if x59=true then Option.bind (loopC (cnf_reader_number_l1 a0 x33) x33) (fun x72=>some (Sum.inl x72)) else Option.bind (cnf_reader_is_sb17f a0 x33 a2 a3 48) (fun x78=>(if (x78 && (x33 == a1))=true then some (Sum.inl (w64 (x33 + 1))) else Option.bind (cnf_reader_stuck a0 x33 a2 a3) (fun (x79,x80)=>some (Sum.inr (x79,x80))))))):Option ((Int) ⊕ (Int × Int))) (fun y=>match y with | Sum.inl x53=>Option.bind (subl a0 a1 x53) (fun x81=>Option.bind (strconv_Atoi x81) (fun x82=>some (x82,x53,a2,a3))) | Sum.inr (x54,x55)=>some (0,x33,x54,x55)))))
theorem cnf_reader_number_ok (a0:Str) (a1:Int) (a2:Int) (a3:Int) (a4:Bool):CtM E 57 [pt 0 4,bv a4] [W 0 4 [bs a0,iv a1,iv a2,iv a3]] 1 (cnf_reader_number a0 a1 a2 a3 a4) (fun r:Int × Int × Int × Int=>iv r.1) (fun r:Int × Int × Int × Int=>[W 0 4 [bs a0,iv r.2.1,iv r.2.2.1,iv r.2.2.2]]) 1:=ctm_intro (N:=135) (L:=cnf_reader_number_c) cnf_reader_number_k rfl (Nat.le_of_ble_eq_true rfl) (fun F hF=>by
 unfold cnf_reader_number
 refine jS ⟨[V 0 (pt 0 4),V 1 (bv a4)],[W 0 4 [bs a0,iv a1,iv a2,iv a3]],1⟩ ?_
 refine jc_seq ?_
 refine jR ?_
 refine jG 0 1 ⟨[V 0 (pt 0 4),V 1 (bv a4),V 9 (pt 0 4)],[W 0 4 [bs a0,iv a1,iv a2,iv a3]],1⟩ ?_
 refine jr_callF (i:=1) rfl rfl rfl rfl (vs:=[pt 0 4]) (vs0:=[.fptr [bs a0,iv a1,iv a2,iv a3] 0]) (b:=true) (by kernel_rfl) (by kernel_rfl) (all2_cons (fle_refl _) all2_nil) (cnf_reader_ok_s6db9_ok a0 a1 a2 a3) (fun _=>rfl) (fun _=>rfl) ?_
 intro x30 h30
 refine jG 2 1 ⟨[V 0 (pt 0 4),V 1 (bv a4),V 11 (bv (!x30))],[W 0 4 [bs a0,iv a1,iv a2,iv a3]],1⟩ ?_
 refine jN ?_
 refine jIf ?_ ?_
 ·refine jS ⟨[V 4 (iv 0)],[W 0 4 [bs a0,iv a1,iv a2,iv a3]],1⟩ ?_
  refine jc_ret ?_
  refine jx_seqR ?_
  exact jx_retM (cnf_reader_number_T a0 a1 a2 a3 a4 (0,a1,a2,a3)) (.inr rfl) (wkR [(0,some 0)] (fix_of hF (k:=1) rfl) (pc (hC 0) allp_nil))
 refine jc_skip ?_
 refine jx_seqN ?_
 refine jS ⟨[V 0 (pt 0 4),V 1 (bv a4),V 5 (iv a1)],[W 0 4 [bs a0,iv a1,iv a2,iv a3]],1⟩ ?_
 refine jc_seq ?_
 refine jc_bind (fun x33=>⟨[V 0 (pt 0 4),V 5 (iv a1)],[W 0 4 [bs a0,iv x33,iv a2,iv a3]],1⟩) (fun x33=>.normal) ?_ ?_
 ·refine jR ?_
  refine jG 0 2 ⟨[V 0 (pt 0 4),V 5 (iv a1),V 17 (bv a4)],[W 0 4 [bs a0,iv a1,iv a2,iv a3]],1⟩ ?_
  refine jr_bind 2 3 (fun x35=>⟨[V 0 (pt 0 4),V 5 (iv a1),V 20 (bv x35)],[W 0 4 [bs a0,iv a1,iv a2,iv a3]],1⟩) ?_ ?_
  ·refine jSp 17 ?_ ?_
   ·refine jG 0 1 ⟨[V 0 (pt 0 4),V 5 (iv a1),(17,.lit true),V 18 (pt 0 4)],[W 0 4 [bs a0,iv a1,iv a2,iv a3]],1⟩ ?_
    refine jr_callF (i:=1) rfl rfl rfl rfl (vs:=[pt 0 4,.s (.int .u8 45)]) (vs0:=[.fptr [bs a0,iv a1,iv a2,iv a3] 0,.s (.int .u8 45)]) (b:=true) (by kernel_rfl) (by kernel_rfl) (all2_cons (fle_refl _) (all2_cons (fle_refl _) all2_nil)) (cnf_reader_is_sb17f_ok a0 a1 a2 a3 45) (fun _=>rfl) (fun _=>rfl) ?_
    intro x36 h36
    refine jG 2 1 ⟨[V 0 (pt 0 4),V 5 (iv a1),V 20 (bv x36)],[W 0 4 [bs a0,iv a1,iv a2,iv a3]],1⟩ ?_
    refine jr_nil rfl ?_
    exact jx_mid rfl (wkR [(0,some 0)] (fix_of hF (k:=1) rfl) (pc (hC 0) allp_nil))
   refine jG 0 3 ⟨[V 0 (pt 0 4),V 5 (iv a1),V 20 (bv false)],[W 0 4 [bs a0,iv a1,iv a2,iv a3]],1⟩ ?_
   refine jr_nil rfl ?_
   exact jx_mid rfl (wkR [(0,some 0)] (fix_of hF (k:=1) rfl) (pc (hC 0) allp_nil))
  intro x35
  refine jN ?_
  refine jIf ?_ ?_
  ·refine jT ⟨[V 0 (pt 0 4),V 5 (iv a1)],[W 0 4 [bs a0,iv (w64 (a1 + 1)),iv a2,iv a3]],1⟩ ?_
   exact jx_mid rfl (wkR [(0,some 0)] (fix_of hF (k:=1) rfl) (pc (hC 0) allp_nil))
  refine jc_skip ?_
  exact jx_mid rfl (wkR [(0,some 0)] (fix_of hF (k:=1) rfl) (pc (hC 0) allp_nil))
 intro x33
 refine jx_seqN ?_
 refine jS ⟨[V 0 (pt 0 4),V 5 (iv a1),V 6 (iv x33)],[W 0 4 [bs a0,iv x33,iv a2,iv a3]],1⟩ ?_
 refine jc_seq ?_
 refine jc_bind (fun y=>match y with | Sum.inl x53=>⟨[V 0 (pt 0 4),V 5 (iv a1)],[W 0 4 [bs a0,iv x53,iv a2,iv a3]],1⟩ | Sum.inr (x54,x55)=>⟨[V 4 (iv 0)],[W 0 4 [bs a0,iv x33,iv x54,iv x55]],1⟩) (fun y=>match y with | Sum.inl x53=>.normal | Sum.inr (x54,x55)=>.ret) ?_ ?_
 ·refine jR ?_
  refine jG 0 11 ⟨[V 0 (pt 0 4),V 5 (iv a1),V 6 (iv x33),V 42 (bv (decide (x33 < (List.length a0:Int))))],[W 0 4 [bs a0,iv x33,iv a2,iv a3]],1⟩ ?_
  refine jr_bind 11 23 (fun x59=>⟨[V 0 (pt 0 4),V 5 (iv a1),V 6 (iv x33),V 65 (bv x59)],[W 0 4 [bs a0,iv x33,iv a2,iv a3]],1⟩) ?_ ?_
  ·refine jSp 42 ?_ ?_
   ·refine jG 0 8 ⟨[V 0 (pt 0 4),V 5 (iv a1),V 6 (iv x33),(42,.lit true),V 46 (bs a0),V 50 (iv x33)],[W 0 4 [bs a0,iv x33,iv a2,iv a3]],1⟩ ?_
    refine jr_part (i:=8) (mo:=idx a0 x33) rfl rfl rfl rfl (fun _ hc=>aop_index (kk:=.i64) (by kernel_rfl) (by kernel_rfl) (by kernel_rfl) hc) (fun _=>rfl) ?_
    intro x60 h60
    refine jG 9 2 ⟨[V 0 (pt 0 4),V 5 (iv a1),V 6 (iv x33),(42,.lit true),V 53 (bv (decide (x60≥49)))],[W 0 4 [bs a0,iv x33,iv a2,iv a3]],1⟩ ?_
    refine jr_bind 11 11 (fun x62=>⟨[V 0 (pt 0 4),V 5 (iv a1),V 6 (iv x33),V 42 (bv true),V 64 (bv x62)],[W 0 4 [bs a0,iv x33,iv a2,iv a3]],1⟩) ?_ ?_
    ·refine jSp 53 ?_ ?_
     ·refine jG 0 8 ⟨[V 0 (pt 0 4),V 5 (iv a1),V 6 (iv x33),(42,.lit true),(53,.lit true),V 57 (bs a0),V 61 (iv x33)],[W 0 4 [bs a0,iv x33,iv a2,iv a3]],1⟩ ?_
      refine jr_part (i:=8) (mo:=idx a0 x33) rfl rfl rfl rfl (fun _ hc=>aop_index (kk:=.i64) (by kernel_rfl) (by kernel_rfl) (by kernel_rfl) hc) (fun _=>rfl) ?_
      intro x63 h63
      refine jG 9 2 ⟨[V 0 (pt 0 4),V 5 (iv a1),V 6 (iv x33),(42,.lit true),V 64 (bv (decide (x63≤57)))],[W 0 4 [bs a0,iv x33,iv a2,iv a3]],1⟩ ?_
      refine jr_nil rfl ?_
      exact jx_mid rfl (wkR [(0,some 0)] (fix_of hF (k:=1) rfl) (pc (hC 0) allp_nil))
     refine jG 0 11 ⟨[V 0 (pt 0 4),V 5 (iv a1),V 6 (iv x33),(42,.lit true),V 64 (bv false)],[W 0 4 [bs a0,iv x33,iv a2,iv a3]],1⟩ ?_
     refine jr_nil rfl ?_
     exact jx_mid rfl (wkR [(0,some 0)] (fix_of hF (k:=1) rfl) (pc (hC 0) allp_nil))
    intro x62
    refine jG 22 1 ⟨[V 0 (pt 0 4),V 5 (iv a1),V 6 (iv x33),V 65 (bv (true && x62))],[W 0 4 [bs a0,iv x33,iv a2,iv a3]],1⟩ ?_
    refine jr_nil rfl ?_
    exact jx_mid rfl (wkR [(0,some 0)] (fix_of hF (k:=1) rfl) (pc (hC 0) allp_nil))
   refine jG 0 23 ⟨[V 0 (pt 0 4),V 5 (iv a1),V 6 (iv x33),V 65 (bv false)],[W 0 4 [bs a0,iv x33,iv a2,iv a3]],1⟩ ?_
   refine jr_nil rfl ?_
   exact jx_mid rfl (wkR [(0,some 0)] (fix_of hF (k:=1) rfl) (pc (hC 0) allp_nil))
  intro x59
  refine jN ?_
  refine jIf ?_ ?_
  ·refine jc_block ?_
   refine jc_bind (fun x72=>⟨[V 0 (pt 0 4),V 5 (iv a1)],[W 0 4 [bs a0,iv x72,iv a2,iv a3]],1⟩) (fun x72=>(.exit 0)) (jc_loop (fun x67=>⟨[V 0 (pt 0 4),V 5 (iv a1),V 6 (iv x33)],[W 0 4 [bs a0,iv x67,iv a2,iv a3]],1⟩) (wkR [(0,some 0)] (fix_of hF (k:=1) rfl) (pc (hC 0) allp_nil)) ?_) ?_
   ·intro x67
    unfold cnf_reader_number_l1
    refine jc_seq ?_
    refine jR ?_
    refine jG 0 11 ⟨[V 0 (pt 0 4),V 5 (iv a1),V 6 (iv x33),V 76 (bv (decide (x67 < (List.length a0:Int))))],[W 0 4 [bs a0,iv x67,iv a2,iv a3]],1⟩ ?_
    refine jr_bind 11 11 (fun x75=>⟨[V 0 (pt 0 4),V 5 (iv a1),V 6 (iv x33),V 87 (bv x75)],[W 0 4 [bs a0,iv x67,iv a2,iv a3]],1⟩) ?_ ?_
    ·refine jSp 76 ?_ ?_
     ·refine jG 0 8 ⟨[V 0 (pt 0 4),V 5 (iv a1),V 6 (iv x33),(76,.lit true),V 80 (bs a0),V 84 (iv x67)],[W 0 4 [bs a0,iv x67,iv a2,iv a3]],1⟩ ?_
      refine jr_part (i:=8) (mo:=idx a0 x67) rfl rfl rfl rfl (fun _ hc=>aop_index (kk:=.i64) (by kernel_rfl) (by kernel_rfl) (by kernel_rfl) hc) (fun _=>rfl) ?_
      intro x76 h76
      refine jK 9 (cnf_digit_ok x76) ?_
      intro x77 h77
      refine jG 10 1 ⟨[V 0 (pt 0 4),V 5 (iv a1),V 6 (iv x33),V 87 (bv x77)],[W 0 4 [bs a0,iv x67,iv a2,iv a3]],1⟩ ?_
      refine jr_nil rfl ?_
      exact jx_mid rfl (wkR [(0,some 0)] (fix_of hF (k:=1) rfl) (pc (hC 0) allp_nil))
     refine jG 0 11 ⟨[V 0 (pt 0 4),V 5 (iv a1),V 6 (iv x33),V 87 (bv false)],[W 0 4 [bs a0,iv x67,iv a2,iv a3]],1⟩ ?_
     refine jr_nil rfl ?_
     exact jx_mid rfl (wkR [(0,some 0)] (fix_of hF (k:=1) rfl) (pc (hC 0) allp_nil))
    intro x75
    refine jG 22 9 ⟨[V 0 (pt 0 4),V 5 (iv a1),V 6 (iv x33),V 96 (bv (x75 && (decide ((w64 (x67 - x33)) < 9))))],[W 0 4 [bs a0,iv x67,iv a2,iv a3]],1⟩ ?_
    refine jN ?_
    refine jIf ?_ ?_
    ·refine jc_skip ?_
     refine jx_seqN ?_
     refine jc_block ?_
     refine jT ⟨[V 0 (pt 0 4),V 5 (iv a1),V 6 (iv x33)],[W 0 4 [bs a0,iv (w64 (x67 + 1)),iv a2,iv a3]],1⟩ ?_
     refine jx_blkN ?_
     exact jx_next (wkR [(0,some 0)] (fix_of hF (k:=1) rfl) (pc (hC 0) allp_nil))
    refine jc_exit ?_
    refine jx_seqE ?_
    exact jx_done rfl nofun (wkR [(0,some 0)] (fix_of hF (k:=1) rfl) (pc (hC 0) allp_nil))
   intro x72
   refine jx_blkE ?_
   exact jx_mid rfl (wkR [(0,some 0)] (fix_of hF (k:=1) rfl) (pc (hC 0) allp_nil))
  refine jR ?_
  refine jG 0 1 ⟨[V 0 (pt 0 4),V 5 (iv a1),V 6 (iv x33),V 104 (pt 0 4)],[W 0 4 [bs a0,iv x33,iv a2,iv a3]],1⟩ ?_
  refine jr_callF (i:=1) rfl rfl rfl rfl (vs:=[pt 0 4,.s (.int .u8 48)]) (vs0:=[.fptr [bs a0,iv x33,iv a2,iv a3] 0,.s (.int .u8 48)]) (b:=true) (by kernel_rfl) (by kernel_rfl) (all2_cons (fle_refl _) (all2_cons (fle_refl _) all2_nil)) (cnf_reader_is_sb17f_ok a0 x33 a2 a3 48) (fun _=>rfl) (fun _=>rfl) ?_
  intro x78 h78
  refine jG 2 5 ⟨[V 0 (pt 0 4),V 5 (iv a1),V 110 (bv (x78 && (x33 == a1)))],[W 0 4 [bs a0,iv x33,iv a2,iv a3]],1⟩ ?_
  refine jN ?_
  refine jIf ?_ ?_
  ·refine jT ⟨[V 0 (pt 0 4),V 5 (iv a1)],[W 0 4 [bs a0,iv (w64 (x33 + 1)),iv a2,iv a3]],1⟩ ?_
   exact jx_mid rfl (wkR [(0,some 0)] (fix_of hF (k:=1) rfl) (pc (hC 0) allp_nil))
  refine jR ?_
  refine jG 0 1 ⟨[V 118 (pt 0 4)],[W 0 4 [bs a0,iv x33,iv a2,iv a3]],1⟩ ?_
  refine jr_callM 1 [(0,some 0)] [(0,some 0)] (fun r:Int × Int=>[W 0 4 [bs a0,iv x33,iv r.1,iv r.2]]) (fun r:Int × Int=>.tup []) 1 (cnf_reader_stuck_ok a0 x33 a2 a3) (pc (hC 0) allp_nil) (fun r=>(pc (.inr (hC 0)) allp_nil)) ?_
  rintro⟨x79,x80⟩ hm3
  refine jN ?_
  refine jS ⟨[V 4 (iv 0)],[W 0 4 [bs a0,iv x33,iv x79,iv x80]],1⟩ ?_
  refine jc_ret ?_
  exact jx_mid rfl (wkR [(0,some 0)] (fix_of hF (k:=1) rfl) (pc (hC 0) allp_nil))
 rintro (x53 | ⟨x54,x55⟩)
 ·refine jx_seqN ?_
  refine jR ?_
  refine jG 0 9 ⟨[V 124 (bs a0),V 125 (iv a1),V 129 (iv x53)],[W 0 4 [bs a0,iv x53,iv a2,iv a3]],1⟩ ?_
  refine jr_part (i:=9) (mo:=subl a0 a1 x53) rfl rfl rfl rfl (fun _ hc=>aop_subs (by kernel_rfl) (by kernel_rfl) (by kernel_rfl) (by kernel_rfl) hc) (fun _=>rfl) ?_
  intro x81 h81
  refine jr_callPF (i:=10) rfl rfl (vs:=[bs x81]) (by kernel_rfl) rfl (strconv_Atoi_ok x81) (fun _=>rfl) ?_
  intro x82 h82
  refine jG 11 5 ⟨[V 7 (iv x82)],[W 0 4 [bs a0,iv x53,iv a2,iv a3]],1⟩ ?_
  refine jN ?_
  refine jS ⟨[V 4 (iv x82)],[W 0 4 [bs a0,iv x53,iv a2,iv a3]],1⟩ ?_
  refine jc_ret ?_
  exact jx_retM (cnf_reader_number_T a0 a1 a2 a3 a4 (x82,x53,a2,a3)) (.inr rfl) (wkR [(0,some 0)] (fix_of hF (k:=1) rfl) (pc (hC 0) allp_nil))
 refine jx_seqR ?_
 exact jx_retM (cnf_reader_number_T a0 a1 a2 a3 a4 (0,x33,x54,x55)) (.inr rfl) (wkR [(0,some 0)] (fix_of hF (k:=1) rfl) (pc (hC 0) allp_nil)))
abbrev ref24_Reader_number_r1:List LO:=[lo 2 (.assign (.const (.int .i64 0))) 3]
abbrev ref24_Reader_number_r2:List LO:=[lm 5 0 96,lo 6 (.nilCheck (.tmp 5)) 0,lo 7 (.fieldAddr 98 (.tmp 6) 1) 0,lo 8 (.load 3 (.tmp 7)) 3,lo 3 (.assign (.tmp 8)) 3]
abbrev ref24_Reader_number_r3:List LO:=[lo 4 (.assign (.const (.int .i64 0))) 3]
abbrev ref24_Reader_number_r4:List LO:=[lm 9 0 96,lo 10 (.nilCheck (.tmp 9)) 0,lo 11 (.fieldAddr 98 (.tmp 10) 2) 0,lo 12 (.load 3 (.tmp 11)) 3,lo 13 (.binOp .eql 3 (.tmp 12) (.const (.int .i64 0)) 3) 4,lm 14 13 4,lmg 15 0 96 14 true,lg 16 (.nilCheck (.tmp 15)) 0 14 true,lg 17 (.fieldAddr 98 (.tmp 16) 1) 0 14 true,lg 18 (.load 3 (.tmp 17)) 3 14 true,lmg 19 0 96 14 true,lg 20 (.nilCheck (.tmp 19)) 0 14 true,lg 21 (.fieldAddr 98 (.tmp 20) 0) 0 14 true,lg 22 (.load 9 (.tmp 21)) 9 14 true,lg 23 (.call ⟨.builtin .len,#[.tmp 22],#[9]⟩) 3 14 true,lg 24 (.binOp .lss 3 (.tmp 18) (.tmp 23) 3) 4 14 true,lo 25 (.pick (.tmp 14) (.tmp 24) (.const (.bool false))) 4,lm 26 25 4,lmg 27 0 96 26 true,lg 28 (.nilCheck (.tmp 27)) 0 26 true,lg 29 (.fieldAddr 98 (.tmp 28) 0) 0 26 true,lg 30 (.load 9 (.tmp 29)) 9 26 true,lmg 31 0 96 26 true,lg 32 (.nilCheck (.tmp 31)) 0 26 true,lg 33 (.fieldAddr 98 (.tmp 32) 1) 0 26 true,lg 34 (.load 3 (.tmp 33)) 3 26 true,lg 35 (.index 9 (.tmp 30) (.tmp 34)) 5 26 true,lg 36 (.binOp .geq 5 (.tmp 35) (.const (.int .u8 48)) 5) 4 26 true,lo 37 (.pick (.tmp 26) (.tmp 36) (.const (.bool false))) 4,lm 38 37 4,lmg 39 0 96 38 true,lg 40 (.nilCheck (.tmp 39)) 0 38 true,lg 41 (.fieldAddr 98 (.tmp 40) 0) 0 38 true,lg 42 (.load 9 (.tmp 41)) 9 38 true,lmg 43 0 96 38 true,lg 44 (.nilCheck (.tmp 43)) 0 38 true,lg 45 (.fieldAddr 98 (.tmp 44) 1) 0 38 true,lg 46 (.load 3 (.tmp 45)) 3 38 true,lg 47 (.index 9 (.tmp 42) (.tmp 46)) 5 38 true,lg 48 (.binOp .leq 5 (.tmp 47) (.const (.int .u8 57)) 5) 4 38 true,lo 49 (.pick (.tmp 38) (.tmp 48) (.const (.bool false))) 4]
abbrev ref24_Reader_number_r5:List LO:=[lm 50 0 96,lo 51 (.nilCheck (.tmp 50)) 0,lo 52 (.fieldAddr 98 (.tmp 51) 1) 0,lo 53 (.load 3 (.tmp 52)) 3,lm 54 3 3,lo 55 (.binOp .sub 3 (.tmp 53) (.tmp 54) 3) 3,lo 56 (.binOp .eql 3 (.tmp 55) (.const (.int .i64 9)) 3) 4,lm 57 56 4,lmg 58 0 96 57 false,lg 59 (.nilCheck (.tmp 58)) 0 57 false,lg 60 (.fieldAddr 98 (.tmp 59) 1) 0 57 false,lg 61 (.load 3 (.tmp 60)) 3 57 false,lmg 62 3 3 57 false,lg 63 (.binOp .add 3 (.tmp 62) (.const (.int .i64 1)) 3) 3 57 false,lg 64 (.binOp .eql 3 (.tmp 61) (.tmp 63) 3) 4 57 false,lmg 65 64 4 57 false,lmg 66 0 96 65 true,lg 67 (.nilCheck (.tmp 66)) 0 65 true,lg 68 (.fieldAddr 98 (.tmp 67) 0) 0 65 true,lg 69 (.load 9 (.tmp 68)) 9 65 true,lmg 70 3 3 65 true,lg 71 (.index 9 (.tmp 69) (.tmp 70)) 5 65 true,lg 72 (.binOp .eql 5 (.tmp 71) (.const (.int .u8 48)) 5) 4 65 true,lg 73 (.pick (.tmp 65) (.tmp 72) (.const (.bool false))) 4 57 false,lo 74 (.pick (.tmp 57) (.const (.bool true)) (.tmp 73)) 4]
abbrev ref24_Reader_number_r6:List LO:=[lm 75 0 96,lo 76 (.call ⟨.value (.func 66),#[.tmp 75],#[96]⟩) 0]
abbrev ref24_Reader_number_r7:List LO:=[lo 2 (.assign (.const (.int .i64 0))) 3]
abbrev ref24_Reader_number_r8:List LO:=[lm 77 4 3,lo 78 (.binOp .mul 3 (.const (.int .i64 10)) (.tmp 77) 3) 3,lm 79 0 96,lo 80 (.nilCheck (.tmp 79)) 0,lo 81 (.fieldAddr 98 (.tmp 80) 0) 0,lo 82 (.load 9 (.tmp 81)) 9,lm 83 0 96,lo 84 (.nilCheck (.tmp 83)) 0,lo 85 (.fieldAddr 98 (.tmp 84) 1) 0,lo 86 (.load 3 (.tmp 85)) 3,lo 87 (.index 9 (.tmp 82) (.tmp 86)) 5,lo 88 (.binOp .sub 5 (.tmp 87) (.const (.int .u8 48)) 5) 5,lo 89 (.convert 5 3 (.tmp 88)) 3,lo 90 (.binOp .add 3 (.tmp 78) (.tmp 89) 3) 3,lo 4 (.assign (.tmp 90)) 3]
abbrev ref24_Reader_number_r9:List LO:=[lm 91 0 96,lo 92 (.nilCheck (.tmp 91)) 0,lo 93 (.fieldAddr 98 (.tmp 92) 1) 0,lo 94 (.load 3 (.tmp 93)) 3,lo 95 (.binOp .add 3 (.tmp 94) (.const (.int .i64 1)) 3) 3,lo 96 (.nilCheck (.tmp 91)) 0,lo 97 (.fieldAddr 98 (.tmp 96) 1) 0,ln (.store 3 (.tmp 97) (.tmp 95)) 0]
abbrev ref24_Reader_number_r10:List LO:=[lm 98 0 96,lo 99 (.nilCheck (.tmp 98)) 0,lo 100 (.fieldAddr 98 (.tmp 99) 1) 0,lo 101 (.load 3 (.tmp 100)) 3,lm 102 3 3,lo 103 (.binOp .eql 3 (.tmp 101) (.tmp 102) 3) 4]
abbrev ref24_Reader_number_r11:List LO:=[lm 104 0 96,lo 105 (.call ⟨.value (.func 66),#[.tmp 104],#[96]⟩) 0]
abbrev ref24_Reader_number_r12:List LO:=[lm 106 4 3,lo 2 (.assign (.tmp 106)) 3]
abbrev ref24_Reader_number_c:LC:=.seq (.reg false ref24_Reader_number_r1) (.seq (.reg false ref24_Reader_number_r2) (.seq (.reg false ref24_Reader_number_r3) (.seq (.block 0 (.loop (.seq (.seq (.reg true ref24_Reader_number_r4) (.cond (.tmp 49) .skip (.exit 0))) (.block 1 (.seq (.seq (.reg false ref24_Reader_number_r5) (.cond (.tmp 74) (.seq (.reg false ref24_Reader_number_r6) (.seq (.reg false ref24_Reader_number_r7) .ret)) .skip)) (.seq (.reg true ref24_Reader_number_r8) (.reg false ref24_Reader_number_r9))))))) (.seq (.seq (.reg false ref24_Reader_number_r10) (.cond (.tmp 103) (.reg false ref24_Reader_number_r11) .skip)) (.seq (.reg false ref24_Reader_number_r12) .ret)))))
theorem ref24_Reader_number_k:FnOk E 63 107 [.tmp 2] ref24_Reader_number_c:=⟨⟨Go.Proofs.Tryd.f63,by kernel_rfl,by kernel_rfl,by kernel_rfl,by kernel_rfl,by kernel_rfl⟩,rfl,rfl⟩
noncomputable def ref24_Reader_number_l1 (a0:Str) (a1:Int) (a2:Int):(Int × Int)→Option (Step (Int × Int) ((Int × Int) ⊕ (Int × Int))):=fun (x41,x42)=>Option.bind (if ((a2 == 0) && (decide (x41 < (List.length a0:Int))))=true then Option.bind (idx a0 x41) (fun x60=>some (decide (x60≥48))) else some false:Option (Bool)) (fun x59=>Option.bind (if x59=true then Option.bind (idx a0 x41) (fun x63=>some (decide (x63≤57))) else some false:Option (Bool)) (fun x62=>(if x62=true then Option.bind (if ((w64 (x41 - a1)) == 9)=true then some true else Option.bind (if (x41 == (w64 (a1 + 1)))=true then Option.bind (idx a0 a1) (fun x69=>some (x69 == 48)) else some false:Option (Bool)) (fun x68=>some (false || x68)):Option (Bool)) (fun x66=>(if x66=true then Option.bind (ref24_Reader_none a0 x41 a2) (fun x70=>some (Step.done (Sum.inl (x41,x70)))) else Option.bind (idx a0 x41) (fun x71=>some (Step.next ((w64 (x41 + 1)),(w64 ((w64 (10 * x42)) + (w64 ((IntKind.wrap .u8 (x71 - 48))))))))))) else some (Step.done (Sum.inr (x41,x42))))))
abbrev ref24_Reader_number_T (a0:Str) (a1:Int) (a2:Int) (r:Int × Int × Int):CS:=⟨[V 2 (iv r.1)],[W 0 3 [bs a0,iv r.2.1,iv r.2.2]],1⟩
noncomputable def ref24_Reader_number (a0:Str) (a1:Int) (a2:Int):Option (Int × Int × Int):=Option.bind (loopC (ref24_Reader_number_l1 a0 a1 a2) (a1,0)) (fun y=>match y with | Sum.inl (x54,x55)=>some (0,x54,x55) | Sum.inr (x56,x57)=>Option.bind ((if (x56 == a1)=true then Option.bind (ref24_Reader_none a0 x56 a2) (fun x74=>some x74) else some a2):Option (Int)) (fun x73=>some (x57,x56,x73)))
theorem ref24_Reader_number_ok (a0:Str) (a1:Int) (a2:Int):CtM E 63 [pt 0 3] [W 0 3 [bs a0,iv a1,iv a2]] 1 (ref24_Reader_number a0 a1 a2) (fun r:Int × Int × Int=>iv r.1) (fun r:Int × Int × Int=>[W 0 3 [bs a0,iv r.2.1,iv r.2.2]]) 1:=ctm_intro (N:=107) (L:=ref24_Reader_number_c) ref24_Reader_number_k rfl (Nat.le_of_ble_eq_true rfl) (fun F hF=>by
 unfold ref24_Reader_number
 refine jS ⟨[V 0 (pt 0 3)],[W 0 3 [bs a0,iv a1,iv a2]],1⟩ ?_
 refine jS ⟨[V 0 (pt 0 3),V 3 (iv a1)],[W 0 3 [bs a0,iv a1,iv a2]],1⟩ ?_
 refine jS ⟨[V 0 (pt 0 3),V 3 (iv a1),V 4 (iv 0)],[W 0 3 [bs a0,iv a1,iv a2]],1⟩ ?_
 refine jc_seq ?_
 refine jc_block ?_
 refine jc_bind (fun y=>match y with | Sum.inl (x54,x55)=>⟨[V 2 (iv 0)],[W 0 3 [bs a0,iv x54,iv x55]],1⟩ | Sum.inr (x56,x57)=>⟨[V 0 (pt 0 3),V 3 (iv a1),V 4 (iv x57)],[W 0 3 [bs a0,iv x56,iv a2]],1⟩) (fun y=>match y with | Sum.inl (x54,x55)=>.ret | Sum.inr (x56,x57)=>(.exit 0)) (jc_loop (fun (x41,x42)=>⟨[V 0 (pt 0 3),V 3 (iv a1),V 4 (iv x42)],[W 0 3 [bs a0,iv x41,iv a2]],1⟩) (wkR [(0,some 0)] (fix_of hF (k:=1) rfl) (pc (hC 0) allp_nil)) ?_) ?_
 ·rintro⟨x41,x42⟩
  unfold ref24_Reader_number_l1
  refine jc_seq ?_
  refine jR ?_
  refine jG 0 18 ⟨[V 0 (pt 0 3),V 3 (iv a1),V 4 (iv x42),V 26 (bv ((a2 == 0) && (decide (x41 < (List.length a0:Int)))))],[W 0 3 [bs a0,iv x41,iv a2]],1⟩ ?_
  refine jr_bind 18 11 (fun x59=>⟨[V 0 (pt 0 3),V 3 (iv a1),V 4 (iv x42),V 37 (bv x59)],[W 0 3 [bs a0,iv x41,iv a2]],1⟩) ?_ ?_
  ·refine jSp 26 ?_ ?_
   ·refine jG 0 8 ⟨[V 0 (pt 0 3),V 3 (iv a1),V 4 (iv x42),(26,.lit true),V 30 (bs a0),V 34 (iv x41)],[W 0 3 [bs a0,iv x41,iv a2]],1⟩ ?_
    refine jr_part (i:=8) (mo:=idx a0 x41) rfl rfl rfl rfl (fun _ hc=>aop_index (kk:=.i64) (by kernel_rfl) (by kernel_rfl) (by kernel_rfl) hc) (fun _=>rfl) ?_
    intro x60 h60
    refine jG 9 2 ⟨[V 0 (pt 0 3),V 3 (iv a1),V 4 (iv x42),V 37 (bv (decide (x60≥48)))],[W 0 3 [bs a0,iv x41,iv a2]],1⟩ ?_
    refine jr_nil rfl ?_
    exact jx_mid rfl (wkR [(0,some 0)] (fix_of hF (k:=1) rfl) (pc (hC 0) allp_nil))
   refine jG 0 11 ⟨[V 0 (pt 0 3),V 3 (iv a1),V 4 (iv x42),V 37 (bv false)],[W 0 3 [bs a0,iv x41,iv a2]],1⟩ ?_
   refine jr_nil rfl ?_
   exact jx_mid rfl (wkR [(0,some 0)] (fix_of hF (k:=1) rfl) (pc (hC 0) allp_nil))
  intro x59
  refine jG 29 1 ⟨[V 0 (pt 0 3),V 3 (iv a1),V 4 (iv x42),V 38 (bv x59)],[W 0 3 [bs a0,iv x41,iv a2]],1⟩ ?_
  refine jr_bind 30 11 (fun x62=>⟨[V 0 (pt 0 3),V 3 (iv a1),V 4 (iv x42),V 49 (bv x62)],[W 0 3 [bs a0,iv x41,iv a2]],1⟩) ?_ ?_
  ·refine jSp 38 ?_ ?_
   ·refine jG 0 8 ⟨[V 0 (pt 0 3),V 3 (iv a1),V 4 (iv x42),(38,.lit true),V 42 (bs a0),V 46 (iv x41)],[W 0 3 [bs a0,iv x41,iv a2]],1⟩ ?_
    refine jr_part (i:=8) (mo:=idx a0 x41) rfl rfl rfl rfl (fun _ hc=>aop_index (kk:=.i64) (by kernel_rfl) (by kernel_rfl) (by kernel_rfl) hc) (fun _=>rfl) ?_
    intro x63 h63
    refine jG 9 2 ⟨[V 0 (pt 0 3),V 3 (iv a1),V 4 (iv x42),V 49 (bv (decide (x63≤57)))],[W 0 3 [bs a0,iv x41,iv a2]],1⟩ ?_
    refine jr_nil rfl ?_
    exact jx_mid rfl (wkR [(0,some 0)] (fix_of hF (k:=1) rfl) (pc (hC 0) allp_nil))
   refine jG 0 11 ⟨[V 0 (pt 0 3),V 3 (iv a1),V 4 (iv x42),V 49 (bv false)],[W 0 3 [bs a0,iv x41,iv a2]],1⟩ ?_
   refine jr_nil rfl ?_
   exact jx_mid rfl (wkR [(0,some 0)] (fix_of hF (k:=1) rfl) (pc (hC 0) allp_nil))
  intro x62
  refine jN ?_
  refine jIf ?_ ?_
  ·refine jc_skip ?_
   refine jx_seqN ?_
   refine jc_block ?_
   refine jc_seq ?_
   refine jR ?_
   refine jG 0 8 ⟨[V 0 (pt 0 3),V 3 (iv a1),V 4 (iv x42),V 57 (bv ((w64 (x41 - a1)) == 9))],[W 0 3 [bs a0,iv x41,iv a2]],1⟩ ?_
   refine jr_bind 8 17 (fun x66=>⟨[V 0 (pt 0 3),V 3 (iv a1),V 4 (iv x42),V 74 (bv x66)],[W 0 3 [bs a0,iv x41,iv a2]],1⟩) ?_ ?_
   ·refine jSp 57 ?_ ?_
    ·refine jG 0 17 ⟨[V 0 (pt 0 3),V 3 (iv a1),V 4 (iv x42),V 74 (bv true)],[W 0 3 [bs a0,iv x41,iv a2]],1⟩ ?_
     refine jr_nil rfl ?_
     exact jx_mid rfl (wkR [(0,some 0)] (fix_of hF (k:=1) rfl) (pc (hC 0) allp_nil))
    refine jG 0 8 ⟨[V 0 (pt 0 3),V 3 (iv a1),V 4 (iv x42),(57,.lit false),V 65 (bv (x41 == (w64 (a1 + 1))))],[W 0 3 [bs a0,iv x41,iv a2]],1⟩ ?_
    refine jr_bind 8 8 (fun x68=>⟨[V 0 (pt 0 3),V 3 (iv a1),V 4 (iv x42),V 57 (bv false),V 73 (bv x68)],[W 0 3 [bs a0,iv x41,iv a2]],1⟩) ?_ ?_
    ·refine jSp 65 ?_ ?_
     ·refine jG 0 5 ⟨[V 0 (pt 0 3),V 3 (iv a1),V 4 (iv x42),(57,.lit false),(65,.lit true),V 69 (bs a0),V 70 (iv a1)],[W 0 3 [bs a0,iv x41,iv a2]],1⟩ ?_
      refine jr_part (i:=5) (mo:=idx a0 a1) rfl rfl rfl rfl (fun _ hc=>aop_index (kk:=.i64) (by kernel_rfl) (by kernel_rfl) (by kernel_rfl) hc) (fun _=>rfl) ?_
      intro x69 h69
      refine jG 6 2 ⟨[V 0 (pt 0 3),V 3 (iv a1),V 4 (iv x42),(57,.lit false),V 73 (bv (x69 == 48))],[W 0 3 [bs a0,iv x41,iv a2]],1⟩ ?_
      refine jr_nil rfl ?_
      exact jx_mid rfl (wkR [(0,some 0)] (fix_of hF (k:=1) rfl) (pc (hC 0) allp_nil))
     refine jG 0 8 ⟨[V 0 (pt 0 3),V 3 (iv a1),V 4 (iv x42),(57,.lit false),V 73 (bv false)],[W 0 3 [bs a0,iv x41,iv a2]],1⟩ ?_
     refine jr_nil rfl ?_
     exact jx_mid rfl (wkR [(0,some 0)] (fix_of hF (k:=1) rfl) (pc (hC 0) allp_nil))
    intro x68
    refine jG 16 1 ⟨[V 0 (pt 0 3),V 3 (iv a1),V 4 (iv x42),V 74 (bv (false || x68))],[W 0 3 [bs a0,iv x41,iv a2]],1⟩ ?_
    refine jr_nil rfl ?_
    exact jx_mid rfl (wkR [(0,some 0)] (fix_of hF (k:=1) rfl) (pc (hC 0) allp_nil))
   intro x66
   refine jN ?_
   refine jIf ?_ ?_
   ·refine jR ?_
    refine jG 0 1 ⟨[V 75 (pt 0 3)],[W 0 3 [bs a0,iv x41,iv a2]],1⟩ ?_
    refine jr_callM 1 [(0,some 0)] [(0,some 0)] (fun r:Int=>[W 0 3 [bs a0,iv x41,iv r]]) (fun r:Int=>.tup []) 1 (ref24_Reader_none_ok a0 x41 a2) (pc (hC 0) allp_nil) (fun r=>(pc (.inr (hC 0)) allp_nil)) ?_
    rintro x70 hm6
    refine jN ?_
    refine jS ⟨[V 2 (iv 0)],[W 0 3 [bs a0,iv x41,iv x70]],1⟩ ?_
    refine jc_ret ?_
    refine jx_seqR ?_
    refine jx_blkR ?_
    exact jx_done rfl nofun (wkR [(0,some 0)] (fix_of hF (k:=1) rfl) (pc (hC 0) allp_nil))
   refine jc_skip ?_
   refine jx_seqN ?_
   refine jR ?_
   refine jG 0 10 ⟨[V 0 (pt 0 3),V 3 (iv a1),V 78 (iv (w64 (10 * x42))),V 82 (bs a0),V 86 (iv x41)],[W 0 3 [bs a0,iv x41,iv a2]],1⟩ ?_
   refine jr_part (i:=10) (mo:=idx a0 x41) rfl rfl rfl rfl (fun _ hc=>aop_index (kk:=.i64) (by kernel_rfl) (by kernel_rfl) (by kernel_rfl) hc) (fun _=>rfl) ?_
   intro x71 h71
   refine jG 11 4 ⟨[V 0 (pt 0 3),V 3 (iv a1),V 4 (iv (w64 ((w64 (10 * x42)) + (w64 ((IntKind.wrap .u8 (x71 - 48)))))))],[W 0 3 [bs a0,iv x41,iv a2]],2⟩ ?_
   refine jN ?_
   refine jT ⟨[V 0 (pt 0 3),V 3 (iv a1),V 4 (iv (w64 ((w64 (10 * x42)) + (w64 ((IntKind.wrap .u8 (x71 - 48)))))))],[W 0 3 [bs a0,iv (w64 (x41 + 1)),iv a2]],2⟩ ?_
   refine jx_blkN ?_
   exact jx_next (wkR [(0,some 0)] (fix_of hF (k:=1) rfl) (pc (hC 0) allp_nil))
  refine jc_exit ?_
  refine jx_seqE ?_
  exact jx_done rfl nofun (wkR [(0,some 0)] (fix_of hF (k:=1) rfl) (pc (hC 0) allp_nil))
 rintro (⟨x54,x55⟩ | ⟨x56,x57⟩)
 ·refine jx_blkR ?_
  refine jx_seqR ?_
  exact jx_retM (ref24_Reader_number_T a0 a1 a2 (0,x54,x55)) (.inr rfl) (wkR [(0,some 0)] (fix_of hF (k:=1) rfl) (pc (hC 0) allp_nil))
 refine jx_blkE ?_
 refine jx_seqN ?_
 refine jc_seq ?_
 refine jc_bind (fun x73=>⟨[V 4 (iv x57)],[W 0 3 [bs a0,iv x56,iv x73]],1⟩) (fun x73=>.normal) ?_ ?_
 ·refine jS ⟨[V 0 (pt 0 3),V 4 (iv x57),V 103 (bv (x56 == a1))],[W 0 3 [bs a0,iv x56,iv a2]],1⟩ ?_
  refine jIf ?_ ?_
  ·refine jc_reg ?_
   refine jG 0 1 ⟨[V 4 (iv x57),V 104 (pt 0 3)],[W 0 3 [bs a0,iv x56,iv a2]],1⟩ ?_
   refine jr_callM 1 [(0,some 0)] [(0,some 0)] (fun r:Int=>[W 0 3 [bs a0,iv x56,iv r]]) (fun r:Int=>.tup []) 1 (ref24_Reader_none_ok a0 x56 a2) (pc (hC 0) allp_nil) (fun r=>(pc (.inr (hC 0)) allp_nil)) ?_
   rintro x74 hm8
   refine jr_nil rfl ?_
   exact jx_mid rfl (wkR [(0,some 0)] (fix_of hF (k:=1) rfl) (pc (hC 0) allp_nil))
  refine jc_skip ?_
  exact jx_mid rfl (wkR [(0,some 0)] (fix_of hF (k:=1) rfl) (pc (hC 0) allp_nil))
 intro x73
 refine jx_seqN ?_
 refine jS ⟨[V 2 (iv x57)],[W 0 3 [bs a0,iv x56,iv x73]],1⟩ ?_
 refine jc_ret ?_
 exact jx_retM (ref24_Reader_number_T a0 a1 a2 (x57,x56,x73)) (.inr rfl) (wkR [(0,some 0)] (fix_of hF (k:=1) rfl) (pc (hC 0) allp_nil)))
abbrev ref24_Reader_literal_r1:List LO:=[lo 2 (.assign (.const (.int .i64 0))) 3]
abbrev ref24_Reader_literal_r2:List LO:=[lo 3 (.assign (.const (.int .i64 1))) 3]
abbrev ref24_Reader_literal_r3:List LO:=[lm 4 0 96,lo 5 (.call ⟨.value (.func 64),#[.tmp 4,.const (.int .u8 45)],#[96,5]⟩) 4]
abbrev ref24_Reader_literal_r4:List LO:=[lo 3 (.assign (.const (.int .i64 (-1)))) 3]
abbrev ref24_Reader_literal_r5:List LO:=[lm 6 0 96,lo 7 (.nilCheck (.tmp 6)) 0,lo 8 (.fieldAddr 98 (.tmp 7) 1) 0,lo 9 (.load 3 (.tmp 8)) 3,lo 10 (.binOp .add 3 (.tmp 9) (.const (.int .i64 1)) 3) 3,lo 11 (.nilCheck (.tmp 6)) 0,lo 12 (.fieldAddr 98 (.tmp 11) 1) 0,ln (.store 3 (.tmp 12) (.tmp 10)) 0]
abbrev ref24_Reader_literal_r6:List LO:=[lm 13 0 96,lo 14 (.call ⟨.value (.func 64),#[.tmp 13,.const (.int .u8 48)],#[96,5]⟩) 4]
abbrev ref24_Reader_literal_r7:List LO:=[lm 15 0 96,lo 16 (.call ⟨.value (.func 66),#[.tmp 15],#[96]⟩) 0]
abbrev ref24_Reader_literal_r8:List LO:=[lm 17 3 3,lm 18 0 96,lo 19 (.call ⟨.value (.func 63),#[.tmp 18],#[96]⟩) 3,lo 20 (.binOp .mul 3 (.tmp 17) (.tmp 19) 3) 3,lo 2 (.assign (.tmp 20)) 3]
abbrev ref24_Reader_literal_c:LC:=.seq (.reg false ref24_Reader_literal_r1) (.seq (.reg false ref24_Reader_literal_r2) (.seq (.seq (.reg false ref24_Reader_literal_r3) (.cond (.tmp 5) (.seq (.reg false ref24_Reader_literal_r4) (.reg false ref24_Reader_literal_r5)) .skip)) (.seq (.seq (.reg false ref24_Reader_literal_r6) (.cond (.tmp 14) (.reg false ref24_Reader_literal_r7) .skip)) (.seq (.reg false ref24_Reader_literal_r8) .ret))))
theorem ref24_Reader_literal_k:FnOk E 65 21 [.tmp 2] ref24_Reader_literal_c:=⟨⟨Go.Proofs.Tryd.f65,by kernel_rfl,by kernel_rfl,by kernel_rfl,by kernel_rfl,by kernel_rfl⟩,rfl,rfl⟩
abbrev ref24_Reader_literal_T (a0:Str) (a1:Int) (a2:Int) (r:Int × Int × Int):CS:=⟨[V 2 (iv r.1)],[W 0 3 [bs a0,iv r.2.1,iv r.2.2]],1⟩
noncomputable def ref24_Reader_literal (a0:Str) (a1:Int) (a2:Int):Option (Int × Int × Int):=Option.bind (Option.bind (ref24_Reader_is_s1fbc a0 a1 a2 45) (fun x16=>(if x16=true then some ((w64 (a1 + 1)),(-1)) else some (a1,1))):Option (Int × Int)) (fun (x14,x15)=>Option.bind (Option.bind (ref24_Reader_is_s1fbc a0 x14 a2 48) (fun x20=>(if x20=true then Option.bind (ref24_Reader_none a0 x14 a2) (fun x21=>some x21) else some a2)):Option (Int)) (fun x19=>Option.bind (ref24_Reader_number a0 x14 x19) (fun (x22,x23,x24)=>some ((w64 (x15 * x22)),x23,x24))))
theorem ref24_Reader_literal_ok (a0:Str) (a1:Int) (a2:Int):CtM E 65 [pt 0 3] [W 0 3 [bs a0,iv a1,iv a2]] 1 (ref24_Reader_literal a0 a1 a2) (fun r:Int × Int × Int=>iv r.1) (fun r:Int × Int × Int=>[W 0 3 [bs a0,iv r.2.1,iv r.2.2]]) 1:=ctm_intro (N:=21) (L:=ref24_Reader_literal_c) ref24_Reader_literal_k rfl (Nat.le_of_ble_eq_true rfl) (fun F hF=>by
 unfold ref24_Reader_literal
 refine jS ⟨[V 0 (pt 0 3)],[W 0 3 [bs a0,iv a1,iv a2]],1⟩ ?_
 refine jS ⟨[V 0 (pt 0 3),V 3 (iv 1)],[W 0 3 [bs a0,iv a1,iv a2]],1⟩ ?_
 refine jc_seq ?_
 refine jc_bind (fun (x14,x15)=>⟨[V 0 (pt 0 3),V 3 (iv x15)],[W 0 3 [bs a0,iv x14,iv a2]],1⟩) (fun (x14,x15)=>.normal) ?_ ?_
 ·refine jR ?_
  refine jG 0 1 ⟨[V 0 (pt 0 3),V 3 (iv 1),V 4 (pt 0 3)],[W 0 3 [bs a0,iv a1,iv a2]],1⟩ ?_
  refine jr_callF (i:=1) rfl rfl rfl rfl (vs:=[pt 0 3,.s (.int .u8 45)]) (vs0:=[.fptr [bs a0,iv a1,iv a2] 0,.s (.int .u8 45)]) (b:=true) (by kernel_rfl) (by kernel_rfl) (all2_cons (fle_refl _) (all2_cons (fle_refl _) all2_nil)) (ref24_Reader_is_s1fbc_ok a0 a1 a2 45) (fun _=>rfl) (fun _=>rfl) ?_
  intro x16 h16
  refine jN ?_
  refine jIf ?_ ?_
  ·refine jS ⟨[V 0 (pt 0 3),V 3 (iv (-1))],[W 0 3 [bs a0,iv a1,iv a2]],1⟩ ?_
   refine jT ⟨[V 0 (pt 0 3),V 3 (iv (-1))],[W 0 3 [bs a0,iv (w64 (a1 + 1)),iv a2]],1⟩ ?_
   exact jx_mid rfl (wkR [(0,some 0)] (fix_of hF (k:=1) rfl) (pc (hC 0) allp_nil))
  refine jc_skip ?_
  exact jx_mid rfl (wkR [(0,some 0)] (fix_of hF (k:=1) rfl) (pc (hC 0) allp_nil))
 rintro⟨x14,x15⟩
 refine jx_seqN ?_
 refine jc_seq ?_
 refine jc_bind (fun x19=>⟨[V 0 (pt 0 3),V 3 (iv x15)],[W 0 3 [bs a0,iv x14,iv x19]],1⟩) (fun x19=>.normal) ?_ ?_
 ·refine jR ?_
  refine jG 0 1 ⟨[V 0 (pt 0 3),V 3 (iv x15),V 13 (pt 0 3)],[W 0 3 [bs a0,iv x14,iv a2]],1⟩ ?_
  refine jr_callF (i:=1) rfl rfl rfl rfl (vs:=[pt 0 3,.s (.int .u8 48)]) (vs0:=[.fptr [bs a0,iv x14,iv a2] 0,.s (.int .u8 48)]) (b:=true) (by kernel_rfl) (by kernel_rfl) (all2_cons (fle_refl _) (all2_cons (fle_refl _) all2_nil)) (ref24_Reader_is_s1fbc_ok a0 x14 a2 48) (fun _=>rfl) (fun _=>rfl) ?_
  intro x20 h20
  refine jN ?_
  refine jIf ?_ ?_
  ·refine jc_reg ?_
   refine jG 0 1 ⟨[V 0 (pt 0 3),V 3 (iv x15),V 15 (pt 0 3)],[W 0 3 [bs a0,iv x14,iv a2]],1⟩ ?_
   refine jr_callM 1 [(0,some 0)] [(0,some 0)] (fun r:Int=>[W 0 3 [bs a0,iv x14,iv r]]) (fun r:Int=>.tup []) 1 (ref24_Reader_none_ok a0 x14 a2) (pc (hC 0) allp_nil) (fun r=>(pc (.inr (hC 0)) allp_nil)) ?_
   rintro x21 hm4
   refine jr_nil rfl ?_
   exact jx_mid rfl (wkR [(0,some 0)] (fix_of hF (k:=1) rfl) (pc (hC 0) allp_nil))
  refine jc_skip ?_
  exact jx_mid rfl (wkR [(0,some 0)] (fix_of hF (k:=1) rfl) (pc (hC 0) allp_nil))
 intro x19
 refine jx_seqN ?_
 refine jR ?_
 refine jG 0 2 ⟨[V 17 (iv x15),V 18 (pt 0 3)],[W 0 3 [bs a0,iv x14,iv x19]],1⟩ ?_
 refine jr_callM 2 [(0,some 0)] [(0,some 0)] (fun r:Int × Int × Int=>[W 0 3 [bs a0,iv r.2.1,iv r.2.2]]) (fun r:Int × Int × Int=>iv r.1) 1 (ref24_Reader_number_ok a0 x14 x19) (pc (hC 0) allp_nil) (fun r=>(pc (.inr (hC 0)) allp_nil)) ?_
 rintro⟨x22,x23,x24⟩ hm5
 refine jG 3 2 ⟨[V 2 (iv (w64 (x15 * x22)))],[W 0 3 [bs a0,iv x23,iv x24]],1⟩ ?_
 refine jN ?_
 refine jc_ret ?_
 exact jx_retM (ref24_Reader_literal_T a0 a1 a2 ((w64 (x15 * x22)),x23,x24)) (.inr rfl) (wkR [(0,some 0)] (fix_of hF (k:=1) rfl) (pc (hC 0) allp_nil)))
abbrev cnf_reader_clause_r1:List LO:=[lo 2 (.assign (.const (.slice none 0 0))) 23]
abbrev cnf_reader_clause_r2:List LO:=[lo 3 (.assign (.const (.slice none 0 0))) 23]
abbrev cnf_reader_clause_r3:List LO:=[lm 5 0 90,lo 6 (.call ⟨.value (.func 58),#[.tmp 5],#[90]⟩) 4]
abbrev cnf_reader_clause_r4:List LO:=[lm 7 0 90,lo 8 (.call ⟨.value (.func 57),#[.tmp 7,.const (.bool true)],#[90,4]⟩) 3,lo 4 (.assign (.tmp 8)) 3]
abbrev cnf_reader_clause_r5:List LO:=[lm 9 4 3,lo 10 (.binOp .eql 3 (.tmp 9) (.const (.int .i64 0)) 3) 4]
abbrev cnf_reader_clause_r6:List LO:=[lm 11 3 23,lm 12 4 3,lo 13 (.buildSlice 23 1 #[(0,.tmp 12)]) 23,lo 14 (.call ⟨.builtin .append,#[.tmp 11,.tmp 13],#[23,23]⟩) 23,lo 3 (.assign (.tmp 14)) 23]
abbrev cnf_reader_clause_r7:List LO:=[lm 15 0 90,lo 16 (.call ⟨.value (.func 56),#[.tmp 15,.const (.string ⟨#[32]⟩)],#[90,9]⟩) 0]
abbrev cnf_reader_clause_r8:List LO:=[lm 17 0 90,lo 18 (.call ⟨.value (.func 56),#[.tmp 17,.const (.string ⟨#[10]⟩)],#[90,9]⟩) 0]
abbrev cnf_reader_clause_r9:List LO:=[lm 19 3 23,lo 2 (.assign (.tmp 19)) 23]
abbrev cnf_reader_clause_c:LC:=.seq (.reg false cnf_reader_clause_r1) (.seq (.reg false cnf_reader_clause_r2) (.seq (.block 0 (.loop (.seq (.seq (.reg false cnf_reader_clause_r3) (.cond (.tmp 6) .skip (.exit 0))) (.block 1 (.seq (.reg false cnf_reader_clause_r4) (.seq (.seq (.reg false cnf_reader_clause_r5) (.cond (.tmp 10) (.exit 0) .skip)) (.seq (.reg false cnf_reader_clause_r6) (.reg false cnf_reader_clause_r7)))))))) (.seq (.reg false cnf_reader_clause_r8) (.seq (.reg false cnf_reader_clause_r9) .ret))))
theorem cnf_reader_clause_k:FnOk E 59 20 [.tmp 2] cnf_reader_clause_c:=⟨⟨Go.Proofs.Tryd.f59,by kernel_rfl,by kernel_rfl,by kernel_rfl,by kernel_rfl,by kernel_rfl⟩,rfl,rfl⟩
noncomputable def cnf_reader_clause_l1 (a0:Str):(Int × Int × Int × List Int)→Option (Step (Int × Int × Int × List Int) (Int × Int × Int × List Int)):=fun (x47,x48,x49,x50)=>Option.bind (cnf_reader_ok_s6db9 a0 x47 x48 x49) (fun x68=>(if x68=true then Option.bind (cnf_reader_number a0 x47 x48 x49 true) (fun (x69,x70,x71,x72)=>(if (x69 == 0)=true then some (Step.done (x70,x71,x72,x50)) else Option.bind (app 8 x50 [x69]) (fun x73=>Option.bind (cnf_reader_must a0 x70 x71 x72 [32]) (fun (x74,x75,x76)=>some (Step.next (x74,x75,x76,x73)))))) else some (Step.done (x47,x48,x49,x50))))
abbrev cnf_reader_clause_T (a0:Str) (a1:Int) (a2:Int) (a3:Int) (r:List Int × Int × Int × Int):CS:=⟨[V 2 (.osl 1 0 (List.length r.1) 1)],[W 0 4 [bs a0,iv r.2.1,iv r.2.2.1,iv r.2.2.2],(1,.rows 1 (List.map cI r.1))],2⟩
noncomputable def cnf_reader_clause (a0:Str) (a1:Int) (a2:Int) (a3:Int):Option (List Int × Int × Int × Int):=Option.bind (loopC (cnf_reader_clause_l1 a0) (a1,a2,a3,[])) (fun (x64,x65,x66,x67)=>Option.bind (cnf_reader_must a0 x64 x65 x66 [10]) (fun (x77,x78,x79)=>some (x67,x77,x78,x79)))
theorem cnf_reader_clause_ok (a0:Str) (a1:Int) (a2:Int) (a3:Int):CtM E 59 [pt 0 4] [W 0 4 [bs a0,iv a1,iv a2,iv a3]] 1 (cnf_reader_clause a0 a1 a2 a3) (fun r:List Int × Int × Int × Int=>.osl 1 0 (List.length r.1) 1) (fun r:List Int × Int × Int × Int=>[W 0 4 [bs a0,iv r.2.1,iv r.2.2.1,iv r.2.2.2],(1,.rows 1 (List.map cI r.1))]) 2:=ctm_intro (N:=20) (L:=cnf_reader_clause_c) cnf_reader_clause_k rfl (Nat.le_of_ble_eq_true rfl) (fun F hF=>by
 unfold cnf_reader_clause
 refine jS ⟨[V 0 (pt 0 4)],[W 0 4 [bs a0,iv a1,iv a2,iv a3]],1⟩ ?_
 refine jS ⟨[V 0 (pt 0 4),V 3 (nilS)],[W 0 4 [bs a0,iv a1,iv a2,iv a3]],1⟩ ?_
 refine jc_seq ?_
 refine jc_block ?_
 refine jc_bind (fun (x64,x65,x66,x67)=>⟨[V 0 (pt 0 4),V 3 (.osl 1 0 (List.length x67) 1)],[W 0 4 [bs a0,iv x64,iv x65,iv x66],(1,.rows 1 (List.map cI x67))],2⟩) (fun (x64,x65,x66,x67)=>(.exit 0)) (jc_loop (fun (x47,x48,x49,x50)=>⟨[V 0 (pt 0 4),V 3 (.osl 1 0 (List.length x50) 1)],[W 0 4 [bs a0,iv x47,iv x48,iv x49],(1,.rows 1 (List.map cI x50))],2⟩) (wkR [(0,some 0),(1,none)] (fix_of hF (k:=1) rfl) (pc (hC 0) (pc hZ allp_nil))) ?_) ?_
 ·rintro⟨x47,x48,x49,x50⟩
  unfold cnf_reader_clause_l1
  refine jc_seq ?_
  refine jR ?_
  refine jG 0 1 ⟨[V 0 (pt 0 4),V 3 (.osl 1 0 (List.length x50) 1),V 5 (pt 0 4)],[W 0 4 [bs a0,iv x47,iv x48,iv x49],(1,.rows 1 (List.map cI x50))],2⟩ ?_
  refine jr_callF (i:=1) rfl rfl rfl rfl (vs:=[pt 0 4]) (vs0:=[.fptr [bs a0,iv x47,iv x48,iv x49] 0]) (b:=true) (by kernel_rfl) (by kernel_rfl) (all2_cons (fle_refl _) all2_nil) (cnf_reader_ok_s6db9_ok a0 x47 x48 x49) (fun _=>rfl) (fun _=>rfl) ?_
  intro x68 h68
  refine jN ?_
  refine jIf ?_ ?_
  ·refine jc_skip ?_
   refine jx_seqN ?_
   refine jc_block ?_
   refine jR ?_
   refine jG 0 1 ⟨[V 0 (pt 0 4),V 3 (.osl 1 0 (List.length x50) 1),V 7 (pt 0 4)],[W 0 4 [bs a0,iv x47,iv x48,iv x49],(1,.rows 1 (List.map cI x50))],2⟩ ?_
   refine jr_callM 1 [(0,some 0)] [(0,some 0)] (fun r:Int × Int × Int × Int=>[W 0 4 [bs a0,iv r.2.1,iv r.2.2.1,iv r.2.2.2],(1,.rows 1 (List.map cI x50))]) (fun r:Int × Int × Int × Int=>iv r.1) 2 (cnf_reader_number_ok a0 x47 x48 x49 true) (pc (hC 0) allp_nil) (fun r=>(pc (.inr (hC 0)) (pc (.inl ⟨rfl,rfl⟩) allp_nil))) ?_
   rintro⟨x69,x70,x71,x72⟩ hm11
   refine jG 2 1 ⟨[V 0 (pt 0 4),V 3 (.osl 1 0 (List.length x50) 1),V 4 (iv x69)],[W 0 4 [bs a0,iv x70,iv x71,iv x72],(1,.rows 1 (List.map cI x50))],2⟩ ?_
   refine jN ?_
   refine jc_seq ?_
   refine jS ⟨[V 0 (pt 0 4),V 3 (.osl 1 0 (List.length x50) 1),V 4 (iv x69),V 10 (bv (x69 == 0))],[W 0 4 [bs a0,iv x70,iv x71,iv x72],(1,.rows 1 (List.map cI x50))],2⟩ ?_
   refine jIf ?_ ?_
   ·refine jc_exit ?_
    refine jx_seqE ?_
    refine jx_blkX rfl ?_
    exact jx_done rfl nofun (wkR [(0,some 0),(1,some 1)] (fix_of hF (k:=1) rfl) (pc (hC 0) (pc (hL 1 (noid_map ni_I _)) allp_nil)))
   refine jc_skip ?_
   refine jx_seqN ?_
   refine jR ?_
   refine jG 0 3 ⟨[V 0 (pt 0 4),V 11 (.osl 1 0 (List.length x50) 1),V 13 (.osl 2 0 (List.length [x69]) 1)],[W 0 4 [bs a0,iv x70,iv x71,iv x72],(1,.rows 1 (List.map cI x50)),(2,.rows 1 (List.map cI [x69]))],3⟩ ?_
   refine jr_part (i:=3) (mo:=app 8 x50 [x69]) rfl rfl rfl rfl (fun _ hc=>aop_app (u:=.osl 1 0 (List.length x50) 1) (w:=.osl 2 0 (List.length [x69]) 1) (e:=3) (td:=.slice 3) (by kernel_rfl) (by kernel_rfl) (by kernel_rfl) (by kernel_rfl) (.inl ⟨_,rfl⟩) (appendOf_own (c:=cI) (sz:=1) (b:=8) (id:=1) (by kernel_rfl) (by kernel_rfl) (rows_own (by kernel_rfl)) (List.cons_ne_nil _ _) hc)) (fun _=>rfl) ?_
   intro x73 h73
   refine jG 4 1 ⟨[V 0 (pt 0 4),V 3 (.osl 3 0 (List.length x73) 1)],[W 0 4 [bs a0,iv x70,iv x71,iv x72],(3,.rows 1 (List.map cI x73))],4⟩ ?_
   refine jN ?_
   refine jc_reg ?_
   refine jG 0 1 ⟨[V 0 (pt 0 4),V 3 (.osl 3 0 (List.length x73) 1),V 15 (pt 0 4)],[W 0 4 [bs a0,iv x70,iv x71,iv x72],(3,.rows 1 (List.map cI x73))],4⟩ ?_
   refine jr_callM 1 [(0,some 0)] [(0,some 0)] (fun r:Int × Int × Int=>[W 0 4 [bs a0,iv r.1,iv r.2.1,iv r.2.2],(3,.rows 1 (List.map cI x73))]) (fun r:Int × Int × Int=>.tup []) 4 (cnf_reader_must_ok a0 x70 x71 x72 [32]) (pc (hC 0) allp_nil) (fun r=>(pc (.inr (hC 0)) (pc (.inl ⟨rfl,rfl⟩) allp_nil))) ?_
   rintro⟨x74,x75,x76⟩ hm10
   refine jr_nil rfl ?_
   refine jx_blkN ?_
   exact jx_next (wkR [(0,some 0),(1,some 3)] (fix_of hF (k:=1) rfl) (pc (hC 0) (pc (hL 3 (noid_map ni_I _)) allp_nil)))
  refine jc_exit ?_
  refine jx_seqE ?_
  exact jx_done rfl nofun (wkR [(0,some 0),(1,some 1)] (fix_of hF (k:=1) rfl) (pc (hC 0) (pc (hL 1 (noid_map ni_I _)) allp_nil)))
 rintro⟨x64,x65,x66,x67⟩
 refine jx_blkE ?_
 refine jx_seqN ?_
 refine jR ?_
 refine jG 0 1 ⟨[V 3 (.osl 1 0 (List.length x67) 1),V 17 (pt 0 4)],[W 0 4 [bs a0,iv x64,iv x65,iv x66],(1,.rows 1 (List.map cI x67))],2⟩ ?_
 refine jr_callM 1 [(0,some 0)] [(0,some 0)] (fun r:Int × Int × Int=>[W 0 4 [bs a0,iv r.1,iv r.2.1,iv r.2.2],(1,.rows 1 (List.map cI x67))]) (fun r:Int × Int × Int=>.tup []) 2 (cnf_reader_must_ok a0 x64 x65 x66 [10]) (pc (hC 0) allp_nil) (fun r=>(pc (.inr (hC 0)) (pc (.inl ⟨rfl,rfl⟩) allp_nil))) ?_
 rintro⟨x77,x78,x79⟩ hm12
 refine jN ?_
 refine jS ⟨[V 2 (.osl 1 0 (List.length x67) 1)],[W 0 4 [bs a0,iv x77,iv x78,iv x79],(1,.rows 1 (List.map cI x67))],2⟩ ?_
 refine jc_ret ?_
 exact jx_retM (cnf_reader_clause_T a0 a1 a2 a3 (x67,x77,x78,x79)) (.inr rfl) (wkR [(0,some 0),(1,some 1)] (fix_of hF (k:=1) rfl) (pc (hC 0) (pc (hL 1 (noid_map ni_I _)) allp_nil))))
abbrev cnf_reader_order_r1:List LO:=[lo 2 (.assign (.const (.slice none 0 0))) 23]
abbrev cnf_reader_order_r2:List LO:=[lo 3 (.assign (.const (.slice none 0 0))) 23]
abbrev cnf_reader_order_r3:List LO:=[lm 4 0 90,lo 5 (.call ⟨.value (.func 56),#[.tmp 4,.const (.string ⟨#[99,32,111,114,100,101,114]⟩)],#[90,9]⟩) 0]
abbrev cnf_reader_order_r4:List LO:=[lm 6 0 90,lo 7 (.call ⟨.value (.func 58),#[.tmp 6],#[90]⟩) 4]
abbrev cnf_reader_order_r5:List LO:=[lm 8 0 90,lo 9 (.call ⟨.value (.func 56),#[.tmp 8,.const (.string ⟨#[32]⟩)],#[90,9]⟩) 0]
abbrev cnf_reader_order_r6:List LO:=[lm 10 0 90,lo 11 (.call ⟨.value (.func 81),#[.tmp 10,.const (.int .u8 48)],#[90,5]⟩) 4]
abbrev cnf_reader_order_r7:List LO:=[lm 12 0 90,lo 13 (.call ⟨.value (.func 61),#[.tmp 12],#[90]⟩) 0]
abbrev cnf_reader_order_r8:List LO:=[lm 14 3 23,lm 15 0 90,lo 16 (.call ⟨.value (.func 57),#[.tmp 15,.const (.bool true)],#[90,4]⟩) 3,lo 17 (.buildSlice 23 1 #[(0,.tmp 16)]) 23,lo 18 (.call ⟨.builtin .append,#[.tmp 14,.tmp 17],#[23,23]⟩) 23,lo 3 (.assign (.tmp 18)) 23]
abbrev cnf_reader_order_r9:List LO:=[lm 19 0 90,lo 20 (.call ⟨.value (.func 58),#[.tmp 19],#[90]⟩) 4,lm 21 20 4,lmg 22 0 90 21 true,lg 23 (.call ⟨.value (.func 81),#[.tmp 22,.const (.int .u8 10)],#[90,5]⟩) 4 21 true,lo 24 (.pick (.tmp 21) (.tmp 23) (.const (.bool false))) 4]
abbrev cnf_reader_order_r10:List LO:=[lm 25 0 90,lo 26 (.nilCheck (.tmp 25)) 0,lo 27 (.fieldAddr 92 (.tmp 26) 1) 0,lo 28 (.load 3 (.tmp 27)) 3,lo 29 (.binOp .add 3 (.tmp 28) (.const (.int .i64 1)) 3) 3,lo 30 (.nilCheck (.tmp 25)) 0,lo 31 (.fieldAddr 92 (.tmp 30) 1) 0,ln (.store 3 (.tmp 31) (.tmp 29)) 0]
abbrev cnf_reader_order_r11:List LO:=[lm 32 3 23,lo 2 (.assign (.tmp 32)) 23]
abbrev cnf_reader_order_c:LC:=.seq (.reg false cnf_reader_order_r1) (.seq (.reg false cnf_reader_order_r2) (.seq (.reg false cnf_reader_order_r3) (.seq (.block 0 (.loop (.seq (.seq (.reg false cnf_reader_order_r4) (.cond (.tmp 7) .skip (.exit 0))) (.block 1 (.seq (.reg false cnf_reader_order_r5) (.seq (.seq (.reg false cnf_reader_order_r6) (.cond (.tmp 11) (.reg false cnf_reader_order_r7) .skip)) (.seq (.reg false cnf_reader_order_r8) (.seq (.reg false cnf_reader_order_r9) (.cond (.tmp 24) (.seq (.reg false cnf_reader_order_r10) (.exit 0)) .skip))))))))) (.seq (.reg false cnf_reader_order_r11) .ret))))
theorem cnf_reader_order_k:FnOk E 60 33 [.tmp 2] cnf_reader_order_c:=⟨⟨Go.Proofs.Tryd.f60,by kernel_rfl,by kernel_rfl,by kernel_rfl,by kernel_rfl,by kernel_rfl⟩,rfl,rfl⟩
noncomputable def cnf_reader_order_l1 (a0:Str):(Int × Int × Int × List Int)→Option (Step (Int × Int × Int × List Int) (List Int × Int × Int × Int)):=fun (x74,x75,x76,x77)=>Option.bind (cnf_reader_ok_s6db9 a0 x74 x75 x76) (fun x103=>(if x103=true then Option.bind (cnf_reader_must a0 x74 x75 x76 [32]) (fun (x104,x105,x106)=>Option.bind (Option.bind (cnf_reader_is_sb17f a0 x104 x105 x106 48) (fun x112=>(if x112=true then Option.bind (cnf_reader_stuck a0 x104 x105 x106) (fun (x113,x114)=>some (x113,x114)) else some (x105,x106))):Option (Int × Int)) (fun (x110,x111)=>Option.bind (cnf_reader_number a0 x104 x110 x111 true) (fun (x115,x116,x117,x118)=>Option.bind (app 8 x77 [x115]) (fun x119=>Option.bind (cnf_reader_ok_s6db9 a0 x116 x117 x118) (fun x120=>Option.bind (if x120=true then Option.bind (cnf_reader_is_sb17f a0 x116 x117 x118 10) (fun x123=>some x123) else some false:Option (Bool)) (fun x122=>(if x122=true then some (Step.done (x119,(w64 (x116 + 1)),x117,x118)) else some (Step.next (x116,x117,x118,x119))))))))) else some (Step.done (x77,x74,x75,x76))))
abbrev cnf_reader_order_T (a0:Str) (a1:Int) (a2:Int) (a3:Int) (r:List Int × Int × Int × Int):CS:=⟨[V 2 (.osl 1 0 (List.length r.1) 1)],[W 0 4 [bs a0,iv r.2.1,iv r.2.2.1,iv r.2.2.2],(1,.rows 1 (List.map cI r.1))],2⟩
noncomputable def cnf_reader_order (a0:Str) (a1:Int) (a2:Int) (a3:Int):Option (List Int × Int × Int × Int):=Option.bind (cnf_reader_must a0 a1 a2 a3 [99,32,111,114,100,101,114]) (fun (x54,x55,x56)=>Option.bind (loopC (cnf_reader_order_l1 a0) (x54,x55,x56,[])) (fun (x99,x100,x101,x102)=>some (x99,x100,x101,x102)))
theorem cnf_reader_order_ok (a0:Str) (a1:Int) (a2:Int) (a3:Int):CtM E 60 [pt 0 4] [W 0 4 [bs a0,iv a1,iv a2,iv a3]] 1 (cnf_reader_order a0 a1 a2 a3) (fun r:List Int × Int × Int × Int=>.osl 1 0 (List.length r.1) 1) (fun r:List Int × Int × Int × Int=>[W 0 4 [bs a0,iv r.2.1,iv r.2.2.1,iv r.2.2.2],(1,.rows 1 (List.map cI r.1))]) 2:=ctm_intro (N:=33) (L:=cnf_reader_order_c) cnf_reader_order_k rfl (Nat.le_of_ble_eq_true rfl) (fun F hF=>by
 unfold cnf_reader_order
 refine jS ⟨[V 0 (pt 0 4)],[W 0 4 [bs a0,iv a1,iv a2,iv a3]],1⟩ ?_
 refine jS ⟨[V 0 (pt 0 4),V 3 (nilS)],[W 0 4 [bs a0,iv a1,iv a2,iv a3]],1⟩ ?_
 refine jR ?_
 refine jG 0 1 ⟨[V 0 (pt 0 4),V 3 (nilS),V 4 (pt 0 4)],[W 0 4 [bs a0,iv a1,iv a2,iv a3]],1⟩ ?_
 refine jr_callM 1 [(0,some 0)] [(0,some 0)] (fun r:Int × Int × Int=>[W 0 4 [bs a0,iv r.1,iv r.2.1,iv r.2.2]]) (fun r:Int × Int × Int=>.tup []) 1 (cnf_reader_must_ok a0 a1 a2 a3 [99,32,111,114,100,101,114]) (pc (hC 0) allp_nil) (fun r=>(pc (.inr (hC 0)) allp_nil)) ?_
 rintro⟨x54,x55,x56⟩ hm18
 refine jN ?_
 refine jc_seq ?_
 refine jc_block ?_
 refine jc_bind (fun (x99,x100,x101,x102)=>⟨[V 3 (.osl 1 0 (List.length x99) 1)],[W 0 4 [bs a0,iv x100,iv x101,iv x102],(1,.rows 1 (List.map cI x99))],2⟩) (fun (x99,x100,x101,x102)=>(.exit 0)) (jc_loop (fun (x74,x75,x76,x77)=>⟨[V 0 (pt 0 4),V 3 (.osl 1 0 (List.length x77) 1)],[W 0 4 [bs a0,iv x74,iv x75,iv x76],(1,.rows 1 (List.map cI x77))],2⟩) (wkR [(0,some 0),(1,none)] (fix_of hF (k:=1) rfl) (pc (hC 0) (pc hZ allp_nil))) ?_) ?_
 ·rintro⟨x74,x75,x76,x77⟩
  unfold cnf_reader_order_l1
  refine jc_seq ?_
  refine jR ?_
  refine jG 0 1 ⟨[V 0 (pt 0 4),V 3 (.osl 1 0 (List.length x77) 1),V 6 (pt 0 4)],[W 0 4 [bs a0,iv x74,iv x75,iv x76],(1,.rows 1 (List.map cI x77))],2⟩ ?_
  refine jr_callF (i:=1) rfl rfl rfl rfl (vs:=[pt 0 4]) (vs0:=[.fptr [bs a0,iv x74,iv x75,iv x76] 0]) (b:=true) (by kernel_rfl) (by kernel_rfl) (all2_cons (fle_refl _) all2_nil) (cnf_reader_ok_s6db9_ok a0 x74 x75 x76) (fun _=>rfl) (fun _=>rfl) ?_
  intro x103 h103
  refine jN ?_
  refine jIf ?_ ?_
  ·refine jc_skip ?_
   refine jx_seqN ?_
   refine jc_block ?_
   refine jR ?_
   refine jG 0 1 ⟨[V 0 (pt 0 4),V 3 (.osl 1 0 (List.length x77) 1),V 8 (pt 0 4)],[W 0 4 [bs a0,iv x74,iv x75,iv x76],(1,.rows 1 (List.map cI x77))],2⟩ ?_
   refine jr_callM 1 [(0,some 0)] [(0,some 0)] (fun r:Int × Int × Int=>[W 0 4 [bs a0,iv r.1,iv r.2.1,iv r.2.2],(1,.rows 1 (List.map cI x77))]) (fun r:Int × Int × Int=>.tup []) 2 (cnf_reader_must_ok a0 x74 x75 x76 [32]) (pc (hC 0) allp_nil) (fun r=>(pc (.inr (hC 0)) (pc (.inl ⟨rfl,rfl⟩) allp_nil))) ?_
   rintro⟨x104,x105,x106⟩ hm17
   refine jN ?_
   refine jc_seq ?_
   refine jc_bind (fun (x110,x111)=>⟨[V 0 (pt 0 4),V 3 (.osl 1 0 (List.length x77) 1)],[W 0 4 [bs a0,iv x104,iv x110,iv x111],(1,.rows 1 (List.map cI x77))],2⟩) (fun (x110,x111)=>.normal) ?_ ?_
   ·refine jR ?_
    refine jG 0 1 ⟨[V 0 (pt 0 4),V 3 (.osl 1 0 (List.length x77) 1),V 10 (pt 0 4)],[W 0 4 [bs a0,iv x104,iv x105,iv x106],(1,.rows 1 (List.map cI x77))],2⟩ ?_
    refine jr_callF (i:=1) rfl rfl rfl rfl (vs:=[pt 0 4,.s (.int .u8 48)]) (vs0:=[.fptr [bs a0,iv x104,iv x105,iv x106] 0,.s (.int .u8 48)]) (b:=true) (by kernel_rfl) (by kernel_rfl) (all2_cons (fle_refl _) (all2_cons (fle_refl _) all2_nil)) (cnf_reader_is_sb17f_ok a0 x104 x105 x106 48) (fun _=>rfl) (fun _=>rfl) ?_
    intro x112 h112
    refine jN ?_
    refine jIf ?_ ?_
    ·refine jc_reg ?_
     refine jG 0 1 ⟨[V 0 (pt 0 4),V 3 (.osl 1 0 (List.length x77) 1),V 12 (pt 0 4)],[W 0 4 [bs a0,iv x104,iv x105,iv x106],(1,.rows 1 (List.map cI x77))],2⟩ ?_
     refine jr_callM 1 [(0,some 0)] [(0,some 0)] (fun r:Int × Int=>[W 0 4 [bs a0,iv x104,iv r.1,iv r.2],(1,.rows 1 (List.map cI x77))]) (fun r:Int × Int=>.tup []) 2 (cnf_reader_stuck_ok a0 x104 x105 x106) (pc (hC 0) allp_nil) (fun r=>(pc (.inr (hC 0)) (pc (.inl ⟨rfl,rfl⟩) allp_nil))) ?_
     rintro⟨x113,x114⟩ hm15
     refine jr_nil rfl ?_
     exact jx_mid rfl (wkR [(0,some 0),(1,some 1)] (fix_of hF (k:=1) rfl) (pc (hC 0) (pc (hL 1 (noid_map ni_I _)) allp_nil)))
    refine jc_skip ?_
    exact jx_mid rfl (wkR [(0,some 0),(1,some 1)] (fix_of hF (k:=1) rfl) (pc (hC 0) (pc (hL 1 (noid_map ni_I _)) allp_nil)))
   rintro⟨x110,x111⟩
   refine jx_seqN ?_
   refine jR ?_
   refine jG 0 2 ⟨[V 0 (pt 0 4),V 14 (.osl 1 0 (List.length x77) 1),V 15 (pt 0 4)],[W 0 4 [bs a0,iv x104,iv x110,iv x111],(1,.rows 1 (List.map cI x77))],2⟩ ?_
   refine jr_callM 2 [(0,some 0)] [(0,some 0)] (fun r:Int × Int × Int × Int=>[W 0 4 [bs a0,iv r.2.1,iv r.2.2.1,iv r.2.2.2],(1,.rows 1 (List.map cI x77))]) (fun r:Int × Int × Int × Int=>iv r.1) 2 (cnf_reader_number_ok a0 x104 x110 x111 true) (pc (hC 0) allp_nil) (fun r=>(pc (.inr (hC 0)) (pc (.inl ⟨rfl,rfl⟩) allp_nil))) ?_
   rintro⟨x115,x116,x117,x118⟩ hm16
   refine jG 3 1 ⟨[V 0 (pt 0 4),V 14 (.osl 1 0 (List.length x77) 1),V 17 (.osl 2 0 (List.length [x115]) 1)],[W 0 4 [bs a0,iv x116,iv x117,iv x118],(1,.rows 1 (List.map cI x77)),(2,.rows 1 (List.map cI [x115]))],3⟩ ?_
   refine jr_part (i:=4) (mo:=app 8 x77 [x115]) rfl rfl rfl rfl (fun _ hc=>aop_app (u:=.osl 1 0 (List.length x77) 1) (w:=.osl 2 0 (List.length [x115]) 1) (e:=3) (td:=.slice 3) (by kernel_rfl) (by kernel_rfl) (by kernel_rfl) (by kernel_rfl) (.inl ⟨_,rfl⟩) (appendOf_own (c:=cI) (sz:=1) (b:=8) (id:=1) (by kernel_rfl) (by kernel_rfl) (rows_own (by kernel_rfl)) (List.cons_ne_nil _ _) hc)) (fun _=>rfl) ?_
   intro x119 h119
   refine jG 5 1 ⟨[V 0 (pt 0 4),V 3 (.osl 3 0 (List.length x119) 1)],[W 0 4 [bs a0,iv x116,iv x117,iv x118],(3,.rows 1 (List.map cI x119))],4⟩ ?_
   refine jN ?_
   refine jR ?_
   refine jG 0 1 ⟨[V 0 (pt 0 4),V 3 (.osl 3 0 (List.length x119) 1),V 19 (pt 0 4)],[W 0 4 [bs a0,iv x116,iv x117,iv x118],(3,.rows 1 (List.map cI x119))],4⟩ ?_
   refine jr_callF (i:=1) rfl rfl rfl rfl (vs:=[pt 0 4]) (vs0:=[.fptr [bs a0,iv x116,iv x117,iv x118] 0]) (b:=true) (by kernel_rfl) (by kernel_rfl) (all2_cons (fle_refl _) all2_nil) (cnf_reader_ok_s6db9_ok a0 x116 x117 x118) (fun _=>rfl) (fun _=>rfl) ?_
   intro x120 h120
   refine jG 2 1 ⟨[V 0 (pt 0 4),V 3 (.osl 3 0 (List.length x119) 1),V 21 (bv x120)],[W 0 4 [bs a0,iv x116,iv x117,iv x118],(3,.rows 1 (List.map cI x119))],4⟩ ?_
   refine jr_bind 3 3 (fun x122=>⟨[V 0 (pt 0 4),V 3 (.osl 1 0 (List.length x119) 1),V 24 (bv x122)],[W 0 4 [bs a0,iv x116,iv x117,iv x118],(1,.rows 1 (List.map cI x119))],2⟩) ?_ ?_
   ·refine jSp 21 ?_ ?_
    ·refine jG 0 1 ⟨[V 0 (pt 0 4),V 3 (.osl 3 0 (List.length x119) 1),(21,.lit true),V 22 (pt 0 4)],[W 0 4 [bs a0,iv x116,iv x117,iv x118],(3,.rows 1 (List.map cI x119))],4⟩ ?_
     refine jr_callF (i:=1) rfl rfl rfl rfl (vs:=[pt 0 4,.s (.int .u8 10)]) (vs0:=[.fptr [bs a0,iv x116,iv x117,iv x118] 0,.s (.int .u8 10)]) (b:=true) (by kernel_rfl) (by kernel_rfl) (all2_cons (fle_refl _) (all2_cons (fle_refl _) all2_nil)) (cnf_reader_is_sb17f_ok a0 x116 x117 x118 10) (fun _=>rfl) (fun _=>rfl) ?_
     intro x123 h123
     refine jG 2 1 ⟨[V 0 (pt 0 4),V 3 (.osl 3 0 (List.length x119) 1),V 24 (bv x123)],[W 0 4 [bs a0,iv x116,iv x117,iv x118],(3,.rows 1 (List.map cI x119))],4⟩ ?_
     refine jr_nil rfl ?_
     exact jx_mid rfl (wkR [(0,some 0),(1,some 3)] (fix_of hF (k:=1) rfl) (pc (hC 0) (pc (hL 3 (noid_map ni_I _)) allp_nil)))
    refine jG 0 3 ⟨[V 0 (pt 0 4),V 3 (.osl 3 0 (List.length x119) 1),V 24 (bv false)],[W 0 4 [bs a0,iv x116,iv x117,iv x118],(3,.rows 1 (List.map cI x119))],4⟩ ?_
    refine jr_nil rfl ?_
    exact jx_mid rfl (wkR [(0,some 0),(1,some 3)] (fix_of hF (k:=1) rfl) (pc (hC 0) (pc (hL 3 (noid_map ni_I _)) allp_nil)))
   intro x122
   refine jN ?_
   refine jIf ?_ ?_
   ·refine jS ⟨[V 3 (.osl 1 0 (List.length x119) 1)],[W 0 4 [bs a0,iv (w64 (x116 + 1)),iv x117,iv x118],(1,.rows 1 (List.map cI x119))],2⟩ ?_
    refine jc_exit ?_
    refine jx_blkX rfl ?_
    exact jx_done rfl nofun (wkR [(0,some 0),(1,some 1)] (fix_of hF (k:=1) rfl) (pc (hC 0) (pc (hL 1 (noid_map ni_I _)) allp_nil)))
   refine jc_skip ?_
   refine jx_blkN ?_
   exact jx_next (wkR [(0,some 0),(1,some 1)] (fix_of hF (k:=1) rfl) (pc (hC 0) (pc (hL 1 (noid_map ni_I _)) allp_nil)))
  refine jc_exit ?_
  refine jx_seqE ?_
  exact jx_done rfl nofun (wkR [(0,some 0),(1,some 1)] (fix_of hF (k:=1) rfl) (pc (hC 0) (pc (hL 1 (noid_map ni_I _)) allp_nil)))
 rintro⟨x99,x100,x101,x102⟩
 refine jx_blkE ?_
 refine jx_seqN ?_
 refine jS ⟨[V 2 (.osl 1 0 (List.length x99) 1)],[W 0 4 [bs a0,iv x100,iv x101,iv x102],(1,.rows 1 (List.map cI x99))],2⟩ ?_
 refine jc_ret ?_
 exact jx_retM (cnf_reader_order_T a0 a1 a2 a3 (x99,x100,x101,x102)) (.inr rfl) (wkR [(0,some 0),(1,some 1)] (fix_of hF (k:=1) rfl) (pc (hC 0) (pc (hL 1 (noid_map ni_I _)) allp_nil))))
abbrev cnf_Read_r1:List LO:=[lo 2 (.alloc 25) 0,lo 3 (.alloc 50) 0]
abbrev cnf_Read_r2:List LO:=[lm 8 0 9,lo 9 (.call ⟨.builtin .len,#[.tmp 8],#[9]⟩) 3,lo 10 (.binOp .gtr 3 (.tmp 9) (.const (.int .i64 65536)) 3) 4]
abbrev cnf_Read_r3:List LO:=[lo 11 (.build 25 #[]) 25,lo 12 (.build 50 #[(0,.const (.int .i64 12)),(1,.const (.int .i64 65536))]) 50,ln (.store 25 (.tmp 2) (.tmp 11)) 0,ln (.store 50 (.tmp 3) (.tmp 12)) 0]
abbrev cnf_Read_r4:List LO:=[lm 13 0 9,lo 14 (.build 92 #[(0,.tmp 13)]) 92,lo 15 (.box 92 (.tmp 14)) 90,lo 4 (.assign (.tmp 15)) 90]
abbrev cnf_Read_r5:List LO:=[lm 16 4 90,lo 17 (.call ⟨.value (.func 56),#[.tmp 16,.const (.string ⟨#[112,32,99,110,102,32]⟩)],#[90,9]⟩) 0]
abbrev cnf_Read_r6:List LO:=[lm 18 4 90,lo 19 (.call ⟨.value (.func 57),#[.tmp 18,.const (.bool false)],#[90,4]⟩) 3,lo 20 (.build 25 #[(0,.tmp 19)]) 25,lo 5 (.alloc 25) 0,ln (.store 25 (.tmp 5) (.tmp 20)) 0]
abbrev cnf_Read_r7:List LO:=[lm 21 4 90,lo 22 (.call ⟨.value (.func 56),#[.tmp 21,.const (.string ⟨#[32]⟩)],#[90,9]⟩) 0]
abbrev cnf_Read_r8:List LO:=[lm 23 4 90,lo 24 (.call ⟨.value (.func 57),#[.tmp 23,.const (.bool false)],#[90,4]⟩) 3,lo 6 (.assign (.tmp 24)) 3]
abbrev cnf_Read_r9:List LO:=[lm 25 4 90,lo 26 (.call ⟨.value (.func 56),#[.tmp 25,.const (.string ⟨#[10]⟩)],#[90,9]⟩) 0]
abbrev cnf_Read_r10:List LO:=[lo 7 (.assign (.const (.int .i64 0))) 3]
abbrev cnf_Read_r11:List LO:=[lm 27 7 3,lm 28 6 3,lo 29 (.binOp .lss 3 (.tmp 27) (.tmp 28) 3) 4,lm 30 29 4,lmg 31 4 90 30 true,lg 32 (.call ⟨.value (.func 58),#[.tmp 31],#[90]⟩) 4 30 true,lo 33 (.pick (.tmp 30) (.tmp 32) (.const (.bool false))) 4]
abbrev cnf_Read_r12:List LO:=[lo 36 (.fieldAddr 25 (.tmp 5) 1) 0,lo 37 (.load 22 (.tmp 36)) 22,lm 38 4 90,lo 39 (.call ⟨.value (.func 59),#[.tmp 38],#[90]⟩) 23,lo 40 (.build 55 #[(0,.tmp 39)]) 55,lo 41 (.buildSlice 22 1 #[(0,.tmp 40)]) 22,lo 42 (.call ⟨.builtin .append,#[.tmp 37,.tmp 41],#[22,22]⟩) 22,lo 43 (.fieldAddr 25 (.tmp 5) 1) 0,ln (.store 22 (.tmp 43) (.tmp 42)) 0]
abbrev cnf_Read_r13:List LO:=[lm 34 7 3,lo 35 (.binOp .add 3 (.tmp 34) (.const (.int .i64 1)) 3) 3,lo 7 (.assign (.tmp 35)) 3]
abbrev cnf_Read_r14:List LO:=[lm 44 4 90,lo 45 (.call ⟨.value (.func 58),#[.tmp 44],#[90]⟩) 4,lm 46 45 4,lmg 47 4 90 46 true,lg 48 (.nilCheck (.tmp 47)) 0 46 true,lg 49 (.fieldAddr 92 (.tmp 48) 1) 0 46 true,lg 50 (.load 3 (.tmp 49)) 3 46 true,lmg 51 0 9 46 true,lg 52 (.call ⟨.builtin .len,#[.tmp 51],#[9]⟩) 3 46 true,lg 53 (.binOp .lss 3 (.tmp 50) (.tmp 52) 3) 4 46 true,lo 54 (.pick (.tmp 46) (.tmp 53) (.const (.bool false))) 4]
abbrev cnf_Read_r15:List LO:=[lm 55 4 90,lo 56 (.call ⟨.value (.func 60),#[.tmp 55],#[90]⟩) 23,lo 57 (.fieldAddr 25 (.tmp 5) 2) 0,ln (.store 23 (.tmp 57) (.tmp 56)) 0]
abbrev cnf_Read_r16:List LO:=[lm 58 4 90,lo 59 (.call ⟨.value (.func 58),#[.tmp 58],#[90]⟩) 4,lm 60 59 4,lmg 61 4 90 60 true,lg 62 (.nilCheck (.tmp 61)) 0 60 true,lg 63 (.fieldAddr 92 (.tmp 62) 1) 0 60 true,lg 64 (.load 3 (.tmp 63)) 3 60 true,lmg 65 0 9 60 true,lg 66 (.call ⟨.builtin .len,#[.tmp 65],#[9]⟩) 3 60 true,lg 67 (.binOp .lss 3 (.tmp 64) (.tmp 66) 3) 4 60 true,lo 68 (.pick (.tmp 60) (.tmp 67) (.const (.bool false))) 4]
abbrev cnf_Read_r17:List LO:=[lm 69 4 90,lo 70 (.call ⟨.value (.func 61),#[.tmp 69],#[90]⟩) 0]
abbrev cnf_Read_r18:List LO:=[lm 72 4 90,lo 73 (.call ⟨.value (.func 58),#[.tmp 72],#[90]⟩) 4,lo 74 (.unOp .not 4 (.tmp 73)) 4,lo 71 (.assign (.tmp 74)) 4]
abbrev cnf_Read_r19:List LO:=[lo 75 (.build 25 #[]) 25,lm 76 4 90,lo 77 (.nilCheck (.tmp 76)) 0,lo 78 (.fieldAddr 92 (.tmp 77) 2) 0,lo 79 (.load 50 (.tmp 78)) 50,ln (.store 25 (.tmp 2) (.tmp 75)) 0,ln (.store 50 (.tmp 3) (.tmp 79)) 0]
abbrev cnf_Read_r20:List LO:=[lo 81 (.load 25 (.tmp 5)) 25,lo 82 (.call ⟨.value (.func 9),#[.tmp 81],#[25]⟩) 4,lo 83 (.unOp .not 4 (.tmp 82)) 4,lo 80 (.assign (.tmp 83)) 4]
abbrev cnf_Read_r21:List LO:=[lo 84 (.build 25 #[]) 25,lm 85 0 9,lo 86 (.call ⟨.builtin .len,#[.tmp 85],#[9]⟩) 3,lo 87 (.build 50 #[(0,.const (.int .i64 32)),(1,.tmp 86)]) 50,ln (.store 25 (.tmp 2) (.tmp 84)) 0,ln (.store 50 (.tmp 3) (.tmp 87)) 0]
abbrev cnf_Read_r22:List LO:=[lo 88 (.load 25 (.tmp 5)) 25,lo 89 (.build 50 #[]) 50,ln (.store 25 (.tmp 2) (.tmp 88)) 0,ln (.store 50 (.tmp 3) (.tmp 89)) 0]
noncomputable abbrev cnf_Read_c:LC:=.seq (.reg false cnf_Read_r1) (.seq (.seq (.reg false cnf_Read_r2) (.cond (.tmp 10) (.seq (.reg false cnf_Read_r3) .ret) .skip)) (.seq (.reg false cnf_Read_r4) (.seq (.reg false cnf_Read_r5) (.seq (.reg false cnf_Read_r6) (.seq (.reg false cnf_Read_r7) (.seq (.reg false cnf_Read_r8) (.seq (.reg false cnf_Read_r9) (.seq (.seq (.reg false cnf_Read_r10) (.block 0 (.loop (.seq (.seq (.reg false cnf_Read_r11) (.cond (.tmp 33) .skip (.exit 0))) (.seq (.block 1 (.full (regOps (codeSub (bodyOf Go.Proofs.Tryd.f25) [1,1,1,1,1,1,1,1,0,1,0,0,1,0,0])))) (.reg false cnf_Read_r13)))))) (.seq (.seq (.reg false cnf_Read_r14) (.cond (.tmp 54) (.reg false cnf_Read_r15) .skip)) (.seq (.seq (.reg false cnf_Read_r16) (.cond (.tmp 68) (.reg false cnf_Read_r17) .skip)) (.seq (.block 2 (.seq (.reg false cnf_Read_r18) (.cond (.tmp 71) (.seq (.full (regOps (codeSub (bodyOf Go.Proofs.Tryd.f25) [1,1,1,1,1,1,1,1,1,1,1,0,0,1,0,0]))) .ret) (.seq (.reg false cnf_Read_r20) (.cond (.tmp 80) (.seq (.reg false cnf_Read_r21) .ret) .skip))))) (.seq (.reg false cnf_Read_r22) .ret))))))))))))
theorem cnf_Read_k:FnOk E 25 90 [.cell 2 25,.cell 3 50] cnf_Read_c:=⟨⟨Go.Proofs.Tryd.f25,by kernel_rfl,by kernel_rfl,by kernel_rfl,by kernel_rfl,by kernel_rfl⟩,rfl,rfl⟩
noncomputable def cnf_Read_l1 (a0:Str) (x11:Int):(Int × Int × Int × List S_api_Clause × Int)→Option (Step (Int × Int × Int × List S_api_Clause × Int) (Int × Int × Int × List S_api_Clause)):=fun (x25,x26,x27,x28,x29)=>Option.bind (if (decide (x29 < x11))=true then Option.bind (cnf_reader_ok_s6db9 a0 x25 x26 x27) (fun x48=>some x48) else some false:Option (Bool)) (fun x47=>(if x47=true then Option.bind (cnf_reader_clause a0 x25 x26 x27) (fun (x49,x50,x51,x52)=>Option.bind (app 32 x28 [(S_api_Clause.mk x49 0)]) (fun x53=>some (Step.next (x50,x51,x52,x53,(w64 (x29 + 1)))))) else some (Step.done (x25,x26,x27,x28))))
noncomputable def cnf_Read (a0:Str):Option (S_api_Formula × S_api_Fault):=(if (decide ((List.length a0:Int) > 65536))=true then some ((S_api_Formula.mk 0 [] []),(S_api_Fault.mk 12 65536)) else Option.bind (cnf_reader_must a0 0 0 0 [112,32,99,110,102,32]) (fun (x1,x2,x3)=>Option.bind (cnf_reader_number a0 x1 x2 x3 false) (fun (x4,x5,x6,x7)=>Option.bind (cnf_reader_must a0 x5 x6 x7 [32]) (fun (x8,x9,x10)=>Option.bind (cnf_reader_number a0 x8 x9 x10 false) (fun (x11,x12,x13,x14)=>Option.bind (cnf_reader_must a0 x12 x13 x14 [10]) (fun (x15,x16,x17)=>Option.bind (loopC (cnf_Read_l1 a0 x11) (x15,x16,x17,[],0)) (fun (x42,x43,x44,x45)=>Option.bind (Option.bind (cnf_reader_ok_s6db9 a0 x42 x43 x44) (fun x63=>(if (x63 && (decide (x42 < (List.length a0:Int))))=true then Option.bind (cnf_reader_order a0 x42 x43 x44) (fun (x64,x65,x66,x67)=>some (x65,x66,x67,x64)) else some (x42,x43,x44,[]))):Option (Int × Int × Int × List Int)) (fun (x59,x60,x61,x62)=>Option.bind (Option.bind (cnf_reader_ok_s6db9 a0 x59 x60 x61) (fun x73=>(if (x73 && (decide (x59 < (List.length a0:Int))))=true then Option.bind (cnf_reader_stuck a0 x59 x60 x61) (fun (x74,x75)=>some (x74,x75)) else some (x60,x61))):Option (Int × Int)) (fun (x71,x72)=>Option.bind (cnf_reader_ok_s6db9 a0 x59 x71 x72) (fun x76=>(if (!x76)=true then some ((S_api_Formula.mk 0 [] []),(S_api_Fault.mk x71 x72)) else Option.bind (cnf_Fit (S_api_Formula.mk x4 x45 x62)) (fun x77=>(if (!x77)=true then some ((S_api_Formula.mk 0 [] []),(S_api_Fault.mk 32 (List.length a0:Int))) else some ((S_api_Formula.mk x4 x45 x62),(S_api_Fault.mk 0 0)))))))))))))))
theorem cnf_Read_ok (a0:Str):Ct E 25 [bs a0] (cnf_Read a0) (fun r:S_api_Formula × S_api_Fault=>.tup [.agg [iv r.1.Vars,.fsl 2 (List.map c_S_api_Clause r.1.Clauses),.fsl 1 (List.map cI r.1.Order)],.agg [iv r.2.Err,iv r.2.At]]):=ct_intro (N:=90) (L:=cnf_Read_c) cnf_Read_k rfl (Nat.le_of_ble_eq_true rfl) (by kernel_rfl) (by
 unfold cnf_Read
 refine jS ⟨[V 0 (bs a0),V 2 (pt 0 3),V 3 (pt 1 2)],[W 0 3 [iv 0,nilS,nilS],W 1 2 [iv 0,iv 0]],2⟩ ?_
 refine jc_seq ?_
 refine jS ⟨[V 0 (bs a0),V 2 (pt 0 3),V 3 (pt 1 2),V 10 (bv (decide ((List.length a0:Int) > 65536)))],[W 0 3 [iv 0,nilS,nilS],W 1 2 [iv 0,iv 0]],2⟩ ?_
 refine jIf ?_ ?_
 ·refine jS ⟨[V 2 (pt 0 3),V 3 (pt 1 2)],[W 0 3 [iv 0,nilS,nilS],W 1 2 [iv 12,iv 65536]],2⟩ ?_
  refine jc_ret ?_
  refine jx_seqR ?_
  exact jx_retF (.inr rfl) (v:=.tup [.agg [iv 0,nilS,nilS],.agg [iv 12,iv 65536]]) (by kernel_rfl) (snapc_tup (snapL_cons (snapc_agg (snapL_cons rfl (snapL_cons rfl (snapL_cons rfl (snapL_nil _))))) (snapL_cons rfl (snapL_nil _)))) (fle_tup (all2_cons (fle_agg (all2_cons (fle_refl _) (all2_cons (fle_nil _) (all2_cons (fle_nil _) all2_nil)))) (all2_cons (fle_refl _) all2_nil)))
 refine jc_skip ?_
 refine jx_seqN ?_
 refine jS ⟨[V 0 (bs a0),V 2 (pt 0 3),V 3 (pt 1 2),V 4 (pt 2 4)],[W 0 3 [iv 0,nilS,nilS],W 1 2 [iv 0,iv 0],W 2 4 [bs a0,iv 0,iv 0,iv 0]],3⟩ ?_
 refine jR ?_
 refine jG 0 1 ⟨[V 0 (bs a0),V 2 (pt 0 3),V 3 (pt 1 2),V 4 (pt 2 4),V 16 (pt 2 4)],[W 0 3 [iv 0,nilS,nilS],W 1 2 [iv 0,iv 0],W 2 4 [bs a0,iv 0,iv 0,iv 0]],3⟩ ?_
 refine jr_callM 1 [(0,some 2)] [(2,some 0)] (fun r:Int × Int × Int=>[W 0 3 [iv 0,nilS,nilS],W 1 2 [iv 0,iv 0],W 2 4 [bs a0,iv r.1,iv r.2.1,iv r.2.2]]) (fun r:Int × Int × Int=>.tup []) 3 (cnf_reader_must_ok a0 0 0 0 [112,32,99,110,102,32]) (pc (hC 2) allp_nil) (fun r=>(pc (.inl ⟨rfl,rfl⟩) (pc (.inl ⟨rfl,rfl⟩) (pc (.inr (hC 0)) allp_nil)))) ?_
 rintro⟨x1,x2,x3⟩ hm12
 refine jN ?_
 refine jR ?_
 refine jG 0 1 ⟨[V 0 (bs a0),V 2 (pt 0 3),V 3 (pt 1 2),V 4 (pt 2 4),V 18 (pt 2 4)],[W 0 3 [iv 0,nilS,nilS],W 1 2 [iv 0,iv 0],W 2 4 [bs a0,iv x1,iv x2,iv x3]],3⟩ ?_
 refine jr_callM 1 [(0,some 2)] [(2,some 0)] (fun r:Int × Int × Int × Int=>[W 0 3 [iv 0,nilS,nilS],W 1 2 [iv 0,iv 0],W 2 4 [bs a0,iv r.2.1,iv r.2.2.1,iv r.2.2.2]]) (fun r:Int × Int × Int × Int=>iv r.1) 3 (cnf_reader_number_ok a0 x1 x2 x3 false) (pc (hC 2) allp_nil) (fun r=>(pc (.inl ⟨rfl,rfl⟩) (pc (.inl ⟨rfl,rfl⟩) (pc (.inr (hC 0)) allp_nil)))) ?_
 rintro⟨x4,x5,x6,x7⟩ hm11
 refine jG 2 3 ⟨[V 0 (bs a0),V 2 (pt 0 3),V 3 (pt 1 2),V 4 (pt 2 4),V 5 (pt 3 3)],[W 0 3 [iv 0,nilS,nilS],W 1 2 [iv 0,iv 0],W 2 4 [bs a0,iv x5,iv x6,iv x7],W 3 3 [iv x4,nilS,nilS]],4⟩ ?_
 refine jN ?_
 refine jR ?_
 refine jG 0 1 ⟨[V 0 (bs a0),V 2 (pt 0 3),V 3 (pt 1 2),V 4 (pt 2 4),V 5 (pt 3 3),V 21 (pt 2 4)],[W 0 3 [iv 0,nilS,nilS],W 1 2 [iv 0,iv 0],W 2 4 [bs a0,iv x5,iv x6,iv x7],W 3 3 [iv x4,nilS,nilS]],4⟩ ?_
 refine jr_callM 1 [(0,some 2)] [(2,some 0)] (fun r:Int × Int × Int=>[W 0 3 [iv 0,nilS,nilS],W 1 2 [iv 0,iv 0],W 2 4 [bs a0,iv r.1,iv r.2.1,iv r.2.2],W 3 3 [iv x4,nilS,nilS]]) (fun r:Int × Int × Int=>.tup []) 4 (cnf_reader_must_ok a0 x5 x6 x7 [32]) (pc (hC 2) allp_nil) (fun r=>(pc (.inl ⟨rfl,rfl⟩) (pc (.inl ⟨rfl,rfl⟩) (pc (.inr (hC 0)) (pc (.inl ⟨rfl,rfl⟩) allp_nil))))) ?_
 rintro⟨x8,x9,x10⟩ hm10
 refine jN ?_
 refine jR ?_
 refine jG 0 1 ⟨[V 0 (bs a0),V 2 (pt 0 3),V 3 (pt 1 2),V 4 (pt 2 4),V 5 (pt 3 3),V 23 (pt 2 4)],[W 0 3 [iv 0,nilS,nilS],W 1 2 [iv 0,iv 0],W 2 4 [bs a0,iv x8,iv x9,iv x10],W 3 3 [iv x4,nilS,nilS]],4⟩ ?_
 refine jr_callM 1 [(0,some 2)] [(2,some 0)] (fun r:Int × Int × Int × Int=>[W 0 3 [iv 0,nilS,nilS],W 1 2 [iv 0,iv 0],W 2 4 [bs a0,iv r.2.1,iv r.2.2.1,iv r.2.2.2],W 3 3 [iv x4,nilS,nilS]]) (fun r:Int × Int × Int × Int=>iv r.1) 4 (cnf_reader_number_ok a0 x8 x9 x10 false) (pc (hC 2) allp_nil) (fun r=>(pc (.inl ⟨rfl,rfl⟩) (pc (.inl ⟨rfl,rfl⟩) (pc (.inr (hC 0)) (pc (.inl ⟨rfl,rfl⟩) allp_nil))))) ?_
 rintro⟨x11,x12,x13,x14⟩ hm9
 refine jG 2 1 ⟨[V 0 (bs a0),V 2 (pt 0 3),V 3 (pt 1 2),V 4 (pt 2 4),V 5 (pt 3 3),V 6 (iv x11)],[W 0 3 [iv 0,nilS,nilS],W 1 2 [iv 0,iv 0],W 2 4 [bs a0,iv x12,iv x13,iv x14],W 3 3 [iv x4,nilS,nilS]],4⟩ ?_
 refine jN ?_
 refine jR ?_
 refine jG 0 1 ⟨[V 0 (bs a0),V 2 (pt 0 3),V 3 (pt 1 2),V 4 (pt 2 4),V 5 (pt 3 3),V 6 (iv x11),V 25 (pt 2 4)],[W 0 3 [iv 0,nilS,nilS],W 1 2 [iv 0,iv 0],W 2 4 [bs a0,iv x12,iv x13,iv x14],W 3 3 [iv x4,nilS,nilS]],4⟩ ?_
 refine jr_callM 1 [(0,some 2)] [(2,some 0)] (fun r:Int × Int × Int=>[W 0 3 [iv 0,nilS,nilS],W 1 2 [iv 0,iv 0],W 2 4 [bs a0,iv r.1,iv r.2.1,iv r.2.2],W 3 3 [iv x4,nilS,nilS]]) (fun r:Int × Int × Int=>.tup []) 4 (cnf_reader_must_ok a0 x12 x13 x14 [10]) (pc (hC 2) allp_nil) (fun r=>(pc (.inl ⟨rfl,rfl⟩) (pc (.inl ⟨rfl,rfl⟩) (pc (.inr (hC 0)) (pc (.inl ⟨rfl,rfl⟩) allp_nil))))) ?_
 rintro⟨x15,x16,x17⟩ hm8
 refine jN ?_
 refine jc_seq ?_
 refine jS ⟨[V 0 (bs a0),V 2 (pt 0 3),V 3 (pt 1 2),V 4 (pt 2 4),V 5 (pt 3 3),V 6 (iv x11),V 7 (iv 0)],[W 0 3 [iv 0,nilS,nilS],W 1 2 [iv 0,iv 0],W 2 4 [bs a0,iv x15,iv x16,iv x17],W 3 3 [iv x4,nilS,nilS]],4⟩ ?_
 refine jc_block ?_
 refine jc_bind (fun (x42,x43,x44,x45)=>⟨[V 0 (bs a0),V 2 (pt 0 3),V 3 (pt 1 2),V 4 (pt 2 4),V 5 (pt 3 3)],[W 0 3 [iv 0,nilS,nilS],W 1 2 [iv 0,iv 0],W 2 4 [bs a0,iv x42,iv x43,iv x44],W 3 3 [iv x4,.osl 4 0 (List.length x45) 2,nilS],(4,.rows 2 (List.map c_S_api_Clause x45))],5⟩) (fun (x42,x43,x44,x45)=>(.exit 0)) (jc_loop (fun (x25,x26,x27,x28,x29)=>⟨[V 0 (bs a0),V 2 (pt 0 3),V 3 (pt 1 2),V 4 (pt 2 4),V 5 (pt 3 3),V 6 (iv x11),V 7 (iv x29)],[W 0 3 [iv 0,nilS,nilS],W 1 2 [iv 0,iv 0],W 2 4 [bs a0,iv x25,iv x26,iv x27],W 3 3 [iv x4,.osl 4 0 (List.length x28) 2,nilS],(4,.rows 2 (List.map c_S_api_Clause x28))],5⟩) (wkR [(0,some 0),(1,some 1),(2,some 2),(3,some 3),(4,none)] (fix_nil _) (pc (hC 0) (pc (hC 1) (pc (hC 2) (pc (hC 3) (pc hZ allp_nil)))))) ?_) ?_
 ·rintro⟨x25,x26,x27,x28,x29⟩
  unfold cnf_Read_l1
  refine jc_seq ?_
  refine jR ?_
  refine jG 0 4 ⟨[V 0 (bs a0),V 2 (pt 0 3),V 3 (pt 1 2),V 4 (pt 2 4),V 5 (pt 3 3),V 6 (iv x11),V 7 (iv x29),V 30 (bv (decide (x29 < x11)))],[W 0 3 [iv 0,nilS,nilS],W 1 2 [iv 0,iv 0],W 2 4 [bs a0,iv x25,iv x26,iv x27],W 3 3 [iv x4,.osl 4 0 (List.length x28) 2,nilS],(4,.rows 2 (List.map c_S_api_Clause x28))],5⟩ ?_
  refine jr_bind 4 3 (fun x47=>⟨[V 0 (bs a0),V 2 (pt 0 3),V 3 (pt 1 2),V 4 (pt 2 4),V 5 (pt 3 3),V 6 (iv x11),V 7 (iv x29),V 33 (bv x47)],[W 0 3 [iv 0,nilS,nilS],W 1 2 [iv 0,iv 0],W 2 4 [bs a0,iv x25,iv x26,iv x27],W 3 3 [iv x4,.osl 4 0 (List.length x28) 2,nilS],(4,.rows 2 (List.map c_S_api_Clause x28))],5⟩) ?_ ?_
  ·refine jSp 30 ?_ ?_
   ·refine jG 0 1 ⟨[V 0 (bs a0),V 2 (pt 0 3),V 3 (pt 1 2),V 4 (pt 2 4),V 5 (pt 3 3),V 6 (iv x11),V 7 (iv x29),(30,.lit true),V 31 (pt 2 4)],[W 0 3 [iv 0,nilS,nilS],W 1 2 [iv 0,iv 0],W 2 4 [bs a0,iv x25,iv x26,iv x27],W 3 3 [iv x4,.osl 4 0 (List.length x28) 2,nilS],(4,.rows 2 (List.map c_S_api_Clause x28))],5⟩ ?_
    refine jr_callF (i:=1) rfl rfl rfl rfl (vs:=[pt 2 4]) (vs0:=[.fptr [bs a0,iv x25,iv x26,iv x27] 0]) (b:=true) (by kernel_rfl) (by kernel_rfl) (all2_cons (fle_refl _) all2_nil) (cnf_reader_ok_s6db9_ok a0 x25 x26 x27) (fun _=>rfl) (fun _=>rfl) ?_
    intro x48 h48
    refine jG 2 1 ⟨[V 0 (bs a0),V 2 (pt 0 3),V 3 (pt 1 2),V 4 (pt 2 4),V 5 (pt 3 3),V 6 (iv x11),V 7 (iv x29),V 33 (bv x48)],[W 0 3 [iv 0,nilS,nilS],W 1 2 [iv 0,iv 0],W 2 4 [bs a0,iv x25,iv x26,iv x27],W 3 3 [iv x4,.osl 4 0 (List.length x28) 2,nilS],(4,.rows 2 (List.map c_S_api_Clause x28))],5⟩ ?_
    refine jr_nil rfl ?_
    exact jx_mid rfl (wkR [(0,some 0),(1,some 1),(2,some 2),(3,some 3),(4,some 4)] (fix_nil _) (pc (hC 0) (pc (hC 1) (pc (hC 2) (pc (hC 3) (pc (hL 4 (noid_map ni_S_api_Clause _)) allp_nil))))))
   refine jG 0 3 ⟨[V 0 (bs a0),V 2 (pt 0 3),V 3 (pt 1 2),V 4 (pt 2 4),V 5 (pt 3 3),V 6 (iv x11),V 7 (iv x29),V 33 (bv false)],[W 0 3 [iv 0,nilS,nilS],W 1 2 [iv 0,iv 0],W 2 4 [bs a0,iv x25,iv x26,iv x27],W 3 3 [iv x4,.osl 4 0 (List.length x28) 2,nilS],(4,.rows 2 (List.map c_S_api_Clause x28))],5⟩ ?_
   refine jr_nil rfl ?_
   exact jx_mid rfl (wkR [(0,some 0),(1,some 1),(2,some 2),(3,some 3),(4,some 4)] (fix_nil _) (pc (hC 0) (pc (hC 1) (pc (hC 2) (pc (hC 3) (pc (hL 4 (noid_map ni_S_api_Clause _)) allp_nil))))))
  intro x47
  refine jN ?_
  refine jIf ?_ ?_
  ·refine jc_skip ?_
   refine jx_seqN ?_
   refine jc_seq ?_
   refine jc_block ?_
   refine jc_fullM cnf_Read_r12 [] [36,36] 3 ⟨[V 0 (bs a0),V 2 (pt 0 3),V 3 (pt 1 2),V 4 (pt 2 4),V 5 (pt 3 3),V 6 (iv x11),V 7 (iv x29),V 36 (.ptr 3 0 3 1),V 37 (.osl 4 0 (List.length x28) 2),V 38 (pt 2 4)],[W 0 3 [iv 0,nilS,nilS],W 1 2 [iv 0,iv 0],W 2 4 [bs a0,iv x25,iv x26,iv x27],W 3 3 [iv x4,.osl 4 0 (List.length x28) 2,nilS],(4,.rows 2 (List.map c_S_api_Clause x28))],5⟩ [(0,some 2)] [(2,some 0),(5,some 1)] (fun r:List Int × Int × Int × Int=>[W 0 3 [iv 0,nilS,nilS],W 1 2 [iv 0,iv 0],W 2 4 [bs a0,iv r.2.1,iv r.2.2.1,iv r.2.2.2],W 3 3 [iv x4,.osl 4 0 (List.length x28) 2,nilS],(4,.rows 2 (List.map c_S_api_Clause x28)),(5,.rows 1 (List.map cI r.1))]) (fun r:List Int × Int × Int × Int=>.osl 5 0 (List.length r.1) 1) 6 (cnf_reader_clause_ok a0 x25 x26 x27) (pc (hC 2) allp_nil) (fun r=>(pc (.inl ⟨rfl,rfl⟩) (pc (.inl ⟨rfl,rfl⟩) (pc (.inr (hC 0)) (pc (.inl ⟨rfl,rfl⟩) (pc (.inl ⟨rfl,rfl⟩) (pc (.inr (hL 1 (noid_map ni_I _))) allp_nil))))))) ?_
   rintro⟨x49,x50,x51,x52⟩ hm3
   refine jG 4 2 ⟨[V 0 (bs a0),V 2 (pt 0 3),V 3 (pt 1 2),V 4 (pt 2 4),V 5 (pt 3 3),V 6 (iv x11),V 7 (iv x29),V 36 (.ptr 3 0 3 1),V 37 (.osl 4 0 (List.length x28) 2),V 41 (.osl 6 0 1 2)],[W 0 3 [iv 0,nilS,nilS],W 1 2 [iv 0,iv 0],W 2 4 [bs a0,iv x50,iv x51,iv x52],W 3 3 [iv x4,.osl 4 0 (List.length x28) 2,nilS],(4,.rows 2 (List.map c_S_api_Clause x28)),(5,.rows 1 (List.map cI x49)),W 6 2 [.osl 5 0 (List.length x49) 1,iv 0]],7⟩ ?_
   refine jr_part (i:=6) (mo:=app 32 x28 [(S_api_Clause.mk x49 0)]) rfl rfl rfl rfl (fun _ hc=>aop_appZ (u:=.osl 4 0 (List.length x28) 2) (idy:=6) (off:=0) (len:=1) (sz:=2) (rows:=[[.osl 5 0 (List.length x49) 1,iv 0]]) (e:=55) (q:=55) (rs:=List.map c_S_api_Clause [(S_api_Clause.mk x49 0)]) (ids:=[5]) (by kernel_rfl) (by kernel_rfl) (by kernel_rfl) (by kernel_rfl) (by kernel_rfl) (by kernel_rfl) (by kernel_rfl) (frz_one (frzL_own (fun _=>rfl) (by kernel_rfl) (frzL_pl rfl frzL_nil))) (appendOf_own (c:=c_S_api_Clause) (sz:=2) (b:=32) (id:=4) (m:=[(S_api_Clause.mk x49 0)]) (by kernel_rfl) (by kernel_rfl) rows_fsl (List.cons_ne_nil _ _) hc)) (fun _=>rfl) ?_
   intro x53 h53
   refine jG 7 2 ⟨[V 0 (bs a0),V 2 (pt 0 3),V 3 (pt 1 2),V 4 (pt 2 4),V 5 (pt 3 3),V 6 (iv x11),V 7 (iv x29),V 36 (.ptr 3 0 3 1)],[W 0 3 [iv 0,nilS,nilS],W 1 2 [iv 0,iv 0],W 2 4 [bs a0,iv x50,iv x51,iv x52],W 3 3 [iv x4,.osl 7 0 (List.length x53) 2,nilS],(7,.rows 2 (List.map c_S_api_Clause x53))],8⟩ ?_
   refine jr_nil rfl ?_
   refine jx_full ?_
   refine jx_blkN ?_
   refine jx_seqN ?_
   refine jT ⟨[V 0 (bs a0),V 2 (pt 0 3),V 3 (pt 1 2),V 4 (pt 2 4),V 5 (pt 3 3),V 6 (iv x11),V 7 (iv (w64 (x29 + 1)))],[W 0 3 [iv 0,nilS,nilS],W 1 2 [iv 0,iv 0],W 2 4 [bs a0,iv x50,iv x51,iv x52],W 3 3 [iv x4,.osl 7 0 (List.length x53) 2,nilS],(7,.rows 2 (List.map c_S_api_Clause x53))],8⟩ ?_
   exact jx_next (wkR [(0,some 0),(1,some 1),(2,some 2),(3,some 3),(4,some 7)] (fix_nil _) (pc (hC 0) (pc (hC 1) (pc (hC 2) (pc (hC 3) (pc (hL 7 (noid_map ni_S_api_Clause _)) allp_nil))))))
  refine jc_exit ?_
  refine jx_seqE ?_
  exact jx_done rfl nofun (wkR [(0,some 0),(1,some 1),(2,some 2),(3,some 3),(4,some 4)] (fix_nil _) (pc (hC 0) (pc (hC 1) (pc (hC 2) (pc (hC 3) (pc (hL 4 (noid_map ni_S_api_Clause _)) allp_nil))))))
 rintro⟨x42,x43,x44,x45⟩
 refine jx_blkE ?_
 refine jx_seqN ?_
 refine jc_seq ?_
 refine jc_bind (fun (x59,x60,x61,x62)=>⟨[V 0 (bs a0),V 2 (pt 0 3),V 3 (pt 1 2),V 4 (pt 2 4),V 5 (pt 3 3)],[W 0 3 [iv 0,nilS,nilS],W 1 2 [iv 0,iv 0],W 2 4 [bs a0,iv x59,iv x60,iv x61],W 3 3 [iv x4,.osl 4 0 (List.length x45) 2,.osl 5 0 (List.length x62) 1],(4,.rows 2 (List.map c_S_api_Clause x45)),(5,.rows 1 (List.map cI x62))],6⟩) (fun (x59,x60,x61,x62)=>.normal) ?_ ?_
 ·refine jR ?_
  refine jG 0 1 ⟨[V 0 (bs a0),V 2 (pt 0 3),V 3 (pt 1 2),V 4 (pt 2 4),V 5 (pt 3 3),V 44 (pt 2 4)],[W 0 3 [iv 0,nilS,nilS],W 1 2 [iv 0,iv 0],W 2 4 [bs a0,iv x42,iv x43,iv x44],W 3 3 [iv x4,.osl 4 0 (List.length x45) 2,nilS],(4,.rows 2 (List.map c_S_api_Clause x45))],5⟩ ?_
  refine jr_callF (i:=1) rfl rfl rfl rfl (vs:=[pt 2 4]) (vs0:=[.fptr [bs a0,iv x42,iv x43,iv x44] 0]) (b:=true) (by kernel_rfl) (by kernel_rfl) (all2_cons (fle_refl _) all2_nil) (cnf_reader_ok_s6db9_ok a0 x42 x43 x44) (fun _=>rfl) (fun _=>rfl) ?_
  intro x63 h63
  refine jG 2 9 ⟨[V 0 (bs a0),V 2 (pt 0 3),V 3 (pt 1 2),V 4 (pt 2 4),V 5 (pt 3 3),V 54 (bv (x63 && (decide (x42 < (List.length a0:Int)))))],[W 0 3 [iv 0,nilS,nilS],W 1 2 [iv 0,iv 0],W 2 4 [bs a0,iv x42,iv x43,iv x44],W 3 3 [iv x4,.osl 4 0 (List.length x45) 2,nilS],(4,.rows 2 (List.map c_S_api_Clause x45))],5⟩ ?_
  refine jN ?_
  refine jIf ?_ ?_
  ·refine jc_reg ?_
   refine jG 0 1 ⟨[V 0 (bs a0),V 2 (pt 0 3),V 3 (pt 1 2),V 4 (pt 2 4),V 5 (pt 3 3),V 55 (pt 2 4)],[W 0 3 [iv 0,nilS,nilS],W 1 2 [iv 0,iv 0],W 2 4 [bs a0,iv x42,iv x43,iv x44],W 3 3 [iv x4,.osl 4 0 (List.length x45) 2,nilS],(4,.rows 2 (List.map c_S_api_Clause x45))],5⟩ ?_
   refine jr_callM 1 [(0,some 2)] [(2,some 0),(5,some 1)] (fun r:List Int × Int × Int × Int=>[W 0 3 [iv 0,nilS,nilS],W 1 2 [iv 0,iv 0],W 2 4 [bs a0,iv r.2.1,iv r.2.2.1,iv r.2.2.2],W 3 3 [iv x4,.osl 4 0 (List.length x45) 2,nilS],(4,.rows 2 (List.map c_S_api_Clause x45)),(5,.rows 1 (List.map cI r.1))]) (fun r:List Int × Int × Int × Int=>.osl 5 0 (List.length r.1) 1) 6 (cnf_reader_order_ok a0 x42 x43 x44) (pc (hC 2) allp_nil) (fun r=>(pc (.inl ⟨rfl,rfl⟩) (pc (.inl ⟨rfl,rfl⟩) (pc (.inr (hC 0)) (pc (.inl ⟨rfl,rfl⟩) (pc (.inl ⟨rfl,rfl⟩) (pc (.inr (hL 1 (noid_map ni_I _))) allp_nil))))))) ?_
   rintro⟨x64,x65,x66,x67⟩ hm5
   refine jG 2 2 ⟨[V 0 (bs a0),V 2 (pt 0 3),V 3 (pt 1 2),V 4 (pt 2 4),V 5 (pt 3 3)],[W 0 3 [iv 0,nilS,nilS],W 1 2 [iv 0,iv 0],W 2 4 [bs a0,iv x65,iv x66,iv x67],W 3 3 [iv x4,.osl 4 0 (List.length x45) 2,.osl 5 0 (List.length x64) 1],(4,.rows 2 (List.map c_S_api_Clause x45)),(5,.rows 1 (List.map cI x64))],6⟩ ?_
   refine jr_nil rfl ?_
   exact jx_mid rfl (wkR [(0,some 0),(1,some 1),(2,some 2),(3,some 3),(4,some 4),(5,some 5)] (fix_nil _) (pc (hC 0) (pc (hC 1) (pc (hC 2) (pc (hC 3) (pc (hL 4 (noid_map ni_S_api_Clause _)) (pc (hL 5 (noid_map ni_I _)) allp_nil)))))))
  refine jc_skip ?_
  exact jx_mid rfl (wkR [(0,some 0),(1,some 1),(2,some 2),(3,some 3),(4,some 4),(5,none)] (fix_nil _) (pc (hC 0) (pc (hC 1) (pc (hC 2) (pc (hC 3) (pc (hL 4 (noid_map ni_S_api_Clause _)) (pc hZ allp_nil)))))))
 rintro⟨x59,x60,x61,x62⟩
 refine jx_seqN ?_
 refine jc_seq ?_
 refine jc_bind (fun (x71,x72)=>⟨[V 0 (bs a0),V 2 (pt 0 3),V 3 (pt 1 2),V 4 (pt 2 4),V 5 (pt 3 3)],[W 0 3 [iv 0,nilS,nilS],W 1 2 [iv 0,iv 0],W 2 4 [bs a0,iv x59,iv x71,iv x72],W 3 3 [iv x4,.osl 4 0 (List.length x45) 2,.osl 5 0 (List.length x62) 1],(4,.rows 2 (List.map c_S_api_Clause x45)),(5,.rows 1 (List.map cI x62))],6⟩) (fun (x71,x72)=>.normal) ?_ ?_
 ·refine jR ?_
  refine jG 0 1 ⟨[V 0 (bs a0),V 2 (pt 0 3),V 3 (pt 1 2),V 4 (pt 2 4),V 5 (pt 3 3),V 58 (pt 2 4)],[W 0 3 [iv 0,nilS,nilS],W 1 2 [iv 0,iv 0],W 2 4 [bs a0,iv x59,iv x60,iv x61],W 3 3 [iv x4,.osl 4 0 (List.length x45) 2,.osl 5 0 (List.length x62) 1],(4,.rows 2 (List.map c_S_api_Clause x45)),(5,.rows 1 (List.map cI x62))],6⟩ ?_
  refine jr_callF (i:=1) rfl rfl rfl rfl (vs:=[pt 2 4]) (vs0:=[.fptr [bs a0,iv x59,iv x60,iv x61] 0]) (b:=true) (by kernel_rfl) (by kernel_rfl) (all2_cons (fle_refl _) all2_nil) (cnf_reader_ok_s6db9_ok a0 x59 x60 x61) (fun _=>rfl) (fun _=>rfl) ?_
  intro x73 h73
  refine jG 2 9 ⟨[V 0 (bs a0),V 2 (pt 0 3),V 3 (pt 1 2),V 4 (pt 2 4),V 5 (pt 3 3),V 68 (bv (x73 && (decide (x59 < (List.length a0:Int)))))],[W 0 3 [iv 0,nilS,nilS],W 1 2 [iv 0,iv 0],W 2 4 [bs a0,iv x59,iv x60,iv x61],W 3 3 [iv x4,.osl 4 0 (List.length x45) 2,.osl 5 0 (List.length x62) 1],(4,.rows 2 (List.map c_S_api_Clause x45)),(5,.rows 1 (List.map cI x62))],6⟩ ?_
  refine jN ?_
  refine jIf ?_ ?_
  ·refine jc_reg ?_
   refine jG 0 1 ⟨[V 0 (bs a0),V 2 (pt 0 3),V 3 (pt 1 2),V 4 (pt 2 4),V 5 (pt 3 3),V 69 (pt 2 4)],[W 0 3 [iv 0,nilS,nilS],W 1 2 [iv 0,iv 0],W 2 4 [bs a0,iv x59,iv x60,iv x61],W 3 3 [iv x4,.osl 4 0 (List.length x45) 2,.osl 5 0 (List.length x62) 1],(4,.rows 2 (List.map c_S_api_Clause x45)),(5,.rows 1 (List.map cI x62))],6⟩ ?_
   refine jr_callM 1 [(0,some 2)] [(2,some 0)] (fun r:Int × Int=>[W 0 3 [iv 0,nilS,nilS],W 1 2 [iv 0,iv 0],W 2 4 [bs a0,iv x59,iv r.1,iv r.2],W 3 3 [iv x4,.osl 4 0 (List.length x45) 2,.osl 5 0 (List.length x62) 1],(4,.rows 2 (List.map c_S_api_Clause x45)),(5,.rows 1 (List.map cI x62))]) (fun r:Int × Int=>.tup []) 6 (cnf_reader_stuck_ok a0 x59 x60 x61) (pc (hC 2) allp_nil) (fun r=>(pc (.inl ⟨rfl,rfl⟩) (pc (.inl ⟨rfl,rfl⟩) (pc (.inr (hC 0)) (pc (.inl ⟨rfl,rfl⟩) (pc (.inl ⟨rfl,rfl⟩) (pc (.inl ⟨rfl,rfl⟩) allp_nil))))))) ?_
   rintro⟨x74,x75⟩ hm7
   refine jr_nil rfl ?_
   exact jx_mid rfl (wkR [(0,some 0),(1,some 1),(2,some 2),(3,some 3),(4,some 4),(5,some 5)] (fix_nil _) (pc (hC 0) (pc (hC 1) (pc (hC 2) (pc (hC 3) (pc (hL 4 (noid_map ni_S_api_Clause _)) (pc (hL 5 (noid_map ni_I _)) allp_nil)))))))
  refine jc_skip ?_
  exact jx_mid rfl (wkR [(0,some 0),(1,some 1),(2,some 2),(3,some 3),(4,some 4),(5,some 5)] (fix_nil _) (pc (hC 0) (pc (hC 1) (pc (hC 2) (pc (hC 3) (pc (hL 4 (noid_map ni_S_api_Clause _)) (pc (hL 5 (noid_map ni_I _)) allp_nil)))))))
 rintro⟨x71,x72⟩
 refine jx_seqN ?_
 refine jc_seq ?_
 refine jc_block ?_
 refine jR ?_
 refine jG 0 1 ⟨[V 0 (bs a0),V 2 (pt 0 3),V 3 (pt 1 2),V 4 (pt 2 4),V 5 (pt 3 3),V 72 (pt 2 4)],[W 0 3 [iv 0,nilS,nilS],W 1 2 [iv 0,iv 0],W 2 4 [bs a0,iv x59,iv x71,iv x72],W 3 3 [iv x4,.osl 4 0 (List.length x45) 2,.osl 5 0 (List.length x62) 1],(4,.rows 2 (List.map c_S_api_Clause x45)),(5,.rows 1 (List.map cI x62))],6⟩ ?_
 refine jr_callF (i:=1) rfl rfl rfl rfl (vs:=[pt 2 4]) (vs0:=[.fptr [bs a0,iv x59,iv x71,iv x72] 0]) (b:=true) (by kernel_rfl) (by kernel_rfl) (all2_cons (fle_refl _) all2_nil) (cnf_reader_ok_s6db9_ok a0 x59 x71 x72) (fun _=>rfl) (fun _=>rfl) ?_
 intro x76 h76
 refine jG 2 2 ⟨[V 0 (bs a0),V 2 (pt 0 3),V 3 (pt 1 2),V 4 (pt 2 4),V 5 (pt 3 3),V 71 (bv (!x76))],[W 0 3 [iv 0,nilS,nilS],W 1 2 [iv 0,iv 0],W 2 4 [bs a0,iv x59,iv x71,iv x72],W 3 3 [iv x4,.osl 4 0 (List.length x45) 2,.osl 5 0 (List.length x62) 1],(4,.rows 2 (List.map c_S_api_Clause x45)),(5,.rows 1 (List.map cI x62))],6⟩ ?_
 refine jN ?_
 refine jIf ?_ ?_
 ·refine jc_seq ?_
  refine jc_full cnf_Read_r19 [(78,2)] ?_
  refine jG 0 7 ⟨[V 2 (pt 0 3),V 3 (pt 1 2),V 78 (.ptr 2 0 4 2)],[W 0 3 [iv 0,nilS,nilS],W 1 2 [iv x71,iv x72],W 2 4 [bs a0,iv x59,iv x71,iv x72]],6⟩ ?_
  refine jr_nil rfl ?_
  refine jx_full ?_
  refine jx_seqN ?_
  refine jc_ret ?_
  refine jx_blkR ?_
  refine jx_seqR ?_
  exact jx_retF (.inr rfl) (v:=.tup [.agg [iv 0,nilS,nilS],.agg [iv x71,iv x72]]) (by kernel_rfl) (snapc_tup (snapL_cons (snapc_agg (snapL_cons rfl (snapL_cons rfl (snapL_cons rfl (snapL_nil _))))) (snapL_cons rfl (snapL_nil _)))) (fle_tup (all2_cons (fle_agg (all2_cons (fle_refl _) (all2_cons (fle_nil _) (all2_cons (fle_nil _) all2_nil)))) (all2_cons (fle_refl _) all2_nil)))
 refine jR ?_
 refine jG 0 1 ⟨[V 0 (bs a0),V 2 (pt 0 3),V 3 (pt 1 2),V 5 (pt 3 3),V 81 (.agg [iv x4,.osl 4 0 (List.length x45) 2,.osl 5 0 (List.length x62) 1])],[W 0 3 [iv 0,nilS,nilS],W 1 2 [iv 0,iv 0],W 3 3 [iv x4,.osl 4 0 (List.length x45) 2,.osl 5 0 (List.length x62) 1],(4,.rows 2 (List.map c_S_api_Clause x45)),(5,.rows 1 (List.map cI x62))],6⟩ ?_
 refine jr_callF (i:=1) rfl rfl rfl rfl (vs:=[.agg [iv x4,.osl 4 0 (List.length x45) 2,.osl 5 0 (List.length x62) 1]]) (by kernel_rfl) (snapL_cons (snapc_agg (snapL_cons rfl (snapL_cons (snapc_own fz_S_api_Clause (by kernel_rfl)) (snapL_cons (snapc_own fz_I (by kernel_rfl)) (snapL_nil _))))) (snapL_nil _)) (all2_cons (fle_agg (all2_cons (fle_refl _) (all2_cons (fle_refl _) (all2_cons (fle_refl _) all2_nil)))) all2_nil) (cnf_Fit_ok (S_api_Formula.mk x4 x45 x62)) (fun _=>rfl) (fun _=>rfl) ?_
 intro x77 h77
 refine jG 2 2 ⟨[V 0 (bs a0),V 2 (pt 0 3),V 3 (pt 1 2),V 5 (pt 3 3),V 80 (bv (!x77))],[W 0 3 [iv 0,nilS,nilS],W 1 2 [iv 0,iv 0],W 3 3 [iv x4,.osl 4 0 (List.length x45) 2,.osl 5 0 (List.length x62) 1],(4,.rows 2 (List.map c_S_api_Clause x45)),(5,.rows 1 (List.map cI x62))],6⟩ ?_
 refine jN ?_
 refine jIf ?_ ?_
 ·refine jS ⟨[V 2 (pt 0 3),V 3 (pt 1 2)],[W 0 3 [iv 0,nilS,nilS],W 1 2 [iv 32,iv (List.length a0:Int)]],6⟩ ?_
  refine jc_ret ?_
  refine jx_blkR ?_
  refine jx_seqR ?_
  exact jx_retF (.inr rfl) (v:=.tup [.agg [iv 0,nilS,nilS],.agg [iv 32,iv (List.length a0:Int)]]) (by kernel_rfl) (snapc_tup (snapL_cons (snapc_agg (snapL_cons rfl (snapL_cons rfl (snapL_cons rfl (snapL_nil _))))) (snapL_cons rfl (snapL_nil _)))) (fle_tup (all2_cons (fle_agg (all2_cons (fle_refl _) (all2_cons (fle_nil _) (all2_cons (fle_nil _) all2_nil)))) (all2_cons (fle_refl _) all2_nil)))
 refine jc_skip ?_
 refine jx_blkN ?_
 refine jx_seqN ?_
 refine jS ⟨[V 2 (pt 0 3),V 3 (pt 1 2)],[W 0 3 [iv x4,.osl 4 0 (List.length x45) 2,.osl 5 0 (List.length x62) 1],W 1 2 [iv 0,iv 0],(4,.rows 2 (List.map c_S_api_Clause x45)),(5,.rows 1 (List.map cI x62))],6⟩ ?_
 refine jc_ret ?_
 exact jx_retF (.inr rfl) (v:=.tup [.agg [iv x4,.osl 4 0 (List.length x45) 2,.osl 5 0 (List.length x62) 1],.agg [iv 0,iv 0]]) (by kernel_rfl) (snapc_tup (snapL_cons (snapc_agg (snapL_cons rfl (snapL_cons (snapc_own fz_S_api_Clause (by kernel_rfl)) (snapL_cons (snapc_own fz_I (by kernel_rfl)) (snapL_nil _))))) (snapL_cons rfl (snapL_nil _)))) (fle_tup (all2_cons (fle_agg (all2_cons (fle_refl _) (all2_cons (fle_refl _) (all2_cons (fle_refl _) all2_nil)))) (all2_cons (fle_refl _) all2_nil))))
end Go.Vm

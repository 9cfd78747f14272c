/- The law RanksAlgebra, a part of its proof: what the functions that it reaches compute. -/
import Derived.Test.YtdmndjchojfnnaaDoorDxe80f7a07
import Derived.Test.YtdmndjchojfnnaaDoorW07RanksAlgebra
set_option linter.unusedVariables false
namespace Go.Vm
open Go
structure S_api_Span where
  Lo:Int
  Hi:Int
  deriving DecidableEq,Inhabited
abbrev c_S_api_Span (x:S_api_Span):List AV:=[iv x.Lo,iv x.Hi]
theorem ni_S_api_Span (x:S_api_Span):NoIds (c_S_api_Span x):=noids_cons (noid_s _) (noids_cons (noid_s _) (noids_nil))
theorem fz_S_api_Span (x:S_api_Span):Frz (c_S_api_Span x):=frz_s (frz_s (frz_nil))
abbrev c_L45 (x:List S_api_Span):List AV:=[.fsl 2 (List.map c_S_api_Span x)]
theorem ni_L45 (x:List S_api_Span):NoIds (c_L45 x):=noids_cons (noid_fsl _ _) noids_nil
set_option maxRecDepth 100000
set_option maxHeartbeats 0
set_option linter.unusedSimpArgs false
abbrev ranks_All_r1:List LO:=[lo 2 (.assign (.const (.slice none 0 0))) 22]
abbrev ranks_All_r2:List LO:=[lm 3 0 3,lo 4 (.binOp .lss 3 (.tmp 3) (.const (.int .i64 1)) 3) 4]
abbrev ranks_All_r3:List LO:=[lo 2 (.assign (.const (.slice none 0 0))) 22]
abbrev ranks_All_r4:List LO:=[lm 5 0 3,lo 6 (.call ⟨.builtin .min,#[.tmp 5,.const (.int .i64 65536)],#[3,3]⟩) 3,lo 7 (.build 45 #[(1,.tmp 6)]) 45,lo 8 (.buildSlice 22 1 #[(0,.tmp 7)]) 22,lo 2 (.assign (.tmp 8)) 22]
abbrev ranks_All_c:LC:=.seq (.reg false ranks_All_r1) (.seq (.seq (.reg false ranks_All_r2) (.cond (.tmp 4) (.seq (.reg false ranks_All_r3) .ret) .skip)) (.seq (.reg false ranks_All_r4) .ret))
theorem ranks_All_k:FnOk E 14 9 [.tmp 2] ranks_All_c:=⟨⟨Go.Proofs.Tryd.f14,by kernel_rfl,by kernel_rfl,by kernel_rfl,by kernel_rfl,by kernel_rfl⟩,rfl,rfl⟩
noncomputable def ranks_All (a0:Int):Option ((List S_api_Span)):=(if (decide (a0 < 1))=true then some [] else some [(S_api_Span.mk 0 (if 65536 < a0 then 65536 else a0))])
theorem ranks_All_ok (a0:Int):Ct E 14 [iv a0] (ranks_All a0) (fun r:(List S_api_Span)=>.fsl 2 (List.map c_S_api_Span r)):=ct_intro (N:=9) (L:=ranks_All_c) ranks_All_k rfl (Nat.le_of_ble_eq_true rfl) (by kernel_rfl) (by
 unfold ranks_All
 refine jS ⟨[V 0 (iv a0)],[],0⟩ ?_
 refine jc_seq ?_
 refine jS ⟨[V 0 (iv a0),V 4 (bv (decide (a0 < 1)))],[],0⟩ ?_
 refine jIf ?_ ?_
 ·refine jS ⟨[V 2 (nilS)],[],0⟩ ?_
  refine jc_ret ?_
  refine jx_seqR ?_
  exact jx_retF (.inr rfl) (v:=nilS) (by kernel_rfl) rfl (fle_nil _)
 refine jc_skip ?_
 refine jx_seqN ?_
 refine jS ⟨[V 2 (.osl 0 0 (List.length [(S_api_Span.mk 0 (if 65536 < a0 then 65536 else a0))]) 2)],[(0,.rows 2 (List.map c_S_api_Span [(S_api_Span.mk 0 (if 65536 < a0 then 65536 else a0))]))],1⟩ ?_
 refine jc_ret ?_
 exact jx_retF (.inr rfl) (v:=.osl 0 0 (List.length [(S_api_Span.mk 0 (if 65536 < a0 then 65536 else a0))]) 2) (by kernel_rfl) (snapc_own fz_S_api_Span (by kernel_rfl)) (fle_refl _))
noncomputable def ranks_Fit_l1 (a0:Int) (a1:(List S_api_Span)):(Int × Int)→Option (Step (Int × Int) ((Unit) ⊕ (Unit))):=fun (x2,x3)=>(if (decide (x3 < (List.length a1:Int)))=true then Option.bind (ixl a1 x3) (fun x7=>(if ((((decide (x7.Lo≤x2)) || (decide (x7.Lo < 0))) || (decide (x7.Hi≤x7.Lo))) || (decide (x7.Hi > a0)))=true then some (Step.done (Sum.inl ())) else some (Step.next (x7.Hi,(w64 (x3 + 1)))))) else some (Step.done (Sum.inr ())))
abbrev ranks_add_maa59_r1:List LO:=[lo 3 (.box 45 (.tmp 1)) 0,lo 4 (.assign (.const (.slice none 0 0))) 22]
abbrev ranks_add_maa59_r2:List LO:=[lm 6 0 22,lo 7 (.call ⟨.builtin .len,#[.tmp 6],#[22]⟩) 3,lo 8 (.binOp .sub 3 (.tmp 7) (.const (.int .i64 1)) 3) 3,lo 5 (.assign (.tmp 8)) 3]
abbrev ranks_add_maa59_r3:List LO:=[lm 9 5 3,lo 10 (.binOp .geq 3 (.tmp 9) (.const (.int .i64 0)) 3) 4,lm 11 10 4,lmg 12 0 22 11 true,lmg 13 5 3 11 true,lg 14 (.indexAddr 22 (.tmp 12) (.tmp 13)) 0 11 true,lg 15 (.fieldAddr 45 (.tmp 14) 1) 0 11 true,lg 16 (.load 3 (.tmp 15)) 3 11 true,lg 17 (.fieldAddr 45 (.tmp 3) 0) 0 11 true,lg 18 (.load 3 (.tmp 17)) 3 11 true,lg 19 (.binOp .eql 3 (.tmp 16) (.tmp 18) 3) 4 11 true,lo 20 (.pick (.tmp 11) (.tmp 19) (.const (.bool false))) 4]
abbrev ranks_add_maa59_r4:List LO:=[lm 21 0 22,lm 22 5 3,lo 23 (.fieldAddr 45 (.tmp 3) 1) 0,lo 24 (.load 3 (.tmp 23)) 3,lo 25 (.indexAddr 22 (.tmp 21) (.tmp 22)) 0,lo 26 (.fieldAddr 45 (.tmp 25) 1) 0,ln (.store 3 (.tmp 26) (.tmp 24)) 0]
abbrev ranks_add_maa59_r5:List LO:=[lm 27 0 22,lo 4 (.assign (.tmp 27)) 22]
abbrev ranks_add_maa59_r6:List LO:=[lm 28 0 22,lo 29 (.load 45 (.tmp 3)) 45,lo 30 (.buildSlice 22 1 #[(0,.tmp 29)]) 22,lo 31 (.call ⟨.builtin .append,#[.tmp 28,.tmp 30],#[22,22]⟩) 22,lo 4 (.assign (.tmp 31)) 22]
abbrev ranks_add_maa59_c:LC:=.seq (.reg false ranks_add_maa59_r1) (.seq (.seq (.reg false ranks_add_maa59_r2) (.seq (.reg true ranks_add_maa59_r3) (.cond (.tmp 20) (.seq (.reg false ranks_add_maa59_r4) (.seq (.reg false ranks_add_maa59_r5) .ret)) .skip))) (.seq (.reg false ranks_add_maa59_r6) .ret))
theorem ranks_add_maa59_k:FnOk E 48 32 [.tmp 4] ranks_add_maa59_c:=⟨⟨Go.Proofs.Tryd.f48,by kernel_rfl,by kernel_rfl,by kernel_rfl,by kernel_rfl,by kernel_rfl⟩,rfl,rfl⟩
abbrev ranks_add_maa59_T (a0:List S_api_Span) (a1:Int) (a2:Int) (r:List S_api_Span):CS:=⟨[V 4 (.osl 1 0 (List.length r) 2)],[(1,.rows 2 (List.map c_S_api_Span r))],2⟩
noncomputable def ranks_add_maa59 (a0:List S_api_Span) (a1:Int) (a2:Int):Option (List S_api_Span):=Option.bind (if (decide ((w64 ((List.length a0:Int) - 1))≥0))=true then Option.bind (ixl a0 (w64 ((List.length a0:Int) - 1))) (fun x8=>some (x8.Hi == a1)) else some false:Option (Bool)) (fun x7=>(if x7=true then Option.bind (ixl a0 (w64 ((List.length a0:Int) - 1))) (fun x9=>some (List.set a0 (Int.toNat (w64 ((List.length a0:Int) - 1))) (S_api_Span.mk x9.Lo a2))) else Option.bind (app 16 a0 [(S_api_Span.mk a1 a2)]) (fun x10=>some x10)))
theorem ranks_add_maa59_ok (a0:List S_api_Span) (a1:Int) (a2:Int):CtM E 48 [.osl 0 0 (List.length a0) 2,.agg [iv a1,iv a2]] [(0,.rows 2 (List.map c_S_api_Span a0))] 1 (ranks_add_maa59 a0 a1 a2) (fun r:List S_api_Span=>.osl 1 0 (List.length r) 2) (fun r:List S_api_Span=>[(1,.rows 2 (List.map c_S_api_Span r))]) 2:=ctm_intro (N:=32) (L:=ranks_add_maa59_c) ranks_add_maa59_k rfl (Nat.le_of_ble_eq_true rfl) (fun F hF=>by
 unfold ranks_add_maa59
 refine jS ⟨[V 0 (.osl 0 0 (List.length a0) 2),V 3 (pt 1 2)],[(0,.rows 2 (List.map c_S_api_Span a0)),W 1 2 [iv a1,iv a2]],2⟩ ?_
 refine jc_seq ?_
 refine jS ⟨[V 0 (.osl 0 0 (List.length a0) 2),V 3 (pt 1 2),V 5 (iv (w64 ((List.length a0:Int) - 1)))],[(0,.rows 2 (List.map c_S_api_Span a0)),W 1 2 [iv a1,iv a2]],2⟩ ?_
 refine jR ?_
 refine jG 0 3 ⟨[V 0 (.osl 0 0 (List.length a0) 2),V 3 (pt 1 2),V 5 (iv (w64 ((List.length a0:Int) - 1))),V 11 (bv (decide ((w64 ((List.length a0:Int) - 1))≥0)))],[(0,.rows 2 (List.map c_S_api_Span a0)),W 1 2 [iv a1,iv a2]],2⟩ ?_
 refine jr_bind 3 9 (fun x7=>⟨[V 0 (.osl 0 0 (List.length a0) 2),V 3 (pt 1 2),V 5 (iv (w64 ((List.length a0:Int) - 1))),V 20 (bv x7)],[(0,.rows 2 (List.map c_S_api_Span a0)),W 1 2 [iv a1,iv a2]],2⟩) ?_ ?_
 ·refine jSp 11 ?_ ?_
  ·refine jG 0 2 ⟨[V 0 (.osl 0 0 (List.length a0) 2),V 3 (pt 1 2),V 5 (iv (w64 ((List.length a0:Int) - 1))),(11,.lit true),V 12 (.osl 0 0 (List.length a0) 2),V 13 (iv (w64 ((List.length a0:Int) - 1)))],[(0,.rows 2 (List.map c_S_api_Span a0)),W 1 2 [iv a1,iv a2]],2⟩ ?_
   refine jr_part (i:=2) (mo:=ixl a0 (w64 ((List.length a0:Int) - 1))) rfl rfl rfl rfl (fun _ hc=>aop_ixo0 (sz:=2) (e:=45) (kk:=.i64) (id:=0) (by kernel_rfl) (by kernel_rfl) (by kernel_rfl) (by kernel_rfl) hc) (fun _=>rfl) ?_
   intro x8 h8
   refine jG 3 1 ⟨[V 0 (.osl 0 0 (List.length a0) 2),V 3 (pt 1 2),V 5 (iv (w64 ((List.length a0:Int) - 1))),(11,.lit true),V 15 (.ptr 0 (Int.toNat (w64 ((List.length a0:Int) - 1))) 2 1)],[(0,.rows 2 (List.map c_S_api_Span a0)),W 1 2 [iv a1,iv a2]],2⟩ ?_
   refine jr_one (i:=4) (v:=iv x8.Hi) rfl rfl rfl rfl (aop_ldo (l:=a0) (c:=c_S_api_Span) (id:=0) (k:=(Int.toNat (w64 ((List.length a0:Int) - 1)))) (sz:=2) (off:=1) (a:=x8) (by kernel_rfl) (by kernel_rfl) (ixl_lt h8).2.2 (by kernel_rfl)) rfl ?_
   refine jG 5 4 ⟨[V 0 (.osl 0 0 (List.length a0) 2),V 3 (pt 1 2),V 5 (iv (w64 ((List.length a0:Int) - 1))),V 20 (bv (x8.Hi == a1))],[(0,.rows 2 (List.map c_S_api_Span a0)),W 1 2 [iv a1,iv a2]],2⟩ ?_
   refine jr_nil rfl ?_
   exact jx_mid rfl (wkR [(0,some 0),(1,some 1)] (fix_of hF (k:=1) rfl) (pc (hL 0 (noid_map ni_S_api_Span _)) (pc (hC 1) allp_nil)))
  refine jG 0 9 ⟨[V 0 (.osl 0 0 (List.length a0) 2),V 3 (pt 1 2),V 5 (iv (w64 ((List.length a0:Int) - 1))),V 20 (bv false)],[(0,.rows 2 (List.map c_S_api_Span a0)),W 1 2 [iv a1,iv a2]],2⟩ ?_
  refine jr_nil rfl ?_
  exact jx_mid rfl (wkR [(0,some 0),(1,some 1)] (fix_of hF (k:=1) rfl) (pc (hL 0 (noid_map ni_S_api_Span _)) (pc (hC 1) allp_nil)))
 intro x7
 refine jN ?_
 refine jIf ?_ ?_
 ·refine jR ?_
  refine jG 0 4 ⟨[V 0 (.osl 0 0 (List.length a0) 2),V 21 (.osl 0 0 (List.length a0) 2),V 22 (iv (w64 ((List.length a0:Int) - 1))),V 24 (iv a2)],[(0,.rows 2 (List.map c_S_api_Span a0))],2⟩ ?_
  refine jr_part (i:=4) (mo:=ixl a0 (w64 ((List.length a0:Int) - 1))) rfl rfl rfl rfl (fun _ hc=>aop_ixo0 (sz:=2) (e:=45) (kk:=.i64) (id:=0) (by kernel_rfl) (by kernel_rfl) (by kernel_rfl) (by kernel_rfl) hc) (fun _=>rfl) ?_
  intro x9 h9
  refine jG 5 1 ⟨[V 0 (.osl 0 0 (List.length a0) 2),V 24 (iv a2),V 26 (.ptr 0 (Int.toNat (w64 ((List.length a0:Int) - 1))) 2 1)],[(0,.rows 2 (List.map c_S_api_Span a0))],2⟩ ?_
  refine jr_sto (i:=6) [0] [0] (st1:=⟨[V 0 (.osl 0 0 (List.length (List.set a0 (Int.toNat (w64 ((List.length a0:Int) - 1))) (S_api_Span.mk x9.Lo a2))) 2)],[(0,.rows 2 (List.map c_S_api_Span (List.set a0 (Int.toNat (w64 ((List.length a0:Int) - 1))) (S_api_Span.mk x9.Lo a2))))],2⟩) rfl rfl rfl rfl (aop_sto (l:=a0) (c:=c_S_api_Span) (id:=0) (k:=(Int.toNat (w64 ((List.length a0:Int) - 1)))) (sz:=2) (off:=1) (a:=x9) (a':=(S_api_Span.mk x9.Lo a2)) (w:=iv a2) (cs:=[iv a2]) (by kernel_rfl) (by kernel_rfl) (by kernel_rfl) (by kernel_rfl) (by kernel_rfl) (ixl_lt h9).2.2 (Nat.le_of_ble_eq_true rfl) (by kernel_rfl)) (by simp only[List.length_set]; kernel_rfl) ?_
  refine jN ?_
  refine jS ⟨[V 4 (.osl 0 0 (List.length (List.set a0 (Int.toNat (w64 ((List.length a0:Int) - 1))) (S_api_Span.mk x9.Lo a2))) 2)],[(0,.rows 2 (List.map c_S_api_Span (List.set a0 (Int.toNat (w64 ((List.length a0:Int) - 1))) (S_api_Span.mk x9.Lo a2))))],2⟩ ?_
  refine jc_ret ?_
  refine jx_seqR ?_
  exact jx_retM (ranks_add_maa59_T a0 a1 a2 (List.set a0 (Int.toNat (w64 ((List.length a0:Int) - 1))) (S_api_Span.mk x9.Lo a2))) (.inr rfl) (wkR [(0,some 0),(1,some 0)] (fix_of hF (k:=1) rfl) (pc (hL 0 (noid_map ni_S_api_Span _)) allp_nil))
 refine jc_skip ?_
 refine jx_seqN ?_
 refine jR ?_
 refine jG 0 3 ⟨[V 28 (.osl 0 0 (List.length a0) 2),V 30 (.osl 2 0 (List.length [(S_api_Span.mk a1 a2)]) 2)],[(0,.rows 2 (List.map c_S_api_Span a0)),(2,.rows 2 (List.map c_S_api_Span [(S_api_Span.mk a1 a2)]))],3⟩ ?_
 refine jr_part (i:=3) (mo:=app 16 a0 [(S_api_Span.mk a1 a2)]) rfl rfl rfl rfl (fun _ hc=>aop_app (u:=.osl 0 0 (List.length a0) 2) (w:=.osl 2 0 (List.length [(S_api_Span.mk a1 a2)]) 2) (e:=45) (td:=.slice 45) (by kernel_rfl) (by kernel_rfl) (by kernel_rfl) (by kernel_rfl) (.inl ⟨_,rfl⟩) (appendOf_own (c:=c_S_api_Span) (sz:=2) (b:=16) (id:=0) (by kernel_rfl) (by kernel_rfl) (rows_own (by kernel_rfl)) (List.cons_ne_nil _ _) hc)) (fun _=>rfl) ?_
 intro x10 h10
 refine jG 4 1 ⟨[V 4 (.osl 3 0 (List.length x10) 2)],[(3,.rows 2 (List.map c_S_api_Span x10))],4⟩ ?_
 refine jN ?_
 refine jc_ret ?_
 exact jx_retM (ranks_add_maa59_T a0 a1 a2 x10) (.inr rfl) (wkR [(0,some 0),(1,some 3)] (fix_of hF (k:=1) rfl) (pc (hL 3 (noid_map ni_S_api_Span _)) allp_nil)))
noncomputable def ref07_bounded (a0:Int):Option (Int):=some (if 65536 < (if 0 > a0 then 0 else a0) then 65536 else (if 0 > a0 then 0 else a0))
noncomputable def ref07_All (a0:Int):Option ((List S_api_Span)):=(if (decide (a0 < 1))=true then some [] else Option.bind (ref07_bounded a0) (fun x1=>some [(S_api_Span.mk 0 x1)]))
abbrev ref07_Fit_r1:List LO:=[lo 4 (.assign (.const (.bool false))) 4]
abbrev ref07_Fit_r2:List LO:=[lm 7 0 3,lo 8 (.binOp .lss 3 (.tmp 7) (.const (.int .i64 0)) 3) 4,lm 9 8 4,lmg 10 0 3 9 false,lg 11 (.binOp .gtr 3 (.tmp 10) (.const (.int .i64 65536)) 3) 4 9 false,lo 12 (.pick (.tmp 9) (.const (.bool true)) (.tmp 11)) 4]
abbrev ref07_Fit_r3:List LO:=[lo 4 (.assign (.const (.bool false))) 4]
abbrev ref07_Fit_r4:List LO:=[lo 5 (.assign (.const (.int .i64 (-1)))) 3]
abbrev ref07_Fit_r5:List LO:=[lo 6 (.assign (.const (.int .i64 0))) 3]
abbrev ref07_Fit_r6:List LO:=[lm 13 6 3,lm 14 1 22,lo 15 (.call ⟨.builtin .len,#[.tmp 14],#[22]⟩) 3,lo 16 (.binOp .lss 3 (.tmp 13) (.tmp 15) 3) 4]
abbrev ref07_Fit_r7:List LO:=[lm 19 1 22,lm 20 6 3,lo 21 (.indexAddr 22 (.tmp 19) (.tmp 20)) 0,lo 22 (.fieldAddr 45 (.tmp 21) 0) 0,lo 23 (.load 3 (.tmp 22)) 3,lo 24 (.binOp .lss 3 (.tmp 23) (.const (.int .i64 0)) 3) 4,lm 25 24 4,lmg 26 1 22 25 false,lmg 27 6 3 25 false,lg 28 (.indexAddr 22 (.tmp 26) (.tmp 27)) 0 25 false,lg 29 (.fieldAddr 45 (.tmp 28) 0) 0 25 false,lg 30 (.load 3 (.tmp 29)) 3 25 false,lmg 31 5 3 25 false,lg 32 (.binOp .leq 3 (.tmp 30) (.tmp 31) 3) 4 25 false,lo 33 (.pick (.tmp 25) (.const (.bool true)) (.tmp 32)) 4,lm 34 33 4,lmg 35 1 22 34 false,lmg 36 6 3 34 false,lg 37 (.indexAddr 22 (.tmp 35) (.tmp 36)) 0 34 false,lg 38 (.fieldAddr 45 (.tmp 37) 0) 0 34 false,lg 39 (.load 3 (.tmp 38)) 3 34 false,lmg 40 1 22 34 false,lmg 41 6 3 34 false,lg 42 (.indexAddr 22 (.tmp 40) (.tmp 41)) 0 34 false,lg 43 (.fieldAddr 45 (.tmp 42) 1) 0 34 false,lg 44 (.load 3 (.tmp 43)) 3 34 false,lg 45 (.binOp .geq 3 (.tmp 39) (.tmp 44) 3) 4 34 false,lo 46 (.pick (.tmp 34) (.const (.bool true)) (.tmp 45)) 4,lm 47 46 4,lmg 48 1 22 47 false,lmg 49 6 3 47 false,lg 50 (.indexAddr 22 (.tmp 48) (.tmp 49)) 0 47 false,lg 51 (.fieldAddr 45 (.tmp 50) 1) 0 47 false,lg 52 (.load 3 (.tmp 51)) 3 47 false,lmg 53 0 3 47 false,lg 54 (.binOp .gtr 3 (.tmp 52) (.tmp 53) 3) 4 47 false,lo 55 (.pick (.tmp 47) (.const (.bool true)) (.tmp 54)) 4]
abbrev ref07_Fit_r8:List LO:=[lo 4 (.assign (.const (.bool false))) 4]
abbrev ref07_Fit_r9:List LO:=[lm 56 1 22,lm 57 6 3,lo 58 (.indexAddr 22 (.tmp 56) (.tmp 57)) 0,lo 59 (.fieldAddr 45 (.tmp 58) 1) 0,lo 60 (.load 3 (.tmp 59)) 3,lo 5 (.assign (.tmp 60)) 3]
abbrev ref07_Fit_r10:List LO:=[lm 17 6 3,lo 18 (.binOp .add 3 (.tmp 17) (.const (.int .i64 1)) 3) 3,lo 6 (.assign (.tmp 18)) 3]
abbrev ref07_Fit_r11:List LO:=[lo 4 (.assign (.const (.bool true))) 4]
abbrev ref07_Fit_c:LC:=.seq (.reg false ref07_Fit_r1) (.seq (.seq (.reg false ref07_Fit_r2) (.cond (.tmp 12) (.seq (.reg false ref07_Fit_r3) .ret) .skip)) (.seq (.reg false ref07_Fit_r4) (.seq (.seq (.reg false ref07_Fit_r5) (.block 0 (.loop (.seq (.seq (.reg false ref07_Fit_r6) (.cond (.tmp 16) .skip (.exit 0))) (.seq (.block 1 (.seq (.seq (.reg true ref07_Fit_r7) (.cond (.tmp 55) (.seq (.reg false ref07_Fit_r8) .ret) .skip)) (.reg false ref07_Fit_r9))) (.reg false ref07_Fit_r10)))))) (.seq (.reg false ref07_Fit_r11) .ret))))
theorem ref07_Fit_k:FnOk E 7 61 [.tmp 4] ref07_Fit_c:=⟨⟨Go.Proofs.Tryd.f7,by kernel_rfl,by kernel_rfl,by kernel_rfl,by kernel_rfl,by kernel_rfl⟩,rfl,rfl⟩
noncomputable def ref07_Fit_l1 (a0:Int) (a1:(List S_api_Span)):(Int × Int)→Option (Step (Int × Int) ((Unit) ⊕ (Unit))):=fun (x10,x11)=>(if (decide (x11 < (List.length a1:Int)))=true then Option.bind (ixl a1 x11) (fun x23=>Option.bind (if (decide (x23.Lo < 0))=true then some true else Option.bind (ixl a1 x11) (fun x26=>some (decide (x26.Lo≤x10))):Option (Bool)) (fun x25=>Option.bind (if x25=true then some true else Option.bind (ixl a1 x11) (fun x30=>Option.bind (ixl a1 x11) (fun x31=>some (decide (x30.Lo≥x31.Hi)))):Option (Bool)) (fun x29=>Option.bind (if x29=true then some true else Option.bind (ixl a1 x11) (fun x34=>some (decide (x34.Hi > a0))):Option (Bool)) (fun x33=>(if x33=true then some (Step.done (Sum.inl ())) else Option.bind (ixl a1 x11) (fun x35=>some (Step.next (x35.Hi,(w64 (x11 + 1)))))))))) else some (Step.done (Sum.inr ())))
noncomputable def ref07_Fit (a0:Int) (a1:(List S_api_Span)):Option (Bool):=(if ((decide (a0 < 0)) || (decide (a0 > 65536)))=true then some false else Option.bind (loopC (ref07_Fit_l1 a0 a1) ((-1),0)) (fun y=>match y with | Sum.inl _=>some false | Sum.inr _=>some true))
theorem ref07_Fit_ok (a0:Int) (a1:(List S_api_Span)):Ct E 7 [iv a0,.fsl 2 (List.map c_S_api_Span a1)] (ref07_Fit a0 a1) (fun r:Bool=>bv r):=ct_intro (N:=61) (L:=ref07_Fit_c) ref07_Fit_k rfl (Nat.le_of_ble_eq_true rfl) (by kernel_rfl) (by
 unfold ref07_Fit
 refine jS ⟨[V 0 (iv a0),V 1 (.fsl 2 (List.map c_S_api_Span a1))],[],0⟩ ?_
 refine jc_seq ?_
 refine jS ⟨[V 0 (iv a0),V 1 (.fsl 2 (List.map c_S_api_Span a1)),V 12 (bv ((decide (a0 < 0)) || (decide (a0 > 65536))))],[],0⟩ ?_
 refine jIf ?_ ?_
 ·refine jS ⟨[V 4 (bv false)],[],0⟩ ?_
  refine jc_ret ?_
  refine jx_seqR ?_
  exact jx_retF (.inr rfl) (v:=bv false) (by kernel_rfl) rfl (fle_refl _)
 refine jc_skip ?_
 refine jx_seqN ?_
 refine jS ⟨[V 0 (iv a0),V 1 (.fsl 2 (List.map c_S_api_Span a1)),V 5 (iv (-1))],[],0⟩ ?_
 refine jc_seq ?_
 refine jS ⟨[V 0 (iv a0),V 1 (.fsl 2 (List.map c_S_api_Span a1)),V 5 (iv (-1)),V 6 (iv 0)],[],0⟩ ?_
 refine jc_block ?_
 refine jc_bind (fun y=>match y with | Sum.inl _=>⟨[V 4 (bv false)],[],0⟩ | Sum.inr _=>⟨[],[],0⟩) (fun y=>match y with | Sum.inl _=>.ret | Sum.inr _=>(.exit 0)) (jc_loop (fun (x10,x11)=>⟨[V 0 (iv a0),V 1 (.fsl 2 (List.map c_S_api_Span a1)),V 5 (iv x10),V 6 (iv x11)],[],0⟩) (wkR [] (fix_nil _) allp_nil) ?_) ?_
 ·rintro⟨x10,x11⟩
  unfold ref07_Fit_l1
  refine jc_seq ?_
  refine jR ?_
  refine jG 0 4 ⟨[V 0 (iv a0),V 1 (.fsl 2 (List.map c_S_api_Span a1)),V 5 (iv x10),V 6 (iv x11),V 16 (bv (decide (x11 < (List.length (List.map c_S_api_Span a1):Int))))],[],0⟩ ?_
  simp only[List.length_map]
  refine jN ?_
  refine jIf ?_ ?_
  ·refine jc_skip ?_
   refine jx_seqN ?_
   refine jc_seq ?_
   refine jc_block ?_
   refine jc_seq ?_
   refine jR ?_
   refine jG 0 2 ⟨[V 0 (iv a0),V 1 (.fsl 2 (List.map c_S_api_Span a1)),V 5 (iv x10),V 6 (iv x11),V 19 (.fsl 2 (List.map c_S_api_Span a1)),V 20 (iv x11)],[],0⟩ ?_
   refine jr_part (i:=2) (mo:=ixl a1 x11) rfl rfl rfl rfl (fun _ hc=>aop_ixf (c:=c_S_api_Span) (sz:=2) (e:=45) (kk:=.i64) (by kernel_rfl) (by kernel_rfl) (by kernel_rfl) (by kernel_rfl) hc) (fun _=>rfl) ?_
   intro x23 h23
   refine jG 3 4 ⟨[V 0 (iv a0),V 1 (.fsl 2 (List.map c_S_api_Span a1)),V 5 (iv x10),V 6 (iv x11),V 25 (bv (decide (x23.Lo < 0)))],[],0⟩ ?_
   refine jr_bind 7 8 (fun x25=>⟨[V 0 (iv a0),V 1 (.fsl 2 (List.map c_S_api_Span a1)),V 6 (iv x11),V 33 (bv x25)],[],0⟩) ?_ ?_
   ·refine jSp 25 ?_ ?_
    ·refine jG 0 8 ⟨[V 0 (iv a0),V 1 (.fsl 2 (List.map c_S_api_Span a1)),V 6 (iv x11),V 33 (bv true)],[],0⟩ ?_
     refine jr_nil rfl ?_
     exact jx_mid rfl (wkR [] (fix_nil _) allp_nil)
    refine jG 0 2 ⟨[V 0 (iv a0),V 1 (.fsl 2 (List.map c_S_api_Span a1)),V 5 (iv x10),V 6 (iv x11),(25,.lit false),V 26 (.fsl 2 (List.map c_S_api_Span a1)),V 27 (iv x11)],[],0⟩ ?_
    refine jr_part (i:=2) (mo:=ixl a1 x11) rfl rfl rfl rfl (fun _ hc=>aop_ixf (c:=c_S_api_Span) (sz:=2) (e:=45) (kk:=.i64) (by kernel_rfl) (by kernel_rfl) (by kernel_rfl) (by kernel_rfl) hc) (fun _=>rfl) ?_
    intro x26 h26
    refine jG 3 5 ⟨[V 0 (iv a0),V 1 (.fsl 2 (List.map c_S_api_Span a1)),V 6 (iv x11),V 33 (bv (decide (x26.Lo≤x10)))],[],0⟩ ?_
    refine jr_nil rfl ?_
    exact jx_mid rfl (wkR [] (fix_nil _) allp_nil)
   intro x25
   refine jG 15 1 ⟨[V 0 (iv a0),V 1 (.fsl 2 (List.map c_S_api_Span a1)),V 6 (iv x11),V 34 (bv x25)],[],0⟩ ?_
   refine jr_bind 16 12 (fun x29=>⟨[V 0 (iv a0),V 1 (.fsl 2 (List.map c_S_api_Span a1)),V 6 (iv x11),V 46 (bv x29)],[],0⟩) ?_ ?_
   ·refine jSp 34 ?_ ?_
    ·refine jG 0 12 ⟨[V 0 (iv a0),V 1 (.fsl 2 (List.map c_S_api_Span a1)),V 6 (iv x11),V 46 (bv true)],[],0⟩ ?_
     refine jr_nil rfl ?_
     exact jx_mid rfl (wkR [] (fix_nil _) allp_nil)
    refine jG 0 2 ⟨[V 0 (iv a0),V 1 (.fsl 2 (List.map c_S_api_Span a1)),V 6 (iv x11),(34,.lit false),V 35 (.fsl 2 (List.map c_S_api_Span a1)),V 36 (iv x11)],[],0⟩ ?_
    refine jr_part (i:=2) (mo:=ixl a1 x11) rfl rfl rfl rfl (fun _ hc=>aop_ixf (c:=c_S_api_Span) (sz:=2) (e:=45) (kk:=.i64) (by kernel_rfl) (by kernel_rfl) (by kernel_rfl) (by kernel_rfl) hc) (fun _=>rfl) ?_
    intro x30 h30
    refine jG 3 4 ⟨[V 0 (iv a0),V 1 (.fsl 2 (List.map c_S_api_Span a1)),V 6 (iv x11),(34,.lit false),V 39 (iv x30.Lo),V 40 (.fsl 2 (List.map c_S_api_Span a1)),V 41 (iv x11)],[],0⟩ ?_
    refine jr_part (i:=7) (mo:=ixl a1 x11) rfl rfl rfl rfl (fun _ hc=>aop_ixf (c:=c_S_api_Span) (sz:=2) (e:=45) (kk:=.i64) (by kernel_rfl) (by kernel_rfl) (by kernel_rfl) (by kernel_rfl) hc) (fun _=>rfl) ?_
    intro x31 h31
    refine jG 8 4 ⟨[V 0 (iv a0),V 1 (.fsl 2 (List.map c_S_api_Span a1)),V 6 (iv x11),V 46 (bv (decide (x30.Lo≥x31.Hi)))],[],0⟩ ?_
    refine jr_nil rfl ?_
    exact jx_mid rfl (wkR [] (fix_nil _) allp_nil)
   intro x29
   refine jG 28 1 ⟨[V 0 (iv a0),V 1 (.fsl 2 (List.map c_S_api_Span a1)),V 6 (iv x11),V 47 (bv x29)],[],0⟩ ?_
   refine jr_bind 29 8 (fun x33=>⟨[V 0 (iv a0),V 1 (.fsl 2 (List.map c_S_api_Span a1)),V 6 (iv x11),V 55 (bv x33)],[],0⟩) ?_ ?_
   ·refine jSp 47 ?_ ?_
    ·refine jG 0 8 ⟨[V 0 (iv a0),V 1 (.fsl 2 (List.map c_S_api_Span a1)),V 6 (iv x11),V 55 (bv true)],[],0⟩ ?_
     refine jr_nil rfl ?_
     exact jx_mid rfl (wkR [] (fix_nil _) allp_nil)
    refine jG 0 2 ⟨[V 0 (iv a0),V 1 (.fsl 2 (List.map c_S_api_Span a1)),V 6 (iv x11),(47,.lit false),V 48 (.fsl 2 (List.map c_S_api_Span a1)),V 49 (iv x11)],[],0⟩ ?_
    refine jr_part (i:=2) (mo:=ixl a1 x11) rfl rfl rfl rfl (fun _ hc=>aop_ixf (c:=c_S_api_Span) (sz:=2) (e:=45) (kk:=.i64) (by kernel_rfl) (by kernel_rfl) (by kernel_rfl) (by kernel_rfl) hc) (fun _=>rfl) ?_
    intro x34 h34
    refine jG 3 5 ⟨[V 0 (iv a0),V 1 (.fsl 2 (List.map c_S_api_Span a1)),V 6 (iv x11),V 55 (bv (decide (x34.Hi > a0)))],[],0⟩ ?_
    refine jr_nil rfl ?_
    exact jx_mid rfl (wkR [] (fix_nil _) allp_nil)
   intro x33
   refine jN ?_
   refine jIf ?_ ?_
   ·refine jS ⟨[V 4 (bv false)],[],0⟩ ?_
    refine jc_ret ?_
    refine jx_seqR ?_
    refine jx_blkR ?_
    refine jx_seqR ?_
    exact jx_done rfl nofun (wkR [] (fix_nil _) allp_nil)
   refine jc_skip ?_
   refine jx_seqN ?_
   refine jc_reg ?_
   refine jG 0 2 ⟨[V 0 (iv a0),V 1 (.fsl 2 (List.map c_S_api_Span a1)),V 6 (iv x11),V 56 (.fsl 2 (List.map c_S_api_Span a1)),V 57 (iv x11)],[],0⟩ ?_
   refine jr_part (i:=2) (mo:=ixl a1 x11) rfl rfl rfl rfl (fun _ hc=>aop_ixf (c:=c_S_api_Span) (sz:=2) (e:=45) (kk:=.i64) (by kernel_rfl) (by kernel_rfl) (by kernel_rfl) (by kernel_rfl) hc) (fun _=>rfl) ?_
   intro x35 h35
   refine jG 3 3 ⟨[V 0 (iv a0),V 1 (.fsl 2 (List.map c_S_api_Span a1)),V 5 (iv x35.Hi),V 6 (iv x11)],[],0⟩ ?_
   refine jr_nil rfl ?_
   refine jx_blkN ?_
   refine jx_seqN ?_
   refine jT ⟨[V 0 (iv a0),V 1 (.fsl 2 (List.map c_S_api_Span a1)),V 5 (iv x35.Hi),V 6 (iv (w64 (x11 + 1)))],[],0⟩ ?_
   exact jx_next (wkR [] (fix_nil _) allp_nil)
  refine jc_exit ?_
  refine jx_seqE ?_
  exact jx_done rfl nofun (wkR [] (fix_nil _) allp_nil)
 rintro (_ | _)
 ·refine jx_blkR ?_
  refine jx_seqR ?_
  exact jx_retF (.inr rfl) (v:=bv false) (by kernel_rfl) rfl (fle_refl _)
 refine jx_blkE ?_
 refine jx_seqN ?_
 refine jS ⟨[V 4 (bv true)],[],0⟩ ?_
 refine jc_ret ?_
 exact jx_retF (.inr rfl) (v:=bv true) (by kernel_rfl) rfl (fle_refl _))
abbrev ref07_Same_r1:List LO:=[lo 4 (.assign (.const (.bool false))) 4]
abbrev ref07_Same_r2:List LO:=[lm 6 0 22,lo 7 (.call ⟨.builtin .len,#[.tmp 6],#[22]⟩) 3,lm 8 1 22,lo 9 (.call ⟨.builtin .len,#[.tmp 8],#[22]⟩) 3,lo 10 (.binOp .neq 3 (.tmp 7) (.tmp 9) 3) 4]
abbrev ref07_Same_r3:List LO:=[lo 4 (.assign (.const (.bool false))) 4]
abbrev ref07_Same_r4:List LO:=[lo 5 (.assign (.const (.int .i64 0))) 3]
abbrev ref07_Same_r5:List LO:=[lm 11 5 3,lm 12 0 22,lo 13 (.call ⟨.builtin .len,#[.tmp 12],#[22]⟩) 3,lo 14 (.binOp .lss 3 (.tmp 11) (.tmp 13) 3) 4]
abbrev ref07_Same_r6:List LO:=[lm 17 0 22,lm 18 5 3,lo 19 (.indexAddr 22 (.tmp 17) (.tmp 18)) 0,lo 20 (.load 45 (.tmp 19)) 45,lm 21 1 22,lm 22 5 3,lo 23 (.indexAddr 22 (.tmp 21) (.tmp 22)) 0,lo 24 (.load 45 (.tmp 23)) 45,lo 25 (.binOp .neq 45 (.tmp 20) (.tmp 24) 45) 4]
abbrev ref07_Same_r7:List LO:=[lo 4 (.assign (.const (.bool false))) 4]
abbrev ref07_Same_r8:List LO:=[lm 15 5 3,lo 16 (.binOp .add 3 (.tmp 15) (.const (.int .i64 1)) 3) 3,lo 5 (.assign (.tmp 16)) 3]
abbrev ref07_Same_r9:List LO:=[lo 4 (.assign (.const (.bool true))) 4]
abbrev ref07_Same_c:LC:=.seq (.reg false ref07_Same_r1) (.seq (.seq (.reg false ref07_Same_r2) (.cond (.tmp 10) (.seq (.reg false ref07_Same_r3) .ret) .skip)) (.seq (.seq (.reg false ref07_Same_r4) (.block 0 (.loop (.seq (.seq (.reg false ref07_Same_r5) (.cond (.tmp 14) .skip (.exit 0))) (.seq (.block 1 (.seq (.reg true ref07_Same_r6) (.cond (.tmp 25) (.seq (.reg false ref07_Same_r7) .ret) .skip))) (.reg false ref07_Same_r8)))))) (.seq (.reg false ref07_Same_r9) .ret)))
theorem ref07_Same_k:FnOk E 13 26 [.tmp 4] ref07_Same_c:=⟨⟨Go.Proofs.Tryd.f13,by kernel_rfl,by kernel_rfl,by kernel_rfl,by kernel_rfl,by kernel_rfl⟩,rfl,rfl⟩
noncomputable def ref07_Same_l1 (a0:(List S_api_Span)) (a1:(List S_api_Span)):Int→Option (Step (Int) ((Unit) ⊕ (Unit))):=fun x3=>(if (decide (x3 < (List.length a0:Int)))=true then Option.bind (ixl a0 x3) (fun x7=>Option.bind (ixl a1 x3) (fun x8=>(if (!((x7.Lo == x8.Lo) && (x7.Hi == x8.Hi)))=true then some (Step.done (Sum.inl ())) else some (Step.next (w64 (x3 + 1)))))) else some (Step.done (Sum.inr ())))
noncomputable def ref07_Same (a0:(List S_api_Span)) (a1:(List S_api_Span)):Option (Bool):=(if ((List.length a0:Int) != (List.length a1:Int))=true then some false else Option.bind (loopC (ref07_Same_l1 a0 a1) 0) (fun y=>match y with | Sum.inl _=>some false | Sum.inr _=>some true))
theorem ref07_Same_ok (a0:(List S_api_Span)) (a1:(List S_api_Span)):Ct E 13 [.fsl 2 (List.map c_S_api_Span a0),.fsl 2 (List.map c_S_api_Span a1)] (ref07_Same a0 a1) (fun r:Bool=>bv r):=ct_intro (N:=26) (L:=ref07_Same_c) ref07_Same_k rfl (Nat.le_of_ble_eq_true rfl) (by kernel_rfl) (by
 unfold ref07_Same
 refine jS ⟨[V 0 (.fsl 2 (List.map c_S_api_Span a0)),V 1 (.fsl 2 (List.map c_S_api_Span a1))],[],0⟩ ?_
 refine jc_seq ?_
 refine jR ?_
 refine jG 0 5 ⟨[V 0 (.fsl 2 (List.map c_S_api_Span a0)),V 1 (.fsl 2 (List.map c_S_api_Span a1)),V 10 (bv ((List.length (List.map c_S_api_Span a0):Int) != (List.length (List.map c_S_api_Span a1):Int)))],[],0⟩ ?_
 simp only[List.length_map]
 refine jN ?_
 refine jIf ?_ ?_
 ·refine jS ⟨[V 4 (bv false)],[],0⟩ ?_
  refine jc_ret ?_
  refine jx_seqR ?_
  exact jx_retF (.inr rfl) (v:=bv false) (by kernel_rfl) rfl (fle_refl _)
 refine jc_skip ?_
 refine jx_seqN ?_
 refine jc_seq ?_
 refine jS ⟨[V 0 (.fsl 2 (List.map c_S_api_Span a0)),V 1 (.fsl 2 (List.map c_S_api_Span a1)),V 5 (iv 0)],[],0⟩ ?_
 refine jc_block ?_
 refine jc_bind (fun y=>match y with | Sum.inl _=>⟨[V 4 (bv false)],[],0⟩ | Sum.inr _=>⟨[],[],0⟩) (fun y=>match y with | Sum.inl _=>.ret | Sum.inr _=>(.exit 0)) (jc_loop (fun x3=>⟨[V 0 (.fsl 2 (List.map c_S_api_Span a0)),V 1 (.fsl 2 (List.map c_S_api_Span a1)),V 5 (iv x3)],[],0⟩) (wkR [] (fix_nil _) allp_nil) ?_) ?_
 ·intro x3
  unfold ref07_Same_l1
  refine jc_seq ?_
  refine jR ?_
  refine jG 0 4 ⟨[V 0 (.fsl 2 (List.map c_S_api_Span a0)),V 1 (.fsl 2 (List.map c_S_api_Span a1)),V 5 (iv x3),V 14 (bv (decide (x3 < (List.length (List.map c_S_api_Span a0):Int))))],[],0⟩ ?_
  simp only[List.length_map]
  refine jN ?_
  refine jIf ?_ ?_
  ·refine jc_skip ?_
   refine jx_seqN ?_
   refine jc_seq ?_
   refine jc_block ?_
   refine jR ?_
   refine jG 0 2 ⟨[V 0 (.fsl 2 (List.map c_S_api_Span a0)),V 1 (.fsl 2 (List.map c_S_api_Span a1)),V 5 (iv x3),V 17 (.fsl 2 (List.map c_S_api_Span a0)),V 18 (iv x3)],[],0⟩ ?_
   refine jr_part (i:=2) (mo:=ixl a0 x3) rfl rfl rfl rfl (fun _ hc=>aop_ixf (c:=c_S_api_Span) (sz:=2) (e:=45) (kk:=.i64) (by kernel_rfl) (by kernel_rfl) (by kernel_rfl) (by kernel_rfl) hc) (fun _=>rfl) ?_
   intro x7 h7
   refine jG 3 3 ⟨[V 0 (.fsl 2 (List.map c_S_api_Span a0)),V 1 (.fsl 2 (List.map c_S_api_Span a1)),V 5 (iv x3),V 20 (.agg [iv x7.Lo,iv x7.Hi]),V 21 (.fsl 2 (List.map c_S_api_Span a1)),V 22 (iv x3)],[],0⟩ ?_
   refine jr_part (i:=6) (mo:=ixl a1 x3) rfl rfl rfl rfl (fun _ hc=>aop_ixf (c:=c_S_api_Span) (sz:=2) (e:=45) (kk:=.i64) (by kernel_rfl) (by kernel_rfl) (by kernel_rfl) (by kernel_rfl) hc) (fun _=>rfl) ?_
   intro x8 h8
   refine jG 7 2 ⟨[V 0 (.fsl 2 (List.map c_S_api_Span a0)),V 1 (.fsl 2 (List.map c_S_api_Span a1)),V 5 (iv x3),V 25 (bv (!((x7.Lo == x8.Lo) && (x7.Hi == x8.Hi))))],[],0⟩ ?_
   refine jN ?_
   refine jIf ?_ ?_
   ·refine jS ⟨[V 4 (bv false)],[],0⟩ ?_
    refine jc_ret ?_
    refine jx_blkR ?_
    refine jx_seqR ?_
    exact jx_done rfl nofun (wkR [] (fix_nil _) allp_nil)
   refine jc_skip ?_
   refine jx_blkN ?_
   refine jx_seqN ?_
   refine jT ⟨[V 0 (.fsl 2 (List.map c_S_api_Span a0)),V 1 (.fsl 2 (List.map c_S_api_Span a1)),V 5 (iv (w64 (x3 + 1)))],[],0⟩ ?_
   exact jx_next (wkR [] (fix_nil _) allp_nil)
  refine jc_exit ?_
  refine jx_seqE ?_
  exact jx_done rfl nofun (wkR [] (fix_nil _) allp_nil)
 rintro (_ | _)
 ·refine jx_blkR ?_
  refine jx_seqR ?_
  exact jx_retF (.inr rfl) (v:=bv false) (by kernel_rfl) rfl (fle_refl _)
 refine jx_blkE ?_
 refine jx_seqN ?_
 refine jS ⟨[V 4 (bv true)],[],0⟩ ?_
 refine jc_ret ?_
 exact jx_retF (.inr rfl) (v:=bv true) (by kernel_rfl) rfl (fle_refl _))
abbrev ranks_Has_1_s64b3_r1:List LO:=[lo 2 (.box 45 (.tmp 0)) 0,lo 3 (.assign (.const (.bool false))) 4]
abbrev ranks_Has_1_s64b3_r2:List LO:=[lo 4 (.fieldAddr 45 (.tmp 2) 0) 0,lo 5 (.load 3 (.tmp 4)) 3,lo 6 (.load 3 (.tmp 1)) 3,lo 7 (.binOp .leq 3 (.tmp 5) (.tmp 6) 3) 4,lm 8 7 4,lg 9 (.load 3 (.tmp 1)) 3 8 true,lg 10 (.fieldAddr 45 (.tmp 2) 1) 0 8 true,lg 11 (.load 3 (.tmp 10)) 3 8 true,lg 12 (.binOp .lss 3 (.tmp 9) (.tmp 11) 3) 4 8 true,lo 13 (.pick (.tmp 8) (.tmp 12) (.const (.bool false))) 4,lo 3 (.assign (.tmp 13)) 4]
abbrev ranks_Has_1_s64b3_c:LC:=.seq (.reg false ranks_Has_1_s64b3_r1) (.seq (.reg false ranks_Has_1_s64b3_r2) .ret)
theorem ranks_Has_1_s64b3_k:FnOk E 53 14 [.tmp 3] ranks_Has_1_s64b3_c:=⟨⟨Go.Proofs.Tryd.f53,by kernel_rfl,by kernel_rfl,by kernel_rfl,by kernel_rfl,by kernel_rfl⟩,rfl,rfl⟩
noncomputable def ranks_Has_1_s64b3 (a0:S_api_Span) (a1:Int):Option (Bool):=some ((decide (a0.Lo≤a1)) && (decide (a1 < a0.Hi)))
theorem ranks_Has_1_s64b3_ok (a0:S_api_Span) (a1:Int):Ct E 53 [.agg [iv a0.Lo,iv a0.Hi],.fptr [iv a1] 0] (ranks_Has_1_s64b3 a0 a1) (fun r:Bool=>bv r):=ct_intro (N:=14) (L:=ranks_Has_1_s64b3_c) ranks_Has_1_s64b3_k rfl (Nat.le_of_ble_eq_true rfl) (by kernel_rfl) (by
 unfold ranks_Has_1_s64b3
 refine jS ⟨[V 1 (.fptr [iv a1] 0),V 2 (pt 0 2)],[W 0 2 [iv a0.Lo,iv a0.Hi]],1⟩ ?_
 refine jS ⟨[V 3 (bv ((decide (a0.Lo≤a1)) && (decide (a1 < a0.Hi))))],[],1⟩ ?_
 refine jc_ret ?_
 exact jx_retF (.inr rfl) (v:=bv ((decide (a0.Lo≤a1)) && (decide (a1 < a0.Hi)))) (by kernel_rfl) rfl (fle_refl _))
abbrev slices_IndexFunc_api_Span_api_Span_s6956_r1:List LO:=[lo 4 (.assign (.const (.int .i64 0))) 3]
abbrev slices_IndexFunc_api_Span_api_Span_s6956_r2:List LO:=[lm 6 0 22,lo 7 (.call ⟨.builtin .len,#[.tmp 6],#[22]⟩) 3,lo 8 (.move (.const (.int .i64 0))) 3]
abbrev slices_IndexFunc_api_Span_api_Span_s6956_r3:List LO:=[lo 9 (.binOp .lss 3 (.tmp 8) (.tmp 7) 3) 0]
abbrev slices_IndexFunc_api_Span_api_Span_s6956_r4:List LO:=[lm 10 8 3,lo 5 (.assign (.tmp 10)) 3]
abbrev slices_IndexFunc_api_Span_api_Span_s6956_r5:List LO:=[lm 11 1 56,lm 12 0 22,lm 13 5 3,lo 14 (.indexAddr 22 (.tmp 12) (.tmp 13)) 0,lo 15 (.load 45 (.tmp 14)) 45,lo 16 (.call ⟨.value (.tmp 11),#[.tmp 15],#[45]⟩) 4]
abbrev slices_IndexFunc_api_Span_api_Span_s6956_r6:List LO:=[lm 17 5 3,lo 4 (.assign (.tmp 17)) 3]
abbrev slices_IndexFunc_api_Span_api_Span_s6956_r7:List LO:=[lo 18 (.binOp .add 3 (.tmp 8) (.const (.int .i64 1)) 3) 3,lm 8 18 3]
abbrev slices_IndexFunc_api_Span_api_Span_s6956_r8:List LO:=[lo 4 (.assign (.const (.int .i64 (-1)))) 3]
abbrev slices_IndexFunc_api_Span_api_Span_s6956_c:LC:=.seq (.reg false slices_IndexFunc_api_Span_api_Span_s6956_r1) (.seq (.seq (.reg false slices_IndexFunc_api_Span_api_Span_s6956_r2) (.block 0 (.loop (.seq (.reg false slices_IndexFunc_api_Span_api_Span_s6956_r3) (.seq (.cond (.tmp 9) .skip (.exit 0)) (.seq (.block 1 (.seq (.reg false slices_IndexFunc_api_Span_api_Span_s6956_r4) (.seq (.reg false slices_IndexFunc_api_Span_api_Span_s6956_r5) (.cond (.tmp 16) (.seq (.reg false slices_IndexFunc_api_Span_api_Span_s6956_r6) .ret) .skip)))) (.reg false slices_IndexFunc_api_Span_api_Span_s6956_r7))))))) (.seq (.reg false slices_IndexFunc_api_Span_api_Span_s6956_r8) .ret))
theorem slices_IndexFunc_api_Span_api_Span_s6956_k:FnOk E 62 19 [.tmp 4] slices_IndexFunc_api_Span_api_Span_s6956_c:=⟨⟨Go.Proofs.Tryd.f62,by kernel_rfl,by kernel_rfl,by kernel_rfl,by kernel_rfl,by kernel_rfl⟩,rfl,rfl⟩
noncomputable def slices_IndexFunc_api_Span_api_Span_s6956_l1 (a0:(List S_api_Span)) (a1:Int):Int→Option (Step (Int) ((Int) ⊕ (Unit))):=fun x3=>(if (decide (x3 < (List.length a0:Int)))=true then Option.bind (ixl a0 x3) (fun x8=>Option.bind (ranks_Has_1_s64b3 x8 a1) (fun x9=>(if x9=true then some (Step.done (Sum.inl x3)) else some (Step.next (w64 (x3 + 1)))))) else some (Step.done (Sum.inr ())))
noncomputable def slices_IndexFunc_api_Span_api_Span_s6956 (a0:(List S_api_Span)) (a1:Int):Option (Int):=Option.bind (loopC (slices_IndexFunc_api_Span_api_Span_s6956_l1 a0 a1) 0) (fun y=>match y with | Sum.inl x7=>some x7 | Sum.inr _=>some (-1))
theorem slices_IndexFunc_api_Span_api_Span_s6956_ok (a0:(List S_api_Span)) (a1:Int):Ct E 62 [.fsl 2 (List.map c_S_api_Span a0),.fn 53 [.fptr [iv a1] 0]] (slices_IndexFunc_api_Span_api_Span_s6956 a0 a1) (fun r:Int=>iv r):=ct_intro (N:=19) (L:=slices_IndexFunc_api_Span_api_Span_s6956_c) slices_IndexFunc_api_Span_api_Span_s6956_k rfl (Nat.le_of_ble_eq_true rfl) (by kernel_rfl) (by
 unfold slices_IndexFunc_api_Span_api_Span_s6956
 refine jS ⟨[V 0 (.fsl 2 (List.map c_S_api_Span a0)),V 1 (.fn 53 [.fptr [iv a1] 0])],[],0⟩ ?_
 refine jc_seq ?_
 refine jR ?_
 refine jG 0 3 ⟨[V 0 (.fsl 2 (List.map c_S_api_Span a0)),V 1 (.fn 53 [.fptr [iv a1] 0]),V 7 (iv (List.length (List.map c_S_api_Span a0):Int)),V 8 (iv 0)],[],0⟩ ?_
 simp only[List.length_map]
 refine jN ?_
 refine jc_block ?_
 refine jc_bind (fun y=>match y with | Sum.inl x7=>⟨[V 4 (iv x7)],[],0⟩ | Sum.inr _=>⟨[],[],0⟩) (fun y=>match y with | Sum.inl x7=>.ret | Sum.inr _=>(.exit 0)) (jc_loop (fun x3=>⟨[V 0 (.fsl 2 (List.map c_S_api_Span a0)),V 1 (.fn 53 [.fptr [iv a1] 0]),V 7 (iv (List.length a0:Int)),V 8 (iv x3)],[],0⟩) (wkR [] (fix_nil _) allp_nil) ?_) ?_
 ·intro x3
  unfold slices_IndexFunc_api_Span_api_Span_s6956_l1
  refine jS ⟨[V 0 (.fsl 2 (List.map c_S_api_Span a0)),V 1 (.fn 53 [.fptr [iv a1] 0]),V 7 (iv (List.length a0:Int)),V 8 (iv x3),V 9 (bv (decide (x3 < (List.length a0:Int))))],[],0⟩ ?_
  refine jc_seq ?_
  refine jIf ?_ ?_
  ·refine jc_skip ?_
   refine jx_seqN ?_
   refine jc_seq ?_
   refine jc_block ?_
   refine jS ⟨[V 0 (.fsl 2 (List.map c_S_api_Span a0)),V 1 (.fn 53 [.fptr [iv a1] 0]),V 5 (iv x3),V 7 (iv (List.length a0:Int)),V 8 (iv x3)],[],0⟩ ?_
   refine jR ?_
   refine jG 0 3 ⟨[V 0 (.fsl 2 (List.map c_S_api_Span a0)),V 1 (.fn 53 [.fptr [iv a1] 0]),V 5 (iv x3),V 7 (iv (List.length a0:Int)),V 8 (iv x3),V 11 (.fn 53 [.fptr [iv a1] 0]),V 12 (.fsl 2 (List.map c_S_api_Span a0)),V 13 (iv x3)],[],0⟩ ?_
   refine jr_part (i:=3) (mo:=ixl a0 x3) rfl rfl rfl rfl (fun _ hc=>aop_ixf (c:=c_S_api_Span) (sz:=2) (e:=45) (kk:=.i64) (by kernel_rfl) (by kernel_rfl) (by kernel_rfl) (by kernel_rfl) hc) (fun _=>rfl) ?_
   intro x8 h8
   refine jG 4 1 ⟨[V 0 (.fsl 2 (List.map c_S_api_Span a0)),V 1 (.fn 53 [.fptr [iv a1] 0]),V 5 (iv x3),V 7 (iv (List.length a0:Int)),V 8 (iv x3),V 11 (.fn 53 [.fptr [iv a1] 0]),V 15 (.agg [iv x8.Lo,iv x8.Hi])],[],0⟩ ?_
   refine jr_callV (i:=5) rfl rfl rfl rfl (g:=53) (caps:=[.fptr [iv a1] 0]) (avs:=[.agg [iv x8.Lo,iv x8.Hi]]) (vs:=[.agg [iv x8.Lo,iv x8.Hi],.fptr [iv a1] 0]) (by kernel_rfl) (by kernel_rfl) rfl (snapL_cons rfl (snapL_cons rfl (snapL_nil _))) (all2_cons (fle_refl _) (all2_cons (fle_refl _) all2_nil)) (ranks_Has_1_s64b3_ok x8 a1) (fun _=>rfl) (fun _=>rfl) ?_
   intro x9 h9
   refine jN ?_
   refine jIf ?_ ?_
   ·refine jS ⟨[V 4 (iv x3)],[],0⟩ ?_
    refine jc_ret ?_
    refine jx_blkR ?_
    refine jx_seqR ?_
    exact jx_done rfl nofun (wkR [] (fix_nil _) allp_nil)
   refine jc_skip ?_
   refine jx_blkN ?_
   refine jx_seqN ?_
   refine jT ⟨[V 0 (.fsl 2 (List.map c_S_api_Span a0)),V 1 (.fn 53 [.fptr [iv a1] 0]),V 7 (iv (List.length a0:Int)),V 8 (iv (w64 (x3 + 1)))],[],0⟩ ?_
   exact jx_next (wkR [] (fix_nil _) allp_nil)
  refine jc_exit ?_
  refine jx_seqE ?_
  exact jx_done rfl nofun (wkR [] (fix_nil _) allp_nil)
 rintro (x7 | _)
 ·refine jx_blkR ?_
  refine jx_seqR ?_
  exact jx_retF (.inr rfl) (v:=iv x7) (by kernel_rfl) rfl (fle_refl _)
 refine jx_blkE ?_
 refine jx_seqN ?_
 refine jS ⟨[V 4 (iv (-1))],[],0⟩ ?_
 refine jc_ret ?_
 exact jx_retF (.inr rfl) (v:=iv (-1)) (by kernel_rfl) rfl (fle_refl _))
abbrev slices_ContainsFunc_api_Span_api_Span_s6956_r1:List LO:=[lo 4 (.assign (.const (.bool false))) 4]
abbrev slices_ContainsFunc_api_Span_api_Span_s6956_r2:List LO:=[lm 5 0 22,lm 6 1 56,lo 7 (.call ⟨.value (.func 62),#[.tmp 5,.tmp 6],#[22,56]⟩) 3,lo 8 (.binOp .geq 3 (.tmp 7) (.const (.int .i64 0)) 3) 4,lo 4 (.assign (.tmp 8)) 4]
abbrev slices_ContainsFunc_api_Span_api_Span_s6956_c:LC:=.seq (.reg false slices_ContainsFunc_api_Span_api_Span_s6956_r1) (.seq (.reg false slices_ContainsFunc_api_Span_api_Span_s6956_r2) .ret)
theorem slices_ContainsFunc_api_Span_api_Span_s6956_k:FnOk E 52 9 [.tmp 4] slices_ContainsFunc_api_Span_api_Span_s6956_c:=⟨⟨Go.Proofs.Tryd.f52,by kernel_rfl,by kernel_rfl,by kernel_rfl,by kernel_rfl,by kernel_rfl⟩,rfl,rfl⟩
noncomputable def slices_ContainsFunc_api_Span_api_Span_s6956 (a0:(List S_api_Span)) (a1:Int):Option (Bool):=Option.bind (slices_IndexFunc_api_Span_api_Span_s6956 a0 a1) (fun x1=>some (decide (x1≥0)))
theorem slices_ContainsFunc_api_Span_api_Span_s6956_ok (a0:(List S_api_Span)) (a1:Int):Ct E 52 [.fsl 2 (List.map c_S_api_Span a0),.fn 53 [.fptr [iv a1] 0]] (slices_ContainsFunc_api_Span_api_Span_s6956 a0 a1) (fun r:Bool=>bv r):=ct_intro (N:=9) (L:=slices_ContainsFunc_api_Span_api_Span_s6956_c) slices_ContainsFunc_api_Span_api_Span_s6956_k rfl (Nat.le_of_ble_eq_true rfl) (by kernel_rfl) (by
 unfold slices_ContainsFunc_api_Span_api_Span_s6956
 refine jS ⟨[V 0 (.fsl 2 (List.map c_S_api_Span a0)),V 1 (.fn 53 [.fptr [iv a1] 0])],[],0⟩ ?_
 refine jR ?_
 refine jG 0 2 ⟨[V 5 (.fsl 2 (List.map c_S_api_Span a0)),V 6 (.fn 53 [.fptr [iv a1] 0])],[],0⟩ ?_
 refine jK 2 (slices_IndexFunc_api_Span_api_Span_s6956_ok a0 a1) ?_
 intro x1 h1
 refine jG 3 2 ⟨[V 4 (bv (decide (x1≥0)))],[],0⟩ ?_
 refine jN ?_
 refine jc_ret ?_
 exact jx_retF (.inr rfl) (v:=bv (decide (x1≥0))) (by kernel_rfl) rfl (fle_refl _))
abbrev ranks_Has_r1:List LO:=[lo 3 (.box 3 (.tmp 1)) 0,lo 4 (.assign (.const (.bool false))) 4]
abbrev ranks_Has_r2:List LO:=[lm 5 0 22,lo 6 (.makeFunc (Fn.func 53) #[] #[.tmp 3]) 56,lo 7 (.call ⟨.value (.func 52),#[.tmp 5,.tmp 6],#[22,56]⟩) 4,lo 4 (.assign (.tmp 7)) 4]
abbrev ranks_Has_c:LC:=.seq (.reg false ranks_Has_r1) (.seq (.reg false ranks_Has_r2) .ret)
theorem ranks_Has_k:FnOk E 28 8 [.tmp 4] ranks_Has_c:=⟨⟨Go.Proofs.Tryd.f28,by kernel_rfl,by kernel_rfl,by kernel_rfl,by kernel_rfl,by kernel_rfl⟩,rfl,rfl⟩
noncomputable def ranks_Has (a0:(List S_api_Span)) (a1:Int):Option (Bool):=Option.bind (slices_ContainsFunc_api_Span_api_Span_s6956 a0 a1) (fun x1=>some x1)
theorem ranks_Has_ok (a0:(List S_api_Span)) (a1:Int):Ct E 28 [.fsl 2 (List.map c_S_api_Span a0),iv a1] (ranks_Has a0 a1) (fun r:Bool=>bv r):=ct_intro (N:=8) (L:=ranks_Has_c) ranks_Has_k rfl (Nat.le_of_ble_eq_true rfl) (by kernel_rfl) (by
 unfold ranks_Has
 refine jS ⟨[V 0 (.fsl 2 (List.map c_S_api_Span a0)),V 3 (pt 0 1)],[W 0 1 [iv a1]],1⟩ ?_
 refine jR ?_
 refine jG 0 2 ⟨[V 5 (.fsl 2 (List.map c_S_api_Span a0)),V 6 (.fn 53 [pt 0 1])],[W 0 1 [iv a1]],1⟩ ?_
 refine jr_callF (i:=2) rfl rfl rfl rfl (vs:=[.fsl 2 (List.map c_S_api_Span a0),.fn 53 [pt 0 1]]) (vs0:=[.fsl 2 (List.map c_S_api_Span a0),.fn 53 [.fptr [iv a1] 0]]) (b:=true) (by kernel_rfl) (by kernel_rfl) (all2_cons (fle_refl _) (all2_cons (fle_refl _) all2_nil)) (slices_ContainsFunc_api_Span_api_Span_s6956_ok a0 a1) (fun _=>rfl) (fun _=>rfl) ?_
 intro x1 h1
 refine jG 3 1 ⟨[V 4 (bv x1)],[],1⟩ ?_
 refine jN ?_
 refine jc_ret ?_
 exact jx_retF (.inr rfl) (v:=bv x1) (by kernel_rfl) rfl (fle_refl _))
abbrev ranks_stretches_1_it_r1:List LO:=[lo 4 (.assign (.const (.slice none 0 0))) 31]
abbrev ranks_stretches_1_it_r2:List LO:=[lo 9 (.load 22 (.tmp 1)) 22,lo 10 (.load 22 (.tmp 2)) 22,lo 11 (.buildSlice 42 2 #[(0,.tmp 9),(1,.tmp 10)]) 42,lo 12 (.call ⟨.value (.func 68),#[.tmp 11],#[42]⟩) 22,lo 13 (.call ⟨.builtin .len,#[.tmp 12],#[22]⟩) 3,lo 14 (.move (.const (.int .i64 0))) 3]
abbrev ranks_stretches_1_it_r3:List LO:=[lo 15 (.binOp .lss 3 (.tmp 14) (.tmp 13) 3) 0]
abbrev ranks_stretches_1_it_r4:List LO:=[lo 16 (.indexAddr 22 (.tmp 12) (.tmp 14)) 0,lo 17 (.load 45 (.tmp 16)) 45,lo 6 (.alloc 45) 0,ln (.store 45 (.tmp 6) (.tmp 17)) 0]
abbrev ranks_stretches_1_it_r5:List LO:=[lm 18 4 31,lo 19 (.fieldAddr 45 (.tmp 6) 0) 0,lo 20 (.load 3 (.tmp 19)) 3,lo 21 (.fieldAddr 45 (.tmp 6) 1) 0,lo 22 (.load 3 (.tmp 21)) 3,lo 23 (.buildSlice 31 2 #[(0,.tmp 20),(1,.tmp 22)]) 31,lo 24 (.call ⟨.builtin .append,#[.tmp 18,.tmp 23],#[31,31]⟩) 31,lo 4 (.assign (.tmp 24)) 31]
abbrev ranks_stretches_1_it_r6:List LO:=[lo 25 (.binOp .add 3 (.tmp 14) (.const (.int .i64 1)) 3) 3,lm 14 25 3]
abbrev ranks_stretches_1_it_r7:List LO:=[lm 26 4 31,lo 27 (.call ⟨.value (.func 46),#[.tmp 26],#[31]⟩) 0]
abbrev ranks_stretches_1_it_r8:List LO:=[lm 28 4 31,lo 29 (.call ⟨.value (.func 47),#[.tmp 28],#[31]⟩) 31,lo 4 (.assign (.tmp 29)) 31]
abbrev ranks_stretches_1_it_r9:List LO:=[lo 7 (.assign (.const (.int .i64 1))) 3]
abbrev ranks_stretches_1_it_r10:List LO:=[lm 30 7 3,lm 31 4 31,lo 32 (.call ⟨.builtin .len,#[.tmp 31],#[31]⟩) 3,lo 33 (.binOp .lss 3 (.tmp 30) (.tmp 32) 3) 4]
abbrev ranks_stretches_1_it_r11:List LO:=[lm 36 4 31,lm 37 7 3,lo 38 (.binOp .sub 3 (.tmp 37) (.const (.int .i64 1)) 3) 3,lo 39 (.indexAddr 31 (.tmp 36) (.tmp 38)) 0,lo 40 (.load 3 (.tmp 39)) 3,lm 41 4 31,lm 42 7 3,lo 43 (.indexAddr 31 (.tmp 41) (.tmp 42)) 0,lo 44 (.load 3 (.tmp 43)) 3,lo 45 (.build 45 #[(0,.tmp 40),(1,.tmp 44)]) 45,lo 8 (.alloc 45) 0,ln (.store 45 (.tmp 8) (.tmp 45)) 0]
abbrev ranks_stretches_1_it_r12:List LO:=[lm 46 0 81,lo 47 (.load 45 (.tmp 8)) 45,lo 48 (.load 22 (.tmp 1)) 22,lo 49 (.fieldAddr 45 (.tmp 8) 0) 0,lo 50 (.load 3 (.tmp 49)) 3,lo 51 (.call ⟨.value (.func 28),#[.tmp 48,.tmp 50],#[22,3]⟩) 4,lo 52 (.load 22 (.tmp 2)) 22,lo 53 (.fieldAddr 45 (.tmp 8) 0) 0,lo 54 (.load 3 (.tmp 53)) 3,lo 55 (.call ⟨.value (.func 28),#[.tmp 52,.tmp 54],#[22,3]⟩) 4,lo 56 (.build 64 #[(0,.tmp 47),(1,.tmp 51),(2,.tmp 55)]) 64,lo 57 (.call ⟨.value (.tmp 46),#[.tmp 56],#[64]⟩) 4,lo 58 (.unOp .not 4 (.tmp 57)) 4]
abbrev ranks_stretches_1_it_r13:List LO:=[lm 34 7 3,lo 35 (.binOp .add 3 (.tmp 34) (.const (.int .i64 1)) 3) 3,lo 7 (.assign (.tmp 35)) 3]
noncomputable abbrev ranks_stretches_1_it_c:LC:=.seq (.reg false ranks_stretches_1_it_r1) (.seq (.seq (.reg false ranks_stretches_1_it_r2) (.block 0 (.loop (.seq (.reg false ranks_stretches_1_it_r3) (.seq (.cond (.tmp 15) .skip (.exit 0)) (.seq (.block 1 (.seq (.reg false ranks_stretches_1_it_r4) (.reg false ranks_stretches_1_it_r5))) (.reg false ranks_stretches_1_it_r6))))))) (.seq (.reg false ranks_stretches_1_it_r7) (.seq (.reg false ranks_stretches_1_it_r8) (.seq (.reg false ranks_stretches_1_it_r9) (.block 2 (.loop (.seq (.seq (.reg false ranks_stretches_1_it_r10) (.cond (.tmp 33) .skip (.exit 2))) (.seq (.block 3 (.seq (.full (regOps (codeSub (bodyOf Go.Proofs.Tryd.f67) [1,1,1,1,1,0,0,1,0,0,0]))) (.seq (.reg true ranks_stretches_1_it_r12) (.cond (.tmp 58) .ret .skip)))) (.reg false ranks_stretches_1_it_r13)))))))))
theorem ranks_stretches_1_it_k:FnOk E 67 59 [] ranks_stretches_1_it_c:=⟨⟨Go.Proofs.Tryd.f67,by kernel_rfl,by kernel_rfl,by kernel_rfl,by kernel_rfl,by kernel_rfl⟩,rfl,rfl⟩
abbrev ranks_Meet_1_r1:List LO:=[lo 4 (.assign (.const (.bool false))) 4]
abbrev ranks_Meet_1_r2:List LO:=[lm 5 0 4,lm 6 5 4,lmg 7 1 4 6 true,lo 8 (.pick (.tmp 6) (.tmp 7) (.const (.bool false))) 4,lo 4 (.assign (.tmp 8)) 4]
abbrev ranks_Meet_1_c:LC:=.seq (.reg false ranks_Meet_1_r1) (.seq (.reg false ranks_Meet_1_r2) .ret)
theorem ranks_Meet_1_k:FnOk E 41 9 [.tmp 4] ranks_Meet_1_c:=⟨⟨Go.Proofs.Tryd.f41,by kernel_rfl,by kernel_rfl,by kernel_rfl,by kernel_rfl,by kernel_rfl⟩,rfl,rfl⟩
noncomputable def ranks_Meet_1 (a0:Bool) (a1:Bool):Option (Bool):=some (a0 && a1)
theorem ranks_Meet_1_ok (a0:Bool) (a1:Bool):Ct E 41 [bv a0,bv a1] (ranks_Meet_1 a0 a1) (fun r:Bool=>bv r):=ct_intro (N:=9) (L:=ranks_Meet_1_c) ranks_Meet_1_k rfl (Nat.le_of_ble_eq_true rfl) (by kernel_rfl) (by
 unfold ranks_Meet_1
 refine jS ⟨[V 0 (bv a0),V 1 (bv a1)],[],0⟩ ?_
 refine jS ⟨[V 4 (bv (a0 && a1))],[],0⟩ ?_
 refine jc_ret ?_
 exact jx_retF (.inr rfl) (v:=bv (a0 && a1)) (by kernel_rfl) rfl (fle_refl _))
abbrev ranks_stretches_r1:List LO:=[lo 2 (.box 22 (.tmp 0)) 0,lo 3 (.box 22 (.tmp 1)) 0,lo 4 (.assign (.const .nilFunc)) 61]
abbrev ranks_stretches_r2:List LO:=[lo 5 (.makeFunc (Fn.func 67) #[] #[.tmp 2,.tmp 3]) 60,lo 4 (.assign (.tmp 5)) 61]
abbrev ranks_stretches_c:LC:=.seq (.reg false ranks_stretches_r1) (.seq (.reg false ranks_stretches_r2) .ret)
theorem ranks_stretches_k:FnOk E 56 6 [.tmp 4] ranks_stretches_c:=⟨⟨Go.Proofs.Tryd.f56,by kernel_rfl,by kernel_rfl,by kernel_rfl,by kernel_rfl,by kernel_rfl⟩,rfl,rfl⟩
noncomputable def ranks_stretches (a0:(List S_api_Span)) (a1:(List S_api_Span)):Option (List S_api_Span × List S_api_Span):=some (a0,a1)
theorem ranks_stretches_ok (a0:(List S_api_Span)) (a1:(List S_api_Span)):Ct E 56 [.fsl 2 (List.map c_S_api_Span a0),.fsl 2 (List.map c_S_api_Span a1)] (ranks_stretches a0 a1) (fun r:List S_api_Span × List S_api_Span=>.fn 67 [.fptr [.fsl 2 (List.map c_S_api_Span r.1)] 0,.fptr [.fsl 2 (List.map c_S_api_Span r.2)] 0]):=ct_intro (N:=6) (L:=ranks_stretches_c) ranks_stretches_k rfl (Nat.le_of_ble_eq_true rfl) (by kernel_rfl) (by
 unfold ranks_stretches
 refine jS ⟨[V 2 (pt 0 1),V 3 (pt 1 1)],[W 0 1 [.fsl 2 (List.map c_S_api_Span a0)],W 1 1 [.fsl 2 (List.map c_S_api_Span a1)]],2⟩ ?_
 refine jS ⟨[V 4 (.fn 67 [pt 0 1,pt 1 1])],[W 0 1 [.fsl 2 (List.map c_S_api_Span a0)],W 1 1 [.fsl 2 (List.map c_S_api_Span a1)]],2⟩ ?_
 refine jc_ret ?_
 exact jx_retF (.inr rfl) (v:=.fn 67 [pt 0 1,pt 1 1]) (u:=.fn 67 [.fptr [.fsl 2 (List.map c_S_api_Span a0)] 0,.fptr [.fsl 2 (List.map c_S_api_Span a1)] 0]) (q:=true) (by kernel_rfl) (by kernel_rfl) (fle_refl _))
abbrev slices_Grow_api_Span_api_Span_r1:List LO:=[lo 4 (.assign (.const (.slice none 0 0))) 22]
abbrev slices_Grow_api_Span_api_Span_r2:List LO:=[lm 5 1 3,lo 6 (.binOp .lss 3 (.tmp 5) (.const (.int .i64 0)) 3) 4]
abbrev slices_Grow_api_Span_api_Span_r3:List LO:=[lo 7 (.makeInterface 9 (.const (.string ⟨#[99,97,110,110,111,116,32,98,101,32,110,101,103,97,116,105,118,101]⟩))) 20,ln (.panic (.tmp 7)) 0]
abbrev slices_Grow_api_Span_api_Span_r4:List LO:=[lm 8 1 3,lm 9 0 22,lo 10 (.call ⟨.builtin .cap,#[.tmp 9],#[22]⟩) 3,lm 11 0 22,lo 12 (.call ⟨.builtin .len,#[.tmp 11],#[22]⟩) 3,lo 13 (.binOp .sub 3 (.tmp 10) (.tmp 12) 3) 3,lo 14 (.binOp .sub 3 (.tmp 8) (.tmp 13) 3) 3,lo 1 (.assign (.tmp 14)) 3]
abbrev slices_Grow_api_Span_api_Span_r5:List LO:=[lm 15 1 3,lo 16 (.binOp .gtr 3 (.tmp 15) (.const (.int .i64 0)) 3) 4]
abbrev slices_Grow_api_Span_api_Span_r6:List LO:=[lm 17 0 22,lm 18 0 22,lo 19 (.call ⟨.builtin .cap,#[.tmp 18],#[22]⟩) 3,lo 20 (.slice 22 (.tmp 17) none (some (.tmp 19)) none) 22,lm 21 1 3,lo 22 (.call ⟨.builtin .append,#[.tmp 20,.tmp 21],#[22,3]⟩) 22,lm 23 0 22,lo 24 (.call ⟨.builtin .len,#[.tmp 23],#[22]⟩) 3,lo 25 (.slice 22 (.tmp 22) none (some (.tmp 24)) none) 22,lo 0 (.assign (.tmp 25)) 22]
abbrev slices_Grow_api_Span_api_Span_r7:List LO:=[lm 26 0 22,lo 4 (.assign (.tmp 26)) 22]
abbrev slices_Grow_api_Span_api_Span_c:LC:=.seq (.reg false slices_Grow_api_Span_api_Span_r1) (.seq (.seq (.reg false slices_Grow_api_Span_api_Span_r2) (.cond (.tmp 6) (.reg false slices_Grow_api_Span_api_Span_r3) .skip)) (.seq (.seq (.reg false slices_Grow_api_Span_api_Span_r4) (.seq (.reg false slices_Grow_api_Span_api_Span_r5) (.cond (.tmp 16) (.reg false slices_Grow_api_Span_api_Span_r6) .skip))) (.seq (.reg false slices_Grow_api_Span_api_Span_r7) .ret)))
theorem slices_Grow_api_Span_api_Span_k:FnOk E 83 27 [.tmp 4] slices_Grow_api_Span_api_Span_c:=⟨⟨Go.Proofs.Tryd.f83,by kernel_rfl,by kernel_rfl,by kernel_rfl,by kernel_rfl,by kernel_rfl⟩,rfl,rfl⟩
abbrev slices_Grow_api_Span_api_Span_T (a0:Int) (r:List S_api_Span):CS:=⟨[V 4 (.osl 0 0 (List.length r) 2)],[(0,.rows 2 (List.map c_S_api_Span r))],1⟩
noncomputable def slices_Grow_api_Span_api_Span (a0:Int):Option (List S_api_Span):=Option.bind ((if (decide (a0 < 0))=true then none else some ()):Option (Unit)) (fun _=>Option.bind ((if (decide ((w64 (a0 - (w64 (0 - 0)))) > 0))=true then Option.bind (growO 16 (S_api_Span.mk 0 0) (w64 (a0 - (w64 (0 - 0))))) (fun x8=>Option.bind (subl x8 0 0) (fun x9=>some x9)) else some []):Option (List S_api_Span)) (fun x7=>some x7))
theorem slices_Grow_api_Span_api_Span_ok (a0:Int):CtM E 83 [nilS,iv a0] [] 0 (slices_Grow_api_Span_api_Span a0) (fun r:List S_api_Span=>.osl 0 0 (List.length r) 2) (fun r:List S_api_Span=>[(0,.rows 2 (List.map c_S_api_Span r))]) 1:=ctm_intro (N:=27) (L:=slices_Grow_api_Span_api_Span_c) slices_Grow_api_Span_api_Span_k rfl (Nat.le_of_ble_eq_true rfl) (fun F hF=>by
 unfold slices_Grow_api_Span_api_Span
 refine jS ⟨[V 0 (nilS),V 1 (iv a0)],[],0⟩ ?_
 refine jc_seq ?_
 refine jc_bind (fun _=>⟨[V 0 (nilS),V 1 (iv a0)],[],0⟩) (fun _=>.normal) ?_ ?_
 ·refine jS ⟨[V 0 (nilS),V 1 (iv a0),V 6 (bv (decide (a0 < 0)))],[],0⟩ ?_
  refine jIf ?_ ?_
  ·refine jc_reg ?_
   exact jr_none
  refine jc_skip ?_
  exact jx_mid rfl (wkR [] (fix_of hF (k:=0) rfl) allp_nil)
 intro _
 refine jx_seqN ?_
 refine jc_seq ?_
 refine jc_bind (fun x7=>⟨[V 0 (.osl 0 0 (List.length x7) 2)],[(0,.rows 2 (List.map c_S_api_Span x7))],1⟩) (fun x7=>.normal) ?_ ?_
 ·refine jS ⟨[V 0 (nilS),V 1 (iv (w64 (a0 - (w64 (0 - 0)))))],[],0⟩ ?_
  refine jS ⟨[V 0 (nilS),V 1 (iv (w64 (a0 - (w64 (0 - 0))))),V 16 (bv (decide ((w64 (a0 - (w64 (0 - 0)))) > 0)))],[],0⟩ ?_
  refine jIf ?_ ?_
  ·refine jc_reg ?_
   refine jG 0 5 ⟨[V 0 (nilS),V 20 (nilS),V 21 (iv (w64 (a0 - (w64 (0 - 0)))))],[],0⟩ ?_
   refine jr_part (i:=5) (mo:=growO 16 (S_api_Span.mk 0 0) (w64 (a0 - (w64 (0 - 0))))) rfl rfl rfl rfl (fun _ hc=>aop_grow (c:=c_S_api_Span) (zv:=(S_api_Span.mk 0 0)) (e:=45) (sz:=2) (b:=16) (k:=.i64) (kk:=.i64) (by kernel_rfl) (by kernel_rfl) (by kernel_rfl) (by kernel_rfl) (by kernel_rfl) (by kernel_rfl) (by kernel_rfl) (by kernel_rfl) hc) (fun _=>rfl) ?_
   intro x8 h8
   refine jG 6 2 ⟨[V 22 (.osl 0 0 (List.length x8) 2),V 24 (iv 0)],[(0,.rows 2 (List.map c_S_api_Span x8))],1⟩ ?_
   refine jr_part (i:=8) (mo:=subl x8 0 0) rfl rfl rfl rfl (fun _ hc=>aop_subo (l:=x8) (e:=45) (id:=0) (off:=0) (sz:=2) (by kernel_rfl) (by kernel_rfl) (by kernel_rfl) (by kernel_rfl) (by kernel_rfl) hc) (fun _=>rfl) ?_
   intro x9 h9
   refine jr_root (d:=25) (j:=0) (k:=0 + Int.toNat 0) (len:=List.length x9) (sz:=2) (rows:=List.map c_S_api_Span x8) (rows':=List.map c_S_api_Span x9) (by kernel_rfl) (by kernel_rfl) (subl_kle h9) (subl_rows0 h9) ?_
   refine jG 9 1 ⟨[V 0 (.osl 1 0 (List.length x9) 2)],[(1,.rows 2 (List.map c_S_api_Span x9))],2⟩ ?_
   refine jr_nil rfl ?_
   exact jx_mid rfl (wkR [(0,some 1)] (fix_of hF (k:=0) rfl) (pc (hL 1 (noid_map ni_S_api_Span _)) allp_nil))
  refine jc_skip ?_
  exact jx_mid rfl (wkR [(0,none)] (fix_of hF (k:=0) rfl) (pc hZ allp_nil))
 intro x7
 refine jx_seqN ?_
 refine jS ⟨[V 4 (.osl 0 0 (List.length x7) 2)],[(0,.rows 2 (List.map c_S_api_Span x7))],1⟩ ?_
 refine jc_ret ?_
 exact jx_retM (slices_Grow_api_Span_api_Span_T a0 x7) (.inr rfl) (wkR [(0,some 0)] (fix_of hF (k:=0) rfl) (pc (hL 0 (noid_map ni_S_api_Span _)) allp_nil)))
abbrev slices_Concat_api_Span_api_Span_r1:List LO:=[lo 2 (.assign (.const (.slice none 0 0))) 22]
abbrev slices_Concat_api_Span_api_Span_r2:List LO:=[lo 3 (.assign (.const (.int .i64 0))) 3]
abbrev slices_Concat_api_Span_api_Span_r3:List LO:=[lm 9 0 42,lo 10 (.call ⟨.builtin .len,#[.tmp 9],#[42]⟩) 3,lo 11 (.move (.const (.int .i64 0))) 3]
abbrev slices_Concat_api_Span_api_Span_r4:List LO:=[lo 12 (.binOp .lss 3 (.tmp 11) (.tmp 10) 3) 0]
abbrev slices_Concat_api_Span_api_Span_r5:List LO:=[lo 13 (.indexAddr 42 (.tmp 9) (.tmp 11)) 0,lo 14 (.load 22 (.tmp 13)) 22,lo 5 (.assign (.tmp 14)) 22]
abbrev slices_Concat_api_Span_api_Span_r6:List LO:=[lm 15 3 3,lm 16 5 22,lo 17 (.call ⟨.builtin .len,#[.tmp 16],#[22]⟩) 3,lo 18 (.binOp .add 3 (.tmp 15) (.tmp 17) 3) 3,lo 3 (.assign (.tmp 18)) 3]
abbrev slices_Concat_api_Span_api_Span_r7:List LO:=[lm 19 3 3,lo 20 (.binOp .lss 3 (.tmp 19) (.const (.int .i64 0)) 3) 4]
abbrev slices_Concat_api_Span_api_Span_r8:List LO:=[lo 21 (.makeInterface 9 (.const (.string ⟨#[108,101,110,32,111,117,116,32,111,102,32,114,97,110,103,101]⟩))) 20,ln (.panic (.tmp 21)) 0]
abbrev slices_Concat_api_Span_api_Span_r9:List LO:=[lo 22 (.binOp .add 3 (.tmp 11) (.const (.int .i64 1)) 3) 3,lm 11 22 3]
abbrev slices_Concat_api_Span_api_Span_r10:List LO:=[lm 23 3 3,lo 24 (.call ⟨.value (.func 83),#[.const (.slice none 0 0),.tmp 23],#[22,3]⟩) 22,lo 6 (.assign (.tmp 24)) 22]
abbrev slices_Concat_api_Span_api_Span_r11:List LO:=[lm 25 0 42,lo 26 (.call ⟨.builtin .len,#[.tmp 25],#[42]⟩) 3,lo 27 (.move (.const (.int .i64 0))) 3]
abbrev slices_Concat_api_Span_api_Span_r12:List LO:=[lo 28 (.binOp .lss 3 (.tmp 27) (.tmp 26) 3) 0]
abbrev slices_Concat_api_Span_api_Span_r13:List LO:=[lo 29 (.indexAddr 42 (.tmp 25) (.tmp 27)) 0,lo 30 (.load 22 (.tmp 29)) 22,lo 8 (.assign (.tmp 30)) 22]
abbrev slices_Concat_api_Span_api_Span_r14:List LO:=[lm 31 6 22,lm 32 8 22,lo 33 (.call ⟨.builtin .append,#[.tmp 31,.tmp 32],#[22,22]⟩) 22,lo 6 (.assign (.tmp 33)) 22]
abbrev slices_Concat_api_Span_api_Span_r15:List LO:=[lo 34 (.binOp .add 3 (.tmp 27) (.const (.int .i64 1)) 3) 3,lm 27 34 3]
abbrev slices_Concat_api_Span_api_Span_r16:List LO:=[lm 35 6 22,lo 2 (.assign (.tmp 35)) 22]
abbrev slices_Concat_api_Span_api_Span_c:LC:=.seq (.reg false slices_Concat_api_Span_api_Span_r1) (.seq (.reg false slices_Concat_api_Span_api_Span_r2) (.seq (.seq (.reg false slices_Concat_api_Span_api_Span_r3) (.block 0 (.loop (.seq (.reg false slices_Concat_api_Span_api_Span_r4) (.seq (.cond (.tmp 12) .skip (.exit 0)) (.seq (.block 1 (.seq (.reg false slices_Concat_api_Span_api_Span_r5) (.seq (.reg false slices_Concat_api_Span_api_Span_r6) (.seq (.reg false slices_Concat_api_Span_api_Span_r7) (.cond (.tmp 20) (.reg false slices_Concat_api_Span_api_Span_r8) .skip))))) (.reg false slices_Concat_api_Span_api_Span_r9))))))) (.seq (.reg false slices_Concat_api_Span_api_Span_r10) (.seq (.seq (.reg false slices_Concat_api_Span_api_Span_r11) (.block 2 (.loop (.seq (.reg false slices_Concat_api_Span_api_Span_r12) (.seq (.cond (.tmp 28) .skip (.exit 2)) (.seq (.block 3 (.seq (.reg false slices_Concat_api_Span_api_Span_r13) (.reg false slices_Concat_api_Span_api_Span_r14))) (.reg false slices_Concat_api_Span_api_Span_r15))))))) (.seq (.reg false slices_Concat_api_Span_api_Span_r16) .ret)))))
theorem slices_Concat_api_Span_api_Span_k:FnOk E 68 36 [.tmp 2] slices_Concat_api_Span_api_Span_c:=⟨⟨Go.Proofs.Tryd.f68,by kernel_rfl,by kernel_rfl,by kernel_rfl,by kernel_rfl,by kernel_rfl⟩,rfl,rfl⟩
noncomputable def slices_Concat_api_Span_api_Span_l1 (a0:List (List S_api_Span)):(Int × Int)→Option (Step (Int × Int) (Int)):=fun (x23,x24)=>(if (decide (x24 < (List.length a0:Int)))=true then Option.bind (Option.bind (ixl a0 x24) (fun x32=>(if (decide ((w64 (x23 + (List.length x32:Int))) < 0))=true then none else some (w64 (x23 + (List.length x32:Int))))):Option (Int)) (fun x31=>some (Step.next (x31,(w64 (x24 + 1))))) else some (Step.done x23))
noncomputable def slices_Concat_api_Span_api_Span_l2 (a0:List (List S_api_Span)):(List S_api_Span × Int)→Option (Step (List S_api_Span × Int) (List S_api_Span)):=fun (x36,x37)=>(if (decide (x37 < (List.length a0:Int)))=true then Option.bind (ixl a0 x37) (fun x43=>Option.bind (app 16 x36 x43) (fun x44=>some (Step.next (x44,(w64 (x37 + 1)))))) else some (Step.done x36))
abbrev slices_Concat_api_Span_api_Span_T (a0:List (List S_api_Span)) (r:List S_api_Span):CS:=⟨[V 2 (.osl 1 0 (List.length r) 2)],[(0,.rows 1 (List.map c_L45 a0)),(1,.rows 2 (List.map c_S_api_Span r))],2⟩
noncomputable def slices_Concat_api_Span_api_Span (a0:List (List S_api_Span)):Option (List S_api_Span):=Option.bind (loopC (slices_Concat_api_Span_api_Span_l1 a0) (0,0)) (fun x29=>Option.bind (slices_Grow_api_Span_api_Span x29) (fun x33=>Option.bind (loopC (slices_Concat_api_Span_api_Span_l2 a0) (x33,0)) (fun x42=>some x42)))
theorem slices_Concat_api_Span_api_Span_ok (a0:List (List S_api_Span)):CtM E 68 [.osl 0 0 (List.length a0) 1] [(0,.rows 1 (List.map c_L45 a0))] 1 (slices_Concat_api_Span_api_Span a0) (fun r:List S_api_Span=>.osl 1 0 (List.length r) 2) (fun r:List S_api_Span=>[(0,.rows 1 (List.map c_L45 a0)),(1,.rows 2 (List.map c_S_api_Span r))]) 2:=ctm_intro (N:=36) (L:=slices_Concat_api_Span_api_Span_c) slices_Concat_api_Span_api_Span_k rfl (Nat.le_of_ble_eq_true rfl) (fun F hF=>by
 unfold slices_Concat_api_Span_api_Span
 refine jS ⟨[V 0 (.osl 0 0 (List.length a0) 1)],[(0,.rows 1 (List.map c_L45 a0))],1⟩ ?_
 refine jS ⟨[V 0 (.osl 0 0 (List.length a0) 1),V 3 (iv 0)],[(0,.rows 1 (List.map c_L45 a0))],1⟩ ?_
 refine jc_seq ?_
 refine jS ⟨[V 0 (.osl 0 0 (List.length a0) 1),V 3 (iv 0),V 9 (.osl 0 0 (List.length a0) 1),V 10 (iv (List.length a0:Int)),V 11 (iv 0)],[(0,.rows 1 (List.map c_L45 a0))],1⟩ ?_
 refine jc_block ?_
 refine jc_bind (fun x29=>⟨[V 0 (.osl 0 0 (List.length a0) 1),V 3 (iv x29)],[(0,.rows 1 (List.map c_L45 a0))],1⟩) (fun x29=>(.exit 0)) (jc_loop (fun (x23,x24)=>⟨[V 0 (.osl 0 0 (List.length a0) 1),V 3 (iv x23),V 9 (.osl 0 0 (List.length a0) 1),V 10 (iv (List.length a0:Int)),V 11 (iv x24)],[(0,.rows 1 (List.map c_L45 a0))],1⟩) (wkR [(0,some 0)] (fix_of hF (k:=1) rfl) (pc (hL 0 (noid_map ni_L45 _)) allp_nil)) ?_) ?_
 ·rintro⟨x23,x24⟩
  unfold slices_Concat_api_Span_api_Span_l1
  refine jS ⟨[V 0 (.osl 0 0 (List.length a0) 1),V 3 (iv x23),V 9 (.osl 0 0 (List.length a0) 1),V 10 (iv (List.length a0:Int)),V 11 (iv x24),V 12 (bv (decide (x24 < (List.length a0:Int))))],[(0,.rows 1 (List.map c_L45 a0))],1⟩ ?_
  refine jc_seq ?_
  refine jIf ?_ ?_
  ·refine jc_skip ?_
   refine jx_seqN ?_
   refine jc_seq ?_
   refine jc_bind (fun x31=>⟨[V 0 (.osl 0 0 (List.length a0) 1),V 3 (iv x31),V 9 (.osl 0 0 (List.length a0) 1),V 10 (iv (List.length a0:Int)),V 11 (iv x24)],[(0,.rows 1 (List.map c_L45 a0))],1⟩) (fun x31=>.normal) ?_ ?_
   ·refine jc_block ?_
    refine jR ?_
    refine jr_part (i:=0) (mo:=ixl a0 x24) rfl rfl rfl rfl (fun _ hc=>aop_ixo0 (sz:=1) (e:=22) (kk:=.i64) (id:=0) (by kernel_rfl) (by kernel_rfl) (by kernel_rfl) (by kernel_rfl) hc) (fun _=>rfl) ?_
    intro x32 h32
    refine jr_one (i:=1) (v:=.fsl 2 (List.map c_S_api_Span x32)) rfl rfl rfl rfl (aop_ldo (l:=a0) (c:=c_L45) (id:=0) (k:=(Int.toNat x24)) (sz:=1) (off:=0) (a:=x32) (by kernel_rfl) (by kernel_rfl) (ixl_lt h32).2.2 (by kernel_rfl)) rfl ?_
    refine jG 2 1 ⟨[V 0 (.osl 0 0 (List.length a0) 1),V 3 (iv x23),V 5 (.fsl 2 (List.map c_S_api_Span x32)),V 9 (.osl 0 0 (List.length a0) 1),V 10 (iv (List.length a0:Int)),V 11 (iv x24)],[(0,.rows 1 (List.map c_L45 a0))],1⟩ ?_
    refine jN ?_
    refine jR ?_
    refine jG 0 5 ⟨[V 0 (.osl 0 0 (List.length a0) 1),V 3 (iv (w64 (x23 + (List.length (List.map c_S_api_Span x32):Int)))),V 9 (.osl 0 0 (List.length a0) 1),V 10 (iv (List.length a0:Int)),V 11 (iv x24)],[(0,.rows 1 (List.map c_L45 a0))],1⟩ ?_
    simp only[List.length_map]
    refine jN ?_
    refine jS ⟨[V 0 (.osl 0 0 (List.length a0) 1),V 3 (iv (w64 (x23 + (List.length x32:Int)))),V 9 (.osl 0 0 (List.length a0) 1),V 10 (iv (List.length a0:Int)),V 11 (iv x24),V 20 (bv (decide ((w64 (x23 + (List.length x32:Int))) < 0)))],[(0,.rows 1 (List.map c_L45 a0))],1⟩ ?_
    refine jIf ?_ ?_
    ·refine jc_reg ?_
     exact jr_none
    refine jc_skip ?_
    refine jx_blkN ?_
    exact jx_mid rfl (wkR [(0,some 0)] (fix_of hF (k:=1) rfl) (pc (hL 0 (noid_map ni_L45 _)) allp_nil))
   intro x31
   refine jx_seqN ?_
   refine jT ⟨[V 0 (.osl 0 0 (List.length a0) 1),V 3 (iv x31),V 9 (.osl 0 0 (List.length a0) 1),V 10 (iv (List.length a0:Int)),V 11 (iv (w64 (x24 + 1)))],[(0,.rows 1 (List.map c_L45 a0))],1⟩ ?_
   exact jx_next (wkR [(0,some 0)] (fix_of hF (k:=1) rfl) (pc (hL 0 (noid_map ni_L45 _)) allp_nil))
  refine jc_exit ?_
  refine jx_seqE ?_
  exact jx_done rfl nofun (wkR [(0,some 0)] (fix_of hF (k:=1) rfl) (pc (hL 0 (noid_map ni_L45 _)) allp_nil))
 intro x29
 refine jx_blkE ?_
 refine jx_seqN ?_
 refine jR ?_
 refine jG 0 1 ⟨[V 0 (.osl 0 0 (List.length a0) 1),V 23 (iv x29)],[(0,.rows 1 (List.map c_L45 a0))],1⟩ ?_
 refine jr_callM 1 [] [(1,some 0)] (fun r:List S_api_Span=>[(0,.rows 1 (List.map c_L45 a0)),(1,.rows 2 (List.map c_S_api_Span r))]) (fun r:List S_api_Span=>.osl 1 0 (List.length r) 2) 2 (slices_Grow_api_Span_api_Span_ok x29) allp_nil (fun r=>(pc (.inl ⟨rfl,rfl⟩) (pc (.inr (hL 0 (noid_map ni_S_api_Span _))) allp_nil))) ?_
 rintro x33 hm2
 refine jG 2 1 ⟨[V 0 (.osl 0 0 (List.length a0) 1),V 6 (.osl 1 0 (List.length x33) 2)],[(0,.rows 1 (List.map c_L45 a0)),(1,.rows 2 (List.map c_S_api_Span x33))],2⟩ ?_
 refine jN ?_
 refine jc_seq ?_
 refine jS ⟨[V 6 (.osl 1 0 (List.length x33) 2),V 25 (.osl 0 0 (List.length a0) 1),V 26 (iv (List.length a0:Int)),V 27 (iv 0)],[(0,.rows 1 (List.map c_L45 a0)),(1,.rows 2 (List.map c_S_api_Span x33))],2⟩ ?_
 refine jc_block ?_
 refine jc_bind (fun x42=>⟨[V 6 (.osl 1 0 (List.length x42) 2)],[(0,.rows 1 (List.map c_L45 a0)),(1,.rows 2 (List.map c_S_api_Span x42))],2⟩) (fun x42=>(.exit 2)) (jc_loop (fun (x36,x37)=>⟨[V 6 (.osl 1 0 (List.length x36) 2),V 25 (.osl 0 0 (List.length a0) 1),V 26 (iv (List.length a0:Int)),V 27 (iv x37)],[(0,.rows 1 (List.map c_L45 a0)),(1,.rows 2 (List.map c_S_api_Span x36))],2⟩) (wkR [(0,some 0),(1,some 1)] (fix_of hF (k:=1) rfl) (pc (hL 0 (noid_map ni_L45 _)) (pc (hL 1 (noid_map ni_S_api_Span _)) allp_nil))) ?_) ?_
 ·rintro⟨x36,x37⟩
  unfold slices_Concat_api_Span_api_Span_l2
  refine jS ⟨[V 6 (.osl 1 0 (List.length x36) 2),V 25 (.osl 0 0 (List.length a0) 1),V 26 (iv (List.length a0:Int)),V 27 (iv x37),V 28 (bv (decide (x37 < (List.length a0:Int))))],[(0,.rows 1 (List.map c_L45 a0)),(1,.rows 2 (List.map c_S_api_Span x36))],2⟩ ?_
  refine jc_seq ?_
  refine jIf ?_ ?_
  ·refine jc_skip ?_
   refine jx_seqN ?_
   refine jc_seq ?_
   refine jc_block ?_
   refine jR ?_
   refine jr_part (i:=0) (mo:=ixl a0 x37) rfl rfl rfl rfl (fun _ hc=>aop_ixo0 (sz:=1) (e:=22) (kk:=.i64) (id:=0) (by kernel_rfl) (by kernel_rfl) (by kernel_rfl) (by kernel_rfl) hc) (fun _=>rfl) ?_
   intro x43 h43
   refine jr_one (i:=1) (v:=.fsl 2 (List.map c_S_api_Span x43)) rfl rfl rfl rfl (aop_ldo (l:=a0) (c:=c_L45) (id:=0) (k:=(Int.toNat x37)) (sz:=1) (off:=0) (a:=x43) (by kernel_rfl) (by kernel_rfl) (ixl_lt h43).2.2 (by kernel_rfl)) rfl ?_
   refine jG 2 1 ⟨[V 6 (.osl 1 0 (List.length x36) 2),V 8 (.fsl 2 (List.map c_S_api_Span x43)),V 25 (.osl 0 0 (List.length a0) 1),V 26 (iv (List.length a0:Int)),V 27 (iv x37)],[(0,.rows 1 (List.map c_L45 a0)),(1,.rows 2 (List.map c_S_api_Span x36))],2⟩ ?_
   refine jN ?_
   refine jc_reg ?_
   refine jG 0 2 ⟨[V 25 (.osl 0 0 (List.length a0) 1),V 26 (iv (List.length a0:Int)),V 27 (iv x37),V 31 (.osl 1 0 (List.length x36) 2),V 32 (.fsl 2 (List.map c_S_api_Span x43))],[(0,.rows 1 (List.map c_L45 a0)),(1,.rows 2 (List.map c_S_api_Span x36))],2⟩ ?_
   refine jr_two (i:=2) (C:=x43=[]) (st1:=fun x44=>⟨[V 25 (.osl 0 0 (List.length a0) 1),V 26 (iv (List.length a0:Int)),V 27 (iv x37),V 33 (.osl 2 0 (List.length x44) 2)],[(0,.rows 1 (List.map c_L45 a0)),(2,.rows 2 (List.map c_S_api_Span x44))],3⟩) rfl rfl rfl rfl (fun q _ hc=>aop_app (u:=.osl 1 0 (List.length x36) 2) (w:=.fsl 2 (List.map c_S_api_Span x43)) (e:=45) (td:=.slice 45) (by kernel_rfl) (by kernel_rfl) (by kernel_rfl) (by kernel_rfl) (.inl ⟨_,rfl⟩) (appendOf_own (c:=c_S_api_Span) (sz:=2) (b:=16) (id:=1) (by kernel_rfl) (by kernel_rfl) rows_fsl q hc)) (fun q _ hc=>aop_app (u:=.osl 1 0 (List.length x36) 2) (w:=.fsl 2 (List.map c_S_api_Span x43)) (e:=45) (td:=.slice 45) (by kernel_rfl) (by kernel_rfl) (by kernel_rfl) (by kernel_rfl) (.inl ⟨_,rfl⟩) (appendOf_same (c:=c_S_api_Span) (sz:=2) (b:=16) (m:=x43) (by kernel_rfl) (.inr (.inr ⟨_,_,_,_,rfl⟩)) rows_fsl q)) (fun _=>rfl) (fun _=>rfl) (fun _=>wkR [(0,some 0),(2,some 2)] (fix_of hF (k:=1) rfl) (pc (hL 0 (noid_map ni_L45 _)) (pc (hL 2 (noid_map ni_S_api_Span _)) allp_nil))) (fun q _ hc=>by cases app_same q hc; exact wkR [(0,some 0),(2,some 1)] (fix_of hF (k:=1) rfl) (pc (hL 0 (noid_map ni_L45 _)) (pc (hL 1 (noid_map ni_S_api_Span _)) allp_nil))) ?_
   intro x44 h44
   refine jG 3 1 ⟨[V 6 (.osl 2 0 (List.length x44) 2),V 25 (.osl 0 0 (List.length a0) 1),V 26 (iv (List.length a0:Int)),V 27 (iv x37)],[(0,.rows 1 (List.map c_L45 a0)),(2,.rows 2 (List.map c_S_api_Span x44))],3⟩ ?_
   refine jr_nil rfl ?_
   refine jx_blkN ?_
   refine jx_seqN ?_
   refine jT ⟨[V 6 (.osl 2 0 (List.length x44) 2),V 25 (.osl 0 0 (List.length a0) 1),V 26 (iv (List.length a0:Int)),V 27 (iv (w64 (x37 + 1)))],[(0,.rows 1 (List.map c_L45 a0)),(2,.rows 2 (List.map c_S_api_Span x44))],3⟩ ?_
   exact jx_next (wkR [(0,some 0),(1,some 2)] (fix_of hF (k:=1) rfl) (pc (hL 0 (noid_map ni_L45 _)) (pc (hL 2 (noid_map ni_S_api_Span _)) allp_nil)))
  refine jc_exit ?_
  refine jx_seqE ?_
  exact jx_done rfl nofun (wkR [(0,some 0),(1,some 1)] (fix_of hF (k:=1) rfl) (pc (hL 0 (noid_map ni_L45 _)) (pc (hL 1 (noid_map ni_S_api_Span _)) allp_nil)))
 intro x42
 refine jx_blkE ?_
 refine jx_seqN ?_
 refine jS ⟨[V 2 (.osl 1 0 (List.length x42) 2)],[(0,.rows 1 (List.map c_L45 a0)),(1,.rows 2 (List.map c_S_api_Span x42))],2⟩ ?_
 refine jc_ret ?_
 exact jx_retM (slices_Concat_api_Span_api_Span_T a0 x42) (.inr rfl) (wkR [(0,some 0),(1,some 1)] (fix_of hF (k:=1) rfl) (pc (hL 0 (noid_map ni_L45 _)) (pc (hL 1 (noid_map ni_S_api_Span _)) allp_nil))))
abbrev ranks_kept_sda67_r1:List LO:=[lo 5 (.box 47 (.tmp 2)) 0,lo 6 (.assign (.const (.slice none 0 0))) 22]
abbrev ranks_kept_sda67_r2:List LO:=[lo 7 (.alloc 22) 0]
abbrev ranks_kept_sda67_r3:List LO:=[lm 9 0 22,lm 10 1 22,lo 11 (.call ⟨.value (.func 56),#[.tmp 9,.tmp 10],#[22,22]⟩) 61]
abbrev ranks_kept_sda67_r4:List LO:=[lo 8 (.alloc 64) 0,ln (.store 64 (.tmp 8) (.tmp 12)) 0]
abbrev ranks_kept_sda67_r5:List LO:=[lo 13 (.load 47 (.tmp 5)) 47,lo 14 (.fieldAddr 64 (.tmp 8) 1) 0,lo 15 (.load 4 (.tmp 14)) 4,lo 16 (.fieldAddr 64 (.tmp 8) 2) 0,lo 17 (.load 4 (.tmp 16)) 4,lo 18 (.call ⟨.value (.tmp 13),#[.tmp 15,.tmp 17],#[4,4]⟩) 4]
abbrev ranks_kept_sda67_r6:List LO:=[lo 19 (.load 22 (.tmp 7)) 22,lo 20 (.fieldAddr 64 (.tmp 8) 0) 0,lo 21 (.load 45 (.tmp 20)) 45,lo 22 (.call ⟨.value (.func 48),#[.tmp 19,.tmp 21],#[22,45]⟩) 22,ln (.store 22 (.tmp 7) (.tmp 22)) 0]
noncomputable def ranks_kept_sda67_y7_a0:Code:=codeSub (bodyOf Go.Proofs.Tryd.f39) [1,1,0,1,0,0]
theorem ranks_kept_sda67_y7_aw:lower E ranks_kept_sda67_y7_a0=some (.reg false ranks_kept_sda67_r4):=by kernel_rfl
noncomputable def ranks_kept_sda67_y7_b0:Code:=codeSub (bodyOf Go.Proofs.Tryd.f39) [1,1,0,1,0,1]
theorem ranks_kept_sda67_y7_bw:lower E ranks_kept_sda67_y7_b0=some (.block 1 (.seq (.reg false ranks_kept_sda67_r5) (.cond (.tmp 18) (.reg false ranks_kept_sda67_r6) .skip))):=by kernel_rfl
abbrev ranks_kept_sda67_r8:List LO:=[lo 23 (.load 22 (.tmp 7)) 22,lo 6 (.assign (.tmp 23)) 22]
noncomputable abbrev ranks_kept_sda67_c:LC:=.seq (.reg false ranks_kept_sda67_r1) (.seq (.reg false ranks_kept_sda67_r2) (.seq (.seq (.reg false ranks_kept_sda67_r3) (.block 0 (.rng (.tmp 11) [12] ranks_kept_sda67_y7_a0 ranks_kept_sda67_y7_b0))) (.seq (.reg false ranks_kept_sda67_r8) .ret)))
theorem ranks_kept_sda67_k:FnOk E 39 24 [.tmp 6] ranks_kept_sda67_c:=⟨⟨Go.Proofs.Tryd.f39,by kernel_rfl,by kernel_rfl,by kernel_rfl,by kernel_rfl,by kernel_rfl⟩,rfl,rfl⟩
noncomputable abbrev ranks_kept_sda67_lp1 (x1:List S_api_Span × List S_api_Span) (q:LoopState) (p:Option Code):AObj:=.loop { state:=q,pending:=p,tmps:=tl 24 [V 5 (pt 0 1),V 7 (pt 1 1),V 11 (.fn 67 [.fptr [.fsl 2 (List.map c_S_api_Span x1.1)] 0,.fptr [.fsl 2 (List.map c_S_api_Span x1.2)] 0])] none,params:=[12],assign:=ranks_kept_sda67_y7_a0,body:=ranks_kept_sda67_y7_b0 }
noncomputable def ranks_kept_sda67_l1 (x2:List S_api_Span):(List Int × Int)→Option (Step (List Int × Int) (List Int)):=fun (x5,x6)=>(if (decide (x6 < (List.length x2:Int)))=true then Option.bind (ixl x2 x6) (fun x12=>Option.bind (app 8 x5 [x12.Lo,x12.Hi]) (fun x13=>some (Step.next (x13,(w64 (x6 + 1)))))) else some (Step.done x5))
noncomputable def ranks_kept_sda67_l2 (x1:List S_api_Span × List S_api_Span) (x15:List Int):(Int × List S_api_Span)→Option (Step (Int × List S_api_Span) (List S_api_Span)):=fun (x23,x24)=>(if (decide (x23 < (List.length x15:Int)))=true then Option.bind (ixl x15 (w64 (x23 - 1))) (fun x35=>Option.bind (ixl x15 x23) (fun x36=>Option.bind (ranks_Has x1.1 x35) (fun x37=>Option.bind (ranks_Has x1.2 x35) (fun x38=>Option.bind (Option.bind (ranks_Meet_1 x37 x38) (fun x42=>(if x42=true then Option.bind (ranks_add_maa59 x24 x35 x36) (fun x43=>some x43) else some x24)):Option (List S_api_Span)) (fun x41=>some (Step.next ((w64 (x23 + 1)),x41))))))) else some (Step.done x24))
noncomputable def ranks_kept_sda67 (a0:(List S_api_Span)) (a1:(List S_api_Span)):Option ((List S_api_Span)):=Option.bind (ranks_stretches a0 a1) (fun x1=>Option.bind (slices_Concat_api_Span_api_Span [x1.1,x1.2]) (fun x2=>Option.bind (loopC (ranks_kept_sda67_l1 x2) ([],0)) (fun x11=>Option.bind (slices_SortI x11) (fun x14=>Option.bind (slices_CompactI x14) (fun x15=>Option.bind (loopC (ranks_kept_sda67_l2 x1 x15) (1,[])) (fun x34=>some x34))))))
theorem ranks_kept_sda67_ok (a0:(List S_api_Span)) (a1:(List S_api_Span)):Ct E 39 [.fsl 2 (List.map c_S_api_Span a0),.fsl 2 (List.map c_S_api_Span a1),.fn 41 []] (ranks_kept_sda67 a0 a1) (fun r:(List S_api_Span)=>.fsl 2 (List.map c_S_api_Span r)):=ct_intro (N:=24) (L:=ranks_kept_sda67_c) ranks_kept_sda67_k rfl (Nat.le_of_ble_eq_true rfl) (by kernel_rfl) (by
 unfold ranks_kept_sda67
 refine jS ⟨[V 0 (.fsl 2 (List.map c_S_api_Span a0)),V 1 (.fsl 2 (List.map c_S_api_Span a1)),V 5 (pt 0 1)],[W 0 1 [.fn 41 []]],1⟩ ?_
 refine jS ⟨[V 0 (.fsl 2 (List.map c_S_api_Span a0)),V 1 (.fsl 2 (List.map c_S_api_Span a1)),V 5 (pt 0 1),V 7 (pt 1 1)],[W 0 1 [.fn 41 []],W 1 1 [nilS]],2⟩ ?_
 refine jc_seq ?_
 refine jR ?_
 refine jG 0 2 ⟨[V 5 (pt 0 1),V 7 (pt 1 1),V 9 (.fsl 2 (List.map c_S_api_Span a0)),V 10 (.fsl 2 (List.map c_S_api_Span a1))],[W 0 1 [.fn 41 []],W 1 1 [nilS]],2⟩ ?_
 refine jK 2 (ranks_stretches_ok a0 a1) ?_
 intro x1 h1
 refine jN ?_
 refine jc_block ?_
 refine jc_keep [5,7,11] [0,1] (st1:=⟨[V 5 (pt 0 1),V 7 (pt 1 1),V 11 (.fn 67 [.fptr [.fsl 2 (List.map c_S_api_Span x1.1)] 0,.fptr [.fsl 2 (List.map c_S_api_Span x1.2)] 0])],[W 0 1 [.fn 41 []],W 1 1 [nilS]],2⟩) (by kernel_rfl) ?_
 refine jc_rng (g:=67) (caps:=[.fptr [.fsl 2 (List.map c_S_api_Span x1.1)] 0,.fptr [.fsl 2 (List.map c_S_api_Span x1.2)] 0]) (by kernel_rfl) ranks_stretches_1_it_k (Nat.le_of_ble_eq_true rfl) ?_
 intro F1 hc1
 refine jS ⟨[V 0 (.yld 2),V 1 (.fptr [.fsl 2 (List.map c_S_api_Span x1.1)] 0),V 2 (.fptr [.fsl 2 (List.map c_S_api_Span x1.2)] 0),V 4 (nilS)],[W 0 1 [.fn 41 []],W 1 1 [nilS],(2,ranks_kept_sda67_lp1 x1 .ready none)],3⟩ ?_
 refine jc_seq ?_
 refine jR ?_
 refine jG 0 3 ⟨[V 0 (.yld 2),V 1 (.fptr [.fsl 2 (List.map c_S_api_Span x1.1)] 0),V 2 (.fptr [.fsl 2 (List.map c_S_api_Span x1.2)] 0),V 4 (nilS),V 11 (.osl 3 0 (List.length [x1.1,x1.2]) 1)],[W 0 1 [.fn 41 []],W 1 1 [nilS],(2,ranks_kept_sda67_lp1 x1 .ready none),(3,.rows 1 (List.map c_L45 [x1.1,x1.2]))],4⟩ ?_
 refine jr_callM 3 [(0,some 3)] [(3,some 0),(4,some 1)] (fun r:List S_api_Span=>[W 0 1 [.fn 41 []],W 1 1 [nilS],(2,ranks_kept_sda67_lp1 x1 .ready none),(3,.rows 1 (List.map c_L45 [x1.1,x1.2])),(4,.rows 2 (List.map c_S_api_Span r))]) (fun r:List S_api_Span=>.osl 4 0 (List.length r) 2) 5 (slices_Concat_api_Span_api_Span_ok [x1.1,x1.2]) (pc (hL 3 (noid_map ni_L45 _)) allp_nil) (fun r=>(pc (.inl ⟨rfl,rfl⟩) (pc (.inl ⟨rfl,rfl⟩) (pc (.inl ⟨rfl,rfl⟩) (pc (.inr (hL 0 (noid_map ni_L45 _))) (pc (.inr (hL 1 (noid_map ni_S_api_Span _))) allp_nil)))))) ?_
 rintro x2 hm11
 refine jG 4 2 ⟨[V 0 (.yld 2),V 1 (.fptr [.fsl 2 (List.map c_S_api_Span x1.1)] 0),V 2 (.fptr [.fsl 2 (List.map c_S_api_Span x1.2)] 0),V 4 (nilS),V 12 (.osl 4 0 (List.length x2) 2),V 13 (iv (List.length x2:Int)),V 14 (iv 0)],[W 0 1 [.fn 41 []],W 1 1 [nilS],(2,ranks_kept_sda67_lp1 x1 .ready none),(4,.rows 2 (List.map c_S_api_Span x2))],5⟩ ?_
 refine jN ?_
 refine jc_block ?_
 refine jc_bind (fun x11=>⟨[V 0 (.yld 2),V 1 (.fptr [.fsl 2 (List.map c_S_api_Span x1.1)] 0),V 2 (.fptr [.fsl 2 (List.map c_S_api_Span x1.2)] 0),V 4 (.osl 3 0 (List.length x11) 1)],[W 0 1 [.fn 41 []],W 1 1 [nilS],(2,ranks_kept_sda67_lp1 x1 .ready none),(3,.rows 1 (List.map cI x11))],4⟩) (fun x11=>(.exit 0)) (jc_loop (fun (x5,x6)=>⟨[V 0 (.yld 2),V 1 (.fptr [.fsl 2 (List.map c_S_api_Span x1.1)] 0),V 2 (.fptr [.fsl 2 (List.map c_S_api_Span x1.2)] 0),V 4 (.osl 3 0 (List.length x5) 1),V 12 (.osl 4 0 (List.length x2) 2),V 13 (iv (List.length x2:Int)),V 14 (iv x6)],[W 0 1 [.fn 41 []],W 1 1 [nilS],(2,ranks_kept_sda67_lp1 x1 .ready none),(3,.rows 1 (List.map cI x5)),(4,.rows 2 (List.map c_S_api_Span x2))],5⟩) (wkR [(0,some 0),(1,some 1),(2,some 2),(3,none),(4,some 4)] (fix_of hc1.2.2 (k:=3) rfl) (pc (hC 0) (pc (hC 1) (pc (.inr (.inr ⟨2,_,_,rfl,rfl,rfl,by kernel_rfl⟩)) (pc hZ (pc (hL 4 (noid_map ni_S_api_Span _)) allp_nil)))))) ?_) ?_
 ·rintro⟨x5,x6⟩
  unfold ranks_kept_sda67_l1
  refine jS ⟨[V 0 (.yld 2),V 1 (.fptr [.fsl 2 (List.map c_S_api_Span x1.1)] 0),V 2 (.fptr [.fsl 2 (List.map c_S_api_Span x1.2)] 0),V 4 (.osl 3 0 (List.length x5) 1),V 12 (.osl 4 0 (List.length x2) 2),V 13 (iv (List.length x2:Int)),V 14 (iv x6),V 15 (bv (decide (x6 < (List.length x2:Int))))],[W 0 1 [.fn 41 []],W 1 1 [nilS],(2,ranks_kept_sda67_lp1 x1 .ready none),(3,.rows 1 (List.map cI x5)),(4,.rows 2 (List.map c_S_api_Span x2))],5⟩ ?_
  refine jc_seq ?_
  refine jIf ?_ ?_
  ·refine jc_skip ?_
   refine jx_seqN ?_
   refine jc_seq ?_
   refine jc_block ?_
   refine jR ?_
   refine jr_part (i:=0) (mo:=ixl x2 x6) rfl rfl rfl rfl (fun _ hc=>aop_ixo0 (sz:=2) (e:=45) (kk:=.i64) (id:=4) (by kernel_rfl) (by kernel_rfl) (by kernel_rfl) (by kernel_rfl) hc) (fun _=>rfl) ?_
   intro x12 h12
   refine jr_one (i:=1) (v:=.agg [iv x12.Lo,iv x12.Hi]) rfl rfl rfl rfl (aop_ldo (l:=x2) (c:=c_S_api_Span) (id:=4) (k:=(Int.toNat x6)) (sz:=2) (off:=0) (a:=x12) (by kernel_rfl) (by kernel_rfl) (ixl_lt h12).2.2 (by kernel_rfl)) rfl ?_
   refine jG 2 2 ⟨[V 0 (.yld 2),V 1 (.fptr [.fsl 2 (List.map c_S_api_Span x1.1)] 0),V 2 (.fptr [.fsl 2 (List.map c_S_api_Span x1.2)] 0),V 4 (.osl 3 0 (List.length x5) 1),V 6 (pt 5 2),V 12 (.osl 4 0 (List.length x2) 2),V 13 (iv (List.length x2:Int)),V 14 (iv x6)],[W 0 1 [.fn 41 []],W 1 1 [nilS],(2,ranks_kept_sda67_lp1 x1 .ready none),(3,.rows 1 (List.map cI x5)),(4,.rows 2 (List.map c_S_api_Span x2)),W 5 2 [iv x12.Lo,iv x12.Hi]],6⟩ ?_
   refine jN ?_
   refine jc_reg ?_
   refine jG 0 6 ⟨[V 0 (.yld 2),V 1 (.fptr [.fsl 2 (List.map c_S_api_Span x1.1)] 0),V 2 (.fptr [.fsl 2 (List.map c_S_api_Span x1.2)] 0),V 12 (.osl 4 0 (List.length x2) 2),V 13 (iv (List.length x2:Int)),V 14 (iv x6),V 18 (.osl 3 0 (List.length x5) 1),V 23 (.osl 6 0 (List.length [x12.Lo,x12.Hi]) 1)],[W 0 1 [.fn 41 []],W 1 1 [nilS],(2,ranks_kept_sda67_lp1 x1 .ready none),(3,.rows 1 (List.map cI x5)),(4,.rows 2 (List.map c_S_api_Span x2)),(6,.rows 1 (List.map cI [x12.Lo,x12.Hi]))],7⟩ ?_
   refine jr_part (i:=6) (mo:=app 8 x5 [x12.Lo,x12.Hi]) rfl rfl rfl rfl (fun _ hc=>aop_app (u:=.osl 3 0 (List.length x5) 1) (w:=.osl 6 0 (List.length [x12.Lo,x12.Hi]) 1) (e:=3) (td:=.slice 3) (by kernel_rfl) (by kernel_rfl) (by kernel_rfl) (by kernel_rfl) (.inl ⟨_,rfl⟩) (appendOf_own (c:=cI) (sz:=1) (b:=8) (id:=3) (by kernel_rfl) (by kernel_rfl) (rows_own (by kernel_rfl)) (List.cons_ne_nil _ _) hc)) (fun _=>rfl) ?_
   intro x13 h13
   refine jG 7 1 ⟨[V 0 (.yld 2),V 1 (.fptr [.fsl 2 (List.map c_S_api_Span x1.1)] 0),V 2 (.fptr [.fsl 2 (List.map c_S_api_Span x1.2)] 0),V 4 (.osl 7 0 (List.length x13) 1),V 12 (.osl 4 0 (List.length x2) 2),V 13 (iv (List.length x2:Int)),V 14 (iv x6)],[W 0 1 [.fn 41 []],W 1 1 [nilS],(2,ranks_kept_sda67_lp1 x1 .ready none),(4,.rows 2 (List.map c_S_api_Span x2)),(7,.rows 1 (List.map cI x13))],8⟩ ?_
   refine jr_nil rfl ?_
   refine jx_blkN ?_
   refine jx_seqN ?_
   refine jT ⟨[V 0 (.yld 2),V 1 (.fptr [.fsl 2 (List.map c_S_api_Span x1.1)] 0),V 2 (.fptr [.fsl 2 (List.map c_S_api_Span x1.2)] 0),V 4 (.osl 7 0 (List.length x13) 1),V 12 (.osl 4 0 (List.length x2) 2),V 13 (iv (List.length x2:Int)),V 14 (iv (w64 (x6 + 1)))],[W 0 1 [.fn 41 []],W 1 1 [nilS],(2,ranks_kept_sda67_lp1 x1 .ready none),(4,.rows 2 (List.map c_S_api_Span x2)),(7,.rows 1 (List.map cI x13))],8⟩ ?_
   exact jx_next (wkR [(0,some 0),(1,some 1),(2,some 2),(3,some 7),(4,some 4)] (fix_of hc1.2.2 (k:=3) rfl) (pc (hC 0) (pc (hC 1) (pc (.inr (.inr ⟨2,_,_,rfl,rfl,rfl,by kernel_rfl⟩)) (pc (hL 7 (noid_map ni_I _)) (pc (hL 4 (noid_map ni_S_api_Span _)) allp_nil))))))
  refine jc_exit ?_
  refine jx_seqE ?_
  exact jx_done rfl nofun (wkR [(0,some 0),(1,some 1),(2,some 2),(3,some 3)] (fix_of hc1.2.2 (k:=3) rfl) (pc (hC 0) (pc (hC 1) (pc (.inr (.inr ⟨2,_,_,rfl,rfl,rfl,by kernel_rfl⟩)) (pc (hL 3 (noid_map ni_I _)) allp_nil)))))
 intro x11
 refine jx_blkE ?_
 refine jx_seqN ?_
 refine jR ?_
 refine jG 0 1 ⟨[V 0 (.yld 2),V 1 (.fptr [.fsl 2 (List.map c_S_api_Span x1.1)] 0),V 2 (.fptr [.fsl 2 (List.map c_S_api_Span x1.2)] 0),V 4 (.osl 3 0 (List.length x11) 1),V 26 (.osl 3 0 (List.length x11) 1)],[W 0 1 [.fn 41 []],W 1 1 [nilS],(2,ranks_kept_sda67_lp1 x1 .ready none),(3,.rows 1 (List.map cI x11))],4⟩ ?_
 refine jr_callM 1 [(0,some 3)] [(3,some 0)] (fun r:List Int=>[W 0 1 [.fn 41 []],W 1 1 [nilS],(2,ranks_kept_sda67_lp1 x1 .ready none),(3,.rows 1 (List.map cI r))]) (fun r:List Int=>.tup []) 4 (slices_SortI_ok x11) (pc (hL 3 (noid_map ni_I _)) allp_nil) (fun r=>(pc (.inl ⟨rfl,rfl⟩) (pc (.inl ⟨rfl,rfl⟩) (pc (.inl ⟨rfl,rfl⟩) (pc (.inr (hL 0 (noid_map ni_I _))) allp_nil))))) ?_
 rintro x14 hm10
 try rw[← slices_SortI_len hm10]
 refine jN ?_
 refine jR ?_
 refine jG 0 1 ⟨[V 0 (.yld 2),V 1 (.fptr [.fsl 2 (List.map c_S_api_Span x1.1)] 0),V 2 (.fptr [.fsl 2 (List.map c_S_api_Span x1.2)] 0),V 28 (.osl 3 0 (List.length x14) 1)],[W 0 1 [.fn 41 []],W 1 1 [nilS],(2,ranks_kept_sda67_lp1 x1 .ready none),(3,.rows 1 (List.map cI x14))],4⟩ ?_
 refine jr_callM 1 [(0,some 3)] [(3,some 0)] (fun r:List Int=>[W 0 1 [.fn 41 []],W 1 1 [nilS],(2,ranks_kept_sda67_lp1 x1 .ready none),(3,.rows 1 (List.map cI r))]) (fun r:List Int=>.osl 3 0 (List.length r) 1) 4 (slices_CompactI_ok x14) (pc (hL 3 (noid_map ni_I _)) allp_nil) (fun r=>(pc (.inl ⟨rfl,rfl⟩) (pc (.inl ⟨rfl,rfl⟩) (pc (.inl ⟨rfl,rfl⟩) (pc (.inr (hL 0 (noid_map ni_I _))) allp_nil))))) ?_
 rintro x15 hm9
 refine jG 2 1 ⟨[V 0 (.yld 2),V 1 (.fptr [.fsl 2 (List.map c_S_api_Span x1.1)] 0),V 2 (.fptr [.fsl 2 (List.map c_S_api_Span x1.2)] 0),V 4 (.osl 3 0 (List.length x15) 1)],[W 0 1 [.fn 41 []],W 1 1 [nilS],(2,ranks_kept_sda67_lp1 x1 .ready none),(3,.rows 1 (List.map cI x15))],4⟩ ?_
 refine jN ?_
 refine jS ⟨[V 0 (.yld 2),V 1 (.fptr [.fsl 2 (List.map c_S_api_Span x1.1)] 0),V 2 (.fptr [.fsl 2 (List.map c_S_api_Span x1.2)] 0),V 4 (.osl 3 0 (List.length x15) 1),V 7 (iv 1)],[W 0 1 [.fn 41 []],W 1 1 [nilS],(2,ranks_kept_sda67_lp1 x1 .ready none),(3,.rows 1 (List.map cI x15))],4⟩ ?_
 refine jc_block ?_
 refine jc_bind (fun x34=>⟨[],[W 0 1 [.fn 41 []],W 1 1 [.osl 3 0 (List.length x34) 2],(2,ranks_kept_sda67_lp1 x1 .ready none),(3,.rows 2 (List.map c_S_api_Span x34))],4⟩) (fun x34=>(.exit 2)) (jc_loop (fun (x23,x24)=>⟨[V 0 (.yld 2),V 1 (.fptr [.fsl 2 (List.map c_S_api_Span x1.1)] 0),V 2 (.fptr [.fsl 2 (List.map c_S_api_Span x1.2)] 0),V 4 (.osl 3 0 (List.length x15) 1),V 7 (iv x23)],[W 0 1 [.fn 41 []],W 1 1 [.osl 4 0 (List.length x24) 2],(2,ranks_kept_sda67_lp1 x1 .ready none),(3,.rows 1 (List.map cI x15)),(4,.rows 2 (List.map c_S_api_Span x24))],5⟩) (wkR [(0,some 0),(1,some 1),(2,some 2),(3,some 3),(4,none)] (fix_of hc1.2.2 (k:=3) rfl) (pc (hC 0) (pc (hC 1) (pc (.inr (.inr ⟨2,_,_,rfl,rfl,rfl,by kernel_rfl⟩)) (pc (hL 3 (noid_map ni_I _)) (pc hZ allp_nil)))))) ?_) ?_
 ·rintro⟨x23,x24⟩
  unfold ranks_kept_sda67_l2
  refine jc_seq ?_
  refine jS ⟨[V 0 (.yld 2),V 1 (.fptr [.fsl 2 (List.map c_S_api_Span x1.1)] 0),V 2 (.fptr [.fsl 2 (List.map c_S_api_Span x1.2)] 0),V 4 (.osl 3 0 (List.length x15) 1),V 7 (iv x23),V 33 (bv (decide (x23 < (List.length x15:Int))))],[W 0 1 [.fn 41 []],W 1 1 [.osl 4 0 (List.length x24) 2],(2,ranks_kept_sda67_lp1 x1 .ready none),(3,.rows 1 (List.map cI x15)),(4,.rows 2 (List.map c_S_api_Span x24))],5⟩ ?_
  refine jIf ?_ ?_
  ·refine jc_skip ?_
   refine jx_seqN ?_
   refine jc_seq ?_
   refine jc_block ?_
   refine jc_seq ?_
   refine jc_full ranks_stretches_1_it_r11 [(39,8),(43,8)] ?_
   refine jG 0 3 ⟨[V 0 (.yld 2),V 1 (.fptr [.fsl 2 (List.map c_S_api_Span x1.1)] 0),V 2 (.fptr [.fsl 2 (List.map c_S_api_Span x1.2)] 0),V 4 (.osl 3 0 (List.length x15) 1),V 7 (iv x23),V 36 (.osl 3 0 (List.length x15) 1),V 38 (iv (w64 (x23 - 1)))],[W 0 1 [.fn 41 []],W 1 1 [.osl 4 0 (List.length x24) 2],(2,ranks_kept_sda67_lp1 x1 .ready none),(3,.rows 1 (List.map cI x15)),(4,.rows 2 (List.map c_S_api_Span x24))],5⟩ ?_
   refine jr_part (i:=3) (mo:=ixl x15 (w64 (x23 - 1))) rfl rfl rfl rfl (fun _ hc=>aop_ixo0 (sz:=1) (e:=3) (kk:=.i64) (id:=3) (by kernel_rfl) (by kernel_rfl) (by kernel_rfl) (by kernel_rfl) hc) (fun _=>rfl) ?_
   intro x35 h35
   refine jr_one (i:=4) (v:=iv x35) rfl rfl rfl rfl (aop_ldo (l:=x15) (c:=cI) (id:=3) (k:=(Int.toNat (w64 (x23 - 1)))) (sz:=1) (off:=0) (a:=x35) (by kernel_rfl) (by kernel_rfl) (ixl_lt h35).2.2 (by kernel_rfl)) rfl ?_
   refine jG 5 2 ⟨[V 0 (.yld 2),V 1 (.fptr [.fsl 2 (List.map c_S_api_Span x1.1)] 0),V 2 (.fptr [.fsl 2 (List.map c_S_api_Span x1.2)] 0),V 4 (.osl 3 0 (List.length x15) 1),V 7 (iv x23),V 39 (.ptr 3 (Int.toNat (w64 (x23 - 1))) 1 0),V 40 (iv x35),V 41 (.osl 3 0 (List.length x15) 1),V 42 (iv x23)],[W 0 1 [.fn 41 []],W 1 1 [.osl 4 0 (List.length x24) 2],(2,ranks_kept_sda67_lp1 x1 .ready none),(3,.rows 1 (List.map cI x15)),(4,.rows 2 (List.map c_S_api_Span x24))],5⟩ ?_
   refine jr_part (i:=7) (mo:=ixl x15 x23) rfl rfl rfl rfl (fun _ hc=>aop_ixo0 (sz:=1) (e:=3) (kk:=.i64) (id:=3) (by kernel_rfl) (by kernel_rfl) (by kernel_rfl) (by kernel_rfl) hc) (fun _=>rfl) ?_
   intro x36 h36
   refine jr_one (i:=8) (v:=iv x36) rfl rfl rfl rfl (aop_ldo (l:=x15) (c:=cI) (id:=3) (k:=(Int.toNat x23)) (sz:=1) (off:=0) (a:=x36) (by kernel_rfl) (by kernel_rfl) (ixl_lt h36).2.2 (by kernel_rfl)) rfl ?_
   refine jG 9 3 ⟨[V 0 (.yld 2),V 1 (.fptr [.fsl 2 (List.map c_S_api_Span x1.1)] 0),V 2 (.fptr [.fsl 2 (List.map c_S_api_Span x1.2)] 0),V 4 (.osl 3 0 (List.length x15) 1),V 7 (iv x23),V 8 (pt 5 2),V 39 (.ptr 3 (Int.toNat (w64 (x23 - 1))) 1 0),V 43 (.ptr 3 (Int.toNat x23) 1 0)],[W 0 1 [.fn 41 []],W 1 1 [.osl 4 0 (List.length x24) 2],(2,ranks_kept_sda67_lp1 x1 .ready none),(3,.rows 1 (List.map cI x15)),(4,.rows 2 (List.map c_S_api_Span x24)),W 5 2 [iv x35,iv x36]],6⟩ ?_
   refine jr_nil rfl ?_
   refine jx_full ?_
   refine jx_seqN ?_
   refine jR ?_
   refine jG 0 5 ⟨[V 0 (.yld 2),V 1 (.fptr [.fsl 2 (List.map c_S_api_Span x1.1)] 0),V 2 (.fptr [.fsl 2 (List.map c_S_api_Span x1.2)] 0),V 4 (.osl 3 0 (List.length x15) 1),V 7 (iv x23),V 8 (pt 5 2),V 46 (.yld 2),V 47 (.agg [iv x35,iv x36]),V 48 (.fsl 2 (List.map c_S_api_Span x1.1)),V 50 (iv x35)],[W 0 1 [.fn 41 []],W 1 1 [.osl 4 0 (List.length x24) 2],(2,ranks_kept_sda67_lp1 x1 .ready none),(3,.rows 1 (List.map cI x15)),(4,.rows 2 (List.map c_S_api_Span x24)),W 5 2 [iv x35,iv x36]],6⟩ ?_
   refine jK 5 (ranks_Has_ok x1.1 x35) ?_
   intro x37 h37
   refine jG 6 3 ⟨[V 0 (.yld 2),V 1 (.fptr [.fsl 2 (List.map c_S_api_Span x1.1)] 0),V 2 (.fptr [.fsl 2 (List.map c_S_api_Span x1.2)] 0),V 4 (.osl 3 0 (List.length x15) 1),V 7 (iv x23),V 46 (.yld 2),V 47 (.agg [iv x35,iv x36]),V 51 (bv x37),V 52 (.fsl 2 (List.map c_S_api_Span x1.2)),V 54 (iv x35)],[W 0 1 [.fn 41 []],W 1 1 [.osl 4 0 (List.length x24) 2],(2,ranks_kept_sda67_lp1 x1 .ready none),(3,.rows 1 (List.map cI x15)),(4,.rows 2 (List.map c_S_api_Span x24))],6⟩ ?_
   refine jK 9 (ranks_Has_ok x1.2 x35) ?_
   intro x38 h38
   refine jG 10 1 ⟨[V 0 (.yld 2),V 1 (.fptr [.fsl 2 (List.map c_S_api_Span x1.1)] 0),V 2 (.fptr [.fsl 2 (List.map c_S_api_Span x1.2)] 0),V 4 (.osl 3 0 (List.length x15) 1),V 7 (iv x23),V 46 (.yld 2),V 56 (.agg [iv x35,iv x36,bv x37,bv x38])],[W 0 1 [.fn 41 []],W 1 1 [.osl 4 0 (List.length x24) 2],(2,ranks_kept_sda67_lp1 x1 .ready none),(3,.rows 1 (List.map cI x15)),(4,.rows 2 (List.map c_S_api_Span x24))],6⟩ ?_
   refine jr_yield (i:=11) (l:=2) (Nc:=24) (Kc:=[V 5 (pt 0 1),V 7 (pt 1 1),V 11 (.fn 67 [.fptr [.fsl 2 (List.map c_S_api_Span x1.1)] 0,.fptr [.fsl 2 (List.map c_S_api_Span x1.2)] 0])]) (ps:=[12]) (vs:=[.agg [iv x35,iv x36,bv x37,bv x38]]) (fun x41=>⟨[],[W 0 1 [.fn 41 []],W 1 1 [.osl 6 0 (List.length x41) 2],(2,ranks_kept_sda67_lp1 x1 .busy none),(3,.rows 1 (List.map cI x15)),(6,.rows 2 (List.map c_S_api_Span x41))],7⟩) (fun x41=>.normal) [0,1,2,4,7,57] [0,1,2,3,6] (after:=(fun x41=>⟨[V 0 (.yld 2),V 1 (.fptr [.fsl 2 (List.map c_S_api_Span x1.1)] 0),V 2 (.fptr [.fsl 2 (List.map c_S_api_Span x1.2)] 0),V 4 (.osl 3 0 (List.length x15) 1),V 7 (iv x23),V 57 (bv true)],[W 0 1 [.fn 41 []],W 1 1 [.osl 6 0 (List.length x41) 2],(2,ranks_kept_sda67_lp1 x1 .ready none),(3,.rows 1 (List.map cI x15)),(6,.rows 2 (List.map c_S_api_Span x41))],7⟩)) rfl rfl ranks_kept_sda67_y7_aw ranks_kept_sda67_y7_bw (by kernel_rfl) (by kernel_rfl) (yctx_of hc1 rfl) rfl (by kernel_rfl) rfl ?_ (by intro x41 <;> exact⟨none,by kernel_rfl⟩) (by intro x41 <;> kernel_rfl) ?_
   ·intro F6 hy6
    refine jT ⟨[V 5 (pt 0 1),V 7 (pt 1 1),V 8 (pt 6 4)],[W 0 1 [.fn 41 []],W 1 1 [.osl 4 0 (List.length x24) 2],(2,ranks_kept_sda67_lp1 x1 .ready none),(3,.rows 1 (List.map cI x15)),(4,.rows 2 (List.map c_S_api_Span x24)),W 6 4 [iv x35,iv x36,bv x37,bv x38]],7⟩ ?_
    refine jx_asg hy6 rfl ?_
    refine jc_block ?_
    refine jR ?_
    refine jG 0 5 ⟨[V 7 (pt 1 1),V 8 (pt 6 4),V 13 (.fn 41 []),V 15 (bv x37),V 17 (bv x38)],[W 0 1 [.fn 41 []],W 1 1 [.osl 4 0 (List.length x24) 2],(2,ranks_kept_sda67_lp1 x1 .busy none),(3,.rows 1 (List.map cI x15)),(4,.rows 2 (List.map c_S_api_Span x24)),W 6 4 [iv x35,iv x36,bv x37,bv x38]],7⟩ ?_
    refine jr_callV (i:=5) rfl rfl rfl rfl (g:=41) (caps:=[]) (avs:=[bv x37,bv x38]) (vs:=[bv x37,bv x38]) (by kernel_rfl) (by kernel_rfl) rfl (snapL_cons rfl (snapL_cons rfl (snapL_nil _))) (all2_cons (fle_refl _) (all2_cons (fle_refl _) all2_nil)) (ranks_Meet_1_ok x37 x38) (fun _=>rfl) (fun _=>rfl) ?_
    intro x42 h42
    refine jN ?_
    refine jIf ?_ ?_
    ·refine jc_reg ?_
     refine jG 0 3 ⟨[V 7 (pt 1 1),V 19 (.osl 4 0 (List.length x24) 2),V 21 (.agg [iv x35,iv x36])],[W 0 1 [.fn 41 []],W 1 1 [.osl 4 0 (List.length x24) 2],(2,ranks_kept_sda67_lp1 x1 .busy none),(3,.rows 1 (List.map cI x15)),(4,.rows 2 (List.map c_S_api_Span x24))],7⟩ ?_
     refine jr_callM 3 [(0,some 4)] [(7,some 1)] (fun r:List S_api_Span=>[W 0 1 [.fn 41 []],W 1 1 [.osl 4 0 (List.length x24) 2],(2,ranks_kept_sda67_lp1 x1 .busy none),(3,.rows 1 (List.map cI x15)),(7,.rows 2 (List.map c_S_api_Span r))]) (fun r:List S_api_Span=>.osl 7 0 (List.length r) 2) 8 (ranks_add_maa59_ok x24 x35 x36) (pc (hL 4 (noid_map ni_S_api_Span _)) allp_nil) (fun r=>(pc (.inl ⟨rfl,rfl⟩) (pc (.inl ⟨rfl,rfl⟩) (pc (.inl ⟨rfl,rfl⟩) (pc (.inl ⟨rfl,rfl⟩) (pc (.inr (hL 1 (noid_map ni_S_api_Span _))) allp_nil)))))) ?_
     rintro x43 hm8
     refine jG 4 1 ⟨[],[W 0 1 [.fn 41 []],W 1 1 [.osl 7 0 (List.length x43) 2],(2,ranks_kept_sda67_lp1 x1 .busy none),(3,.rows 1 (List.map cI x15)),(7,.rows 2 (List.map c_S_api_Span x43))],8⟩ ?_
     refine jr_nil rfl ?_
     refine jx_blkN ?_
     exact jx_mid rfl (wkR [(0,some 0),(1,some 1),(2,some 2),(3,some 3),(4,some 4),(5,some 5),(6,some 7)] (fix_of hy6.2 (k:=6) rfl) (pc (hC 0) (pc (hC 1) (pc (.inr (.inr ⟨2,_,_,rfl,rfl,rfl,by kernel_rfl⟩)) (pc (hL 3 (noid_map ni_I _)) (pc (hL 7 (noid_map ni_S_api_Span _)) allp_nil))))))
    refine jc_skip ?_
    refine jx_blkN ?_
    exact jx_mid rfl (wkR [(0,some 0),(1,some 1),(2,some 2),(3,some 3),(4,some 4),(5,some 5),(6,some 4)] (fix_of hy6.2 (k:=6) rfl) (pc (hC 0) (pc (hC 1) (pc (.inr (.inr ⟨2,_,_,rfl,rfl,rfl,by kernel_rfl⟩)) (pc (hL 3 (noid_map ni_I _)) (pc (hL 4 (noid_map ni_S_api_Span _)) allp_nil))))))
   intro x41
   refine jG 12 1 ⟨[V 0 (.yld 2),V 1 (.fptr [.fsl 2 (List.map c_S_api_Span x1.1)] 0),V 2 (.fptr [.fsl 2 (List.map c_S_api_Span x1.2)] 0),V 4 (.osl 3 0 (List.length x15) 1),V 7 (iv x23),V 58 (bv false)],[W 0 1 [.fn 41 []],W 1 1 [.osl 6 0 (List.length x41) 2],(2,ranks_kept_sda67_lp1 x1 .ready none),(3,.rows 1 (List.map cI x15)),(6,.rows 2 (List.map c_S_api_Span x41))],7⟩ ?_
   refine jN ?_
   refine jc_condK (c:=false) (by kernel_rfl) ?_
   refine jc_skip ?_
   refine jx_blkN ?_
   refine jx_seqN ?_
   refine jT ⟨[V 0 (.yld 2),V 1 (.fptr [.fsl 2 (List.map c_S_api_Span x1.1)] 0),V 2 (.fptr [.fsl 2 (List.map c_S_api_Span x1.2)] 0),V 4 (.osl 3 0 (List.length x15) 1),V 7 (iv (w64 (x23 + 1)))],[W 0 1 [.fn 41 []],W 1 1 [.osl 6 0 (List.length x41) 2],(2,ranks_kept_sda67_lp1 x1 .ready none),(3,.rows 1 (List.map cI x15)),(6,.rows 2 (List.map c_S_api_Span x41))],7⟩ ?_
   exact jx_next (wkR [(0,some 0),(1,some 1),(2,some 2),(3,some 3),(4,some 6)] (fix_of hc1.2.2 (k:=3) rfl) (pc (hC 0) (pc (hC 1) (pc (.inr (.inr ⟨2,_,_,rfl,rfl,rfl,by kernel_rfl⟩)) (pc (hL 3 (noid_map ni_I _)) (pc (hL 6 (noid_map ni_S_api_Span _)) allp_nil))))))
  refine jc_exit ?_
  refine jx_seqE ?_
  exact jx_done rfl nofun (wkR [(0,some 0),(1,some 1),(2,some 2),(3,some 4)] (fix_of hc1.2.2 (k:=3) rfl) (pc (hC 0) (pc (hC 1) (pc (.inr (.inr ⟨2,_,_,rfl,rfl,rfl,by kernel_rfl⟩)) (pc (hL 4 (noid_map ni_S_api_Span _)) allp_nil)))))
 intro x34
 refine jx_blkE ?_
 refine jx_rng hc1 (.inl rfl) rfl nofun rfl ?_
 refine jx_blkN ?_
 refine jx_seqN ?_
 refine jS ⟨[V 6 (.osl 3 0 (List.length x34) 2)],[(3,.rows 2 (List.map c_S_api_Span x34))],4⟩ ?_
 refine jc_ret ?_
 exact jx_retF (.inr rfl) (v:=.osl 3 0 (List.length x34) 2) (by kernel_rfl) (snapc_own fz_S_api_Span (by kernel_rfl)) (fle_refl _))
abbrev ranks_Meet_r1:List LO:=[lo 4 (.assign (.const (.slice none 0 0))) 22]
abbrev ranks_Meet_r2:List LO:=[lm 5 0 22,lm 6 1 22,lo 7 (.call ⟨.value (.func 39),#[.tmp 5,.tmp 6,.func 41],#[22,22,47]⟩) 22,lo 4 (.assign (.tmp 7)) 22]
abbrev ranks_Meet_c:LC:=.seq (.reg false ranks_Meet_r1) (.seq (.reg false ranks_Meet_r2) .ret)
theorem ranks_Meet_k:FnOk E 10 8 [.tmp 4] ranks_Meet_c:=⟨⟨Go.Proofs.Tryd.f10,by kernel_rfl,by kernel_rfl,by kernel_rfl,by kernel_rfl,by kernel_rfl⟩,rfl,rfl⟩
noncomputable def ranks_Meet (a0:(List S_api_Span)) (a1:(List S_api_Span)):Option ((List S_api_Span)):=Option.bind (ranks_kept_sda67 a0 a1) (fun x1=>some x1)
theorem ranks_Meet_ok (a0:(List S_api_Span)) (a1:(List S_api_Span)):Ct E 10 [.fsl 2 (List.map c_S_api_Span a0),.fsl 2 (List.map c_S_api_Span a1)] (ranks_Meet a0 a1) (fun r:(List S_api_Span)=>.fsl 2 (List.map c_S_api_Span r)):=ct_intro (N:=8) (L:=ranks_Meet_c) ranks_Meet_k rfl (Nat.le_of_ble_eq_true rfl) (by kernel_rfl) (by
 unfold ranks_Meet
 refine jS ⟨[V 0 (.fsl 2 (List.map c_S_api_Span a0)),V 1 (.fsl 2 (List.map c_S_api_Span a1))],[],0⟩ ?_
 refine jR ?_
 refine jG 0 2 ⟨[V 5 (.fsl 2 (List.map c_S_api_Span a0)),V 6 (.fsl 2 (List.map c_S_api_Span a1))],[],0⟩ ?_
 refine jK 2 (ranks_kept_sda67_ok a0 a1) ?_
 intro x1 h1
 refine jG 3 1 ⟨[V 4 (.fsl 2 (List.map c_S_api_Span x1))],[],0⟩ ?_
 refine jN ?_
 refine jc_ret ?_
 exact jx_retF (.inr rfl) (v:=.fsl 2 (List.map c_S_api_Span x1)) (by kernel_rfl) rfl (fle_refl _))
abbrev ranks_Minus_1_r1:List LO:=[lo 4 (.assign (.const (.bool false))) 4]
abbrev ranks_Minus_1_r2:List LO:=[lm 5 0 4,lm 6 5 4,lmg 7 1 4 6 true,lg 8 (.unOp .not 4 (.tmp 7)) 4 6 true,lo 9 (.pick (.tmp 6) (.tmp 8) (.const (.bool false))) 4,lo 4 (.assign (.tmp 9)) 4]
abbrev ranks_Minus_1_c:LC:=.seq (.reg false ranks_Minus_1_r1) (.seq (.reg false ranks_Minus_1_r2) .ret)
theorem ranks_Minus_1_k:FnOk E 42 10 [.tmp 4] ranks_Minus_1_c:=⟨⟨Go.Proofs.Tryd.f42,by kernel_rfl,by kernel_rfl,by kernel_rfl,by kernel_rfl,by kernel_rfl⟩,rfl,rfl⟩
noncomputable def ranks_Minus_1 (a0:Bool) (a1:Bool):Option (Bool):=some (a0 && (!a1))
theorem ranks_Minus_1_ok (a0:Bool) (a1:Bool):Ct E 42 [bv a0,bv a1] (ranks_Minus_1 a0 a1) (fun r:Bool=>bv r):=ct_intro (N:=10) (L:=ranks_Minus_1_c) ranks_Minus_1_k rfl (Nat.le_of_ble_eq_true rfl) (by kernel_rfl) (by
 unfold ranks_Minus_1
 refine jS ⟨[V 0 (bv a0),V 1 (bv a1)],[],0⟩ ?_
 refine jS ⟨[V 4 (bv (a0 && (!a1)))],[],0⟩ ?_
 refine jc_ret ?_
 exact jx_retF (.inr rfl) (v:=bv (a0 && (!a1))) (by kernel_rfl) rfl (fle_refl _))
abbrev ranks_kept_scc6c_r1:List LO:=[lo 5 (.box 47 (.tmp 2)) 0,lo 6 (.assign (.const (.slice none 0 0))) 22]
abbrev ranks_kept_scc6c_r2:List LO:=[lo 7 (.alloc 22) 0]
abbrev ranks_kept_scc6c_r3:List LO:=[lm 9 0 22,lm 10 1 22,lo 11 (.call ⟨.value (.func 56),#[.tmp 9,.tmp 10],#[22,22]⟩) 61]
abbrev ranks_kept_scc6c_r4:List LO:=[lo 8 (.alloc 64) 0,ln (.store 64 (.tmp 8) (.tmp 12)) 0]
abbrev ranks_kept_scc6c_r5:List LO:=[lo 13 (.load 47 (.tmp 5)) 47,lo 14 (.fieldAddr 64 (.tmp 8) 1) 0,lo 15 (.load 4 (.tmp 14)) 4,lo 16 (.fieldAddr 64 (.tmp 8) 2) 0,lo 17 (.load 4 (.tmp 16)) 4,lo 18 (.call ⟨.value (.tmp 13),#[.tmp 15,.tmp 17],#[4,4]⟩) 4]
abbrev ranks_kept_scc6c_r6:List LO:=[lo 19 (.load 22 (.tmp 7)) 22,lo 20 (.fieldAddr 64 (.tmp 8) 0) 0,lo 21 (.load 45 (.tmp 20)) 45,lo 22 (.call ⟨.value (.func 48),#[.tmp 19,.tmp 21],#[22,45]⟩) 22,ln (.store 22 (.tmp 7) (.tmp 22)) 0]
noncomputable def ranks_kept_scc6c_y7_a0:Code:=codeSub (bodyOf Go.Proofs.Tryd.f39) [1,1,0,1,0,0]
theorem ranks_kept_scc6c_y7_aw:lower E ranks_kept_scc6c_y7_a0=some (.reg false ranks_kept_scc6c_r4):=by kernel_rfl
noncomputable def ranks_kept_scc6c_y7_b0:Code:=codeSub (bodyOf Go.Proofs.Tryd.f39) [1,1,0,1,0,1]
theorem ranks_kept_scc6c_y7_bw:lower E ranks_kept_scc6c_y7_b0=some (.block 1 (.seq (.reg false ranks_kept_scc6c_r5) (.cond (.tmp 18) (.reg false ranks_kept_scc6c_r6) .skip))):=by kernel_rfl
abbrev ranks_kept_scc6c_r8:List LO:=[lo 23 (.load 22 (.tmp 7)) 22,lo 6 (.assign (.tmp 23)) 22]
noncomputable abbrev ranks_kept_scc6c_c:LC:=.seq (.reg false ranks_kept_scc6c_r1) (.seq (.reg false ranks_kept_scc6c_r2) (.seq (.seq (.reg false ranks_kept_scc6c_r3) (.block 0 (.rng (.tmp 11) [12] ranks_kept_scc6c_y7_a0 ranks_kept_scc6c_y7_b0))) (.seq (.reg false ranks_kept_scc6c_r8) .ret)))
theorem ranks_kept_scc6c_k:FnOk E 39 24 [.tmp 6] ranks_kept_scc6c_c:=⟨⟨Go.Proofs.Tryd.f39,by kernel_rfl,by kernel_rfl,by kernel_rfl,by kernel_rfl,by kernel_rfl⟩,rfl,rfl⟩
noncomputable abbrev ranks_kept_scc6c_lp1 (x1:List S_api_Span × List S_api_Span) (q:LoopState) (p:Option Code):AObj:=.loop { state:=q,pending:=p,tmps:=tl 24 [V 5 (pt 0 1),V 7 (pt 1 1),V 11 (.fn 67 [.fptr [.fsl 2 (List.map c_S_api_Span x1.1)] 0,.fptr [.fsl 2 (List.map c_S_api_Span x1.2)] 0])] none,params:=[12],assign:=ranks_kept_scc6c_y7_a0,body:=ranks_kept_scc6c_y7_b0 }
noncomputable def ranks_kept_scc6c_l1 (x2:List S_api_Span):(List Int × Int)→Option (Step (List Int × Int) (List Int)):=fun (x5,x6)=>(if (decide (x6 < (List.length x2:Int)))=true then Option.bind (ixl x2 x6) (fun x12=>Option.bind (app 8 x5 [x12.Lo,x12.Hi]) (fun x13=>some (Step.next (x13,(w64 (x6 + 1)))))) else some (Step.done x5))
noncomputable def ranks_kept_scc6c_l2 (x1:List S_api_Span × List S_api_Span) (x15:List Int):(Int × List S_api_Span)→Option (Step (Int × List S_api_Span) (List S_api_Span)):=fun (x23,x24)=>(if (decide (x23 < (List.length x15:Int)))=true then Option.bind (ixl x15 (w64 (x23 - 1))) (fun x35=>Option.bind (ixl x15 x23) (fun x36=>Option.bind (ranks_Has x1.1 x35) (fun x37=>Option.bind (ranks_Has x1.2 x35) (fun x38=>Option.bind (Option.bind (ranks_Minus_1 x37 x38) (fun x42=>(if x42=true then Option.bind (ranks_add_maa59 x24 x35 x36) (fun x43=>some x43) else some x24)):Option (List S_api_Span)) (fun x41=>some (Step.next ((w64 (x23 + 1)),x41))))))) else some (Step.done x24))
noncomputable def ranks_kept_scc6c (a0:(List S_api_Span)) (a1:(List S_api_Span)):Option ((List S_api_Span)):=Option.bind (ranks_stretches a0 a1) (fun x1=>Option.bind (slices_Concat_api_Span_api_Span [x1.1,x1.2]) (fun x2=>Option.bind (loopC (ranks_kept_scc6c_l1 x2) ([],0)) (fun x11=>Option.bind (slices_SortI x11) (fun x14=>Option.bind (slices_CompactI x14) (fun x15=>Option.bind (loopC (ranks_kept_scc6c_l2 x1 x15) (1,[])) (fun x34=>some x34))))))
theorem ranks_kept_scc6c_ok (a0:(List S_api_Span)) (a1:(List S_api_Span)):Ct E 39 [.fsl 2 (List.map c_S_api_Span a0),.fsl 2 (List.map c_S_api_Span a1),.fn 42 []] (ranks_kept_scc6c a0 a1) (fun r:(List S_api_Span)=>.fsl 2 (List.map c_S_api_Span r)):=ct_intro (N:=24) (L:=ranks_kept_scc6c_c) ranks_kept_scc6c_k rfl (Nat.le_of_ble_eq_true rfl) (by kernel_rfl) (by
 unfold ranks_kept_scc6c
 refine jS ⟨[V 0 (.fsl 2 (List.map c_S_api_Span a0)),V 1 (.fsl 2 (List.map c_S_api_Span a1)),V 5 (pt 0 1)],[W 0 1 [.fn 42 []]],1⟩ ?_
 refine jS ⟨[V 0 (.fsl 2 (List.map c_S_api_Span a0)),V 1 (.fsl 2 (List.map c_S_api_Span a1)),V 5 (pt 0 1),V 7 (pt 1 1)],[W 0 1 [.fn 42 []],W 1 1 [nilS]],2⟩ ?_
 refine jc_seq ?_
 refine jR ?_
 refine jG 0 2 ⟨[V 5 (pt 0 1),V 7 (pt 1 1),V 9 (.fsl 2 (List.map c_S_api_Span a0)),V 10 (.fsl 2 (List.map c_S_api_Span a1))],[W 0 1 [.fn 42 []],W 1 1 [nilS]],2⟩ ?_
 refine jK 2 (ranks_stretches_ok a0 a1) ?_
 intro x1 h1
 refine jN ?_
 refine jc_block ?_
 refine jc_keep [5,7,11] [0,1] (st1:=⟨[V 5 (pt 0 1),V 7 (pt 1 1),V 11 (.fn 67 [.fptr [.fsl 2 (List.map c_S_api_Span x1.1)] 0,.fptr [.fsl 2 (List.map c_S_api_Span x1.2)] 0])],[W 0 1 [.fn 42 []],W 1 1 [nilS]],2⟩) (by kernel_rfl) ?_
 refine jc_rng (g:=67) (caps:=[.fptr [.fsl 2 (List.map c_S_api_Span x1.1)] 0,.fptr [.fsl 2 (List.map c_S_api_Span x1.2)] 0]) (by kernel_rfl) ranks_stretches_1_it_k (Nat.le_of_ble_eq_true rfl) ?_
 intro F1 hc1
 refine jS ⟨[V 0 (.yld 2),V 1 (.fptr [.fsl 2 (List.map c_S_api_Span x1.1)] 0),V 2 (.fptr [.fsl 2 (List.map c_S_api_Span x1.2)] 0),V 4 (nilS)],[W 0 1 [.fn 42 []],W 1 1 [nilS],(2,ranks_kept_scc6c_lp1 x1 .ready none)],3⟩ ?_
 refine jc_seq ?_
 refine jR ?_
 refine jG 0 3 ⟨[V 0 (.yld 2),V 1 (.fptr [.fsl 2 (List.map c_S_api_Span x1.1)] 0),V 2 (.fptr [.fsl 2 (List.map c_S_api_Span x1.2)] 0),V 4 (nilS),V 11 (.osl 3 0 (List.length [x1.1,x1.2]) 1)],[W 0 1 [.fn 42 []],W 1 1 [nilS],(2,ranks_kept_scc6c_lp1 x1 .ready none),(3,.rows 1 (List.map c_L45 [x1.1,x1.2]))],4⟩ ?_
 refine jr_callM 3 [(0,some 3)] [(3,some 0),(4,some 1)] (fun r:List S_api_Span=>[W 0 1 [.fn 42 []],W 1 1 [nilS],(2,ranks_kept_scc6c_lp1 x1 .ready none),(3,.rows 1 (List.map c_L45 [x1.1,x1.2])),(4,.rows 2 (List.map c_S_api_Span r))]) (fun r:List S_api_Span=>.osl 4 0 (List.length r) 2) 5 (slices_Concat_api_Span_api_Span_ok [x1.1,x1.2]) (pc (hL 3 (noid_map ni_L45 _)) allp_nil) (fun r=>(pc (.inl ⟨rfl,rfl⟩) (pc (.inl ⟨rfl,rfl⟩) (pc (.inl ⟨rfl,rfl⟩) (pc (.inr (hL 0 (noid_map ni_L45 _))) (pc (.inr (hL 1 (noid_map ni_S_api_Span _))) allp_nil)))))) ?_
 rintro x2 hm11
 refine jG 4 2 ⟨[V 0 (.yld 2),V 1 (.fptr [.fsl 2 (List.map c_S_api_Span x1.1)] 0),V 2 (.fptr [.fsl 2 (List.map c_S_api_Span x1.2)] 0),V 4 (nilS),V 12 (.osl 4 0 (List.length x2) 2),V 13 (iv (List.length x2:Int)),V 14 (iv 0)],[W 0 1 [.fn 42 []],W 1 1 [nilS],(2,ranks_kept_scc6c_lp1 x1 .ready none),(4,.rows 2 (List.map c_S_api_Span x2))],5⟩ ?_
 refine jN ?_
 refine jc_block ?_
 refine jc_bind (fun x11=>⟨[V 0 (.yld 2),V 1 (.fptr [.fsl 2 (List.map c_S_api_Span x1.1)] 0),V 2 (.fptr [.fsl 2 (List.map c_S_api_Span x1.2)] 0),V 4 (.osl 3 0 (List.length x11) 1)],[W 0 1 [.fn 42 []],W 1 1 [nilS],(2,ranks_kept_scc6c_lp1 x1 .ready none),(3,.rows 1 (List.map cI x11))],4⟩) (fun x11=>(.exit 0)) (jc_loop (fun (x5,x6)=>⟨[V 0 (.yld 2),V 1 (.fptr [.fsl 2 (List.map c_S_api_Span x1.1)] 0),V 2 (.fptr [.fsl 2 (List.map c_S_api_Span x1.2)] 0),V 4 (.osl 3 0 (List.length x5) 1),V 12 (.osl 4 0 (List.length x2) 2),V 13 (iv (List.length x2:Int)),V 14 (iv x6)],[W 0 1 [.fn 42 []],W 1 1 [nilS],(2,ranks_kept_scc6c_lp1 x1 .ready none),(3,.rows 1 (List.map cI x5)),(4,.rows 2 (List.map c_S_api_Span x2))],5⟩) (wkR [(0,some 0),(1,some 1),(2,some 2),(3,none),(4,some 4)] (fix_of hc1.2.2 (k:=3) rfl) (pc (hC 0) (pc (hC 1) (pc (.inr (.inr ⟨2,_,_,rfl,rfl,rfl,by kernel_rfl⟩)) (pc hZ (pc (hL 4 (noid_map ni_S_api_Span _)) allp_nil)))))) ?_) ?_
 ·rintro⟨x5,x6⟩
  unfold ranks_kept_scc6c_l1
  refine jS ⟨[V 0 (.yld 2),V 1 (.fptr [.fsl 2 (List.map c_S_api_Span x1.1)] 0),V 2 (.fptr [.fsl 2 (List.map c_S_api_Span x1.2)] 0),V 4 (.osl 3 0 (List.length x5) 1),V 12 (.osl 4 0 (List.length x2) 2),V 13 (iv (List.length x2:Int)),V 14 (iv x6),V 15 (bv (decide (x6 < (List.length x2:Int))))],[W 0 1 [.fn 42 []],W 1 1 [nilS],(2,ranks_kept_scc6c_lp1 x1 .ready none),(3,.rows 1 (List.map cI x5)),(4,.rows 2 (List.map c_S_api_Span x2))],5⟩ ?_
  refine jc_seq ?_
  refine jIf ?_ ?_
  ·refine jc_skip ?_
   refine jx_seqN ?_
   refine jc_seq ?_
   refine jc_block ?_
   refine jR ?_
   refine jr_part (i:=0) (mo:=ixl x2 x6) rfl rfl rfl rfl (fun _ hc=>aop_ixo0 (sz:=2) (e:=45) (kk:=.i64) (id:=4) (by kernel_rfl) (by kernel_rfl) (by kernel_rfl) (by kernel_rfl) hc) (fun _=>rfl) ?_
   intro x12 h12
   refine jr_one (i:=1) (v:=.agg [iv x12.Lo,iv x12.Hi]) rfl rfl rfl rfl (aop_ldo (l:=x2) (c:=c_S_api_Span) (id:=4) (k:=(Int.toNat x6)) (sz:=2) (off:=0) (a:=x12) (by kernel_rfl) (by kernel_rfl) (ixl_lt h12).2.2 (by kernel_rfl)) rfl ?_
   refine jG 2 2 ⟨[V 0 (.yld 2),V 1 (.fptr [.fsl 2 (List.map c_S_api_Span x1.1)] 0),V 2 (.fptr [.fsl 2 (List.map c_S_api_Span x1.2)] 0),V 4 (.osl 3 0 (List.length x5) 1),V 6 (pt 5 2),V 12 (.osl 4 0 (List.length x2) 2),V 13 (iv (List.length x2:Int)),V 14 (iv x6)],[W 0 1 [.fn 42 []],W 1 1 [nilS],(2,ranks_kept_scc6c_lp1 x1 .ready none),(3,.rows 1 (List.map cI x5)),(4,.rows 2 (List.map c_S_api_Span x2)),W 5 2 [iv x12.Lo,iv x12.Hi]],6⟩ ?_
   refine jN ?_
   refine jc_reg ?_
   refine jG 0 6 ⟨[V 0 (.yld 2),V 1 (.fptr [.fsl 2 (List.map c_S_api_Span x1.1)] 0),V 2 (.fptr [.fsl 2 (List.map c_S_api_Span x1.2)] 0),V 12 (.osl 4 0 (List.length x2) 2),V 13 (iv (List.length x2:Int)),V 14 (iv x6),V 18 (.osl 3 0 (List.length x5) 1),V 23 (.osl 6 0 (List.length [x12.Lo,x12.Hi]) 1)],[W 0 1 [.fn 42 []],W 1 1 [nilS],(2,ranks_kept_scc6c_lp1 x1 .ready none),(3,.rows 1 (List.map cI x5)),(4,.rows 2 (List.map c_S_api_Span x2)),(6,.rows 1 (List.map cI [x12.Lo,x12.Hi]))],7⟩ ?_
   refine jr_part (i:=6) (mo:=app 8 x5 [x12.Lo,x12.Hi]) rfl rfl rfl rfl (fun _ hc=>aop_app (u:=.osl 3 0 (List.length x5) 1) (w:=.osl 6 0 (List.length [x12.Lo,x12.Hi]) 1) (e:=3) (td:=.slice 3) (by kernel_rfl) (by kernel_rfl) (by kernel_rfl) (by kernel_rfl) (.inl ⟨_,rfl⟩) (appendOf_own (c:=cI) (sz:=1) (b:=8) (id:=3) (by kernel_rfl) (by kernel_rfl) (rows_own (by kernel_rfl)) (List.cons_ne_nil _ _) hc)) (fun _=>rfl) ?_
   intro x13 h13
   refine jG 7 1 ⟨[V 0 (.yld 2),V 1 (.fptr [.fsl 2 (List.map c_S_api_Span x1.1)] 0),V 2 (.fptr [.fsl 2 (List.map c_S_api_Span x1.2)] 0),V 4 (.osl 7 0 (List.length x13) 1),V 12 (.osl 4 0 (List.length x2) 2),V 13 (iv (List.length x2:Int)),V 14 (iv x6)],[W 0 1 [.fn 42 []],W 1 1 [nilS],(2,ranks_kept_scc6c_lp1 x1 .ready none),(4,.rows 2 (List.map c_S_api_Span x2)),(7,.rows 1 (List.map cI x13))],8⟩ ?_
   refine jr_nil rfl ?_
   refine jx_blkN ?_
   refine jx_seqN ?_
   refine jT ⟨[V 0 (.yld 2),V 1 (.fptr [.fsl 2 (List.map c_S_api_Span x1.1)] 0),V 2 (.fptr [.fsl 2 (List.map c_S_api_Span x1.2)] 0),V 4 (.osl 7 0 (List.length x13) 1),V 12 (.osl 4 0 (List.length x2) 2),V 13 (iv (List.length x2:Int)),V 14 (iv (w64 (x6 + 1)))],[W 0 1 [.fn 42 []],W 1 1 [nilS],(2,ranks_kept_scc6c_lp1 x1 .ready none),(4,.rows 2 (List.map c_S_api_Span x2)),(7,.rows 1 (List.map cI x13))],8⟩ ?_
   exact jx_next (wkR [(0,some 0),(1,some 1),(2,some 2),(3,some 7),(4,some 4)] (fix_of hc1.2.2 (k:=3) rfl) (pc (hC 0) (pc (hC 1) (pc (.inr (.inr ⟨2,_,_,rfl,rfl,rfl,by kernel_rfl⟩)) (pc (hL 7 (noid_map ni_I _)) (pc (hL 4 (noid_map ni_S_api_Span _)) allp_nil))))))
  refine jc_exit ?_
  refine jx_seqE ?_
  exact jx_done rfl nofun (wkR [(0,some 0),(1,some 1),(2,some 2),(3,some 3)] (fix_of hc1.2.2 (k:=3) rfl) (pc (hC 0) (pc (hC 1) (pc (.inr (.inr ⟨2,_,_,rfl,rfl,rfl,by kernel_rfl⟩)) (pc (hL 3 (noid_map ni_I _)) allp_nil)))))
 intro x11
 refine jx_blkE ?_
 refine jx_seqN ?_
 refine jR ?_
 refine jG 0 1 ⟨[V 0 (.yld 2),V 1 (.fptr [.fsl 2 (List.map c_S_api_Span x1.1)] 0),V 2 (.fptr [.fsl 2 (List.map c_S_api_Span x1.2)] 0),V 4 (.osl 3 0 (List.length x11) 1),V 26 (.osl 3 0 (List.length x11) 1)],[W 0 1 [.fn 42 []],W 1 1 [nilS],(2,ranks_kept_scc6c_lp1 x1 .ready none),(3,.rows 1 (List.map cI x11))],4⟩ ?_
 refine jr_callM 1 [(0,some 3)] [(3,some 0)] (fun r:List Int=>[W 0 1 [.fn 42 []],W 1 1 [nilS],(2,ranks_kept_scc6c_lp1 x1 .ready none),(3,.rows 1 (List.map cI r))]) (fun r:List Int=>.tup []) 4 (slices_SortI_ok x11) (pc (hL 3 (noid_map ni_I _)) allp_nil) (fun r=>(pc (.inl ⟨rfl,rfl⟩) (pc (.inl ⟨rfl,rfl⟩) (pc (.inl ⟨rfl,rfl⟩) (pc (.inr (hL 0 (noid_map ni_I _))) allp_nil))))) ?_
 rintro x14 hm10
 try rw[← slices_SortI_len hm10]
 refine jN ?_
 refine jR ?_
 refine jG 0 1 ⟨[V 0 (.yld 2),V 1 (.fptr [.fsl 2 (List.map c_S_api_Span x1.1)] 0),V 2 (.fptr [.fsl 2 (List.map c_S_api_Span x1.2)] 0),V 28 (.osl 3 0 (List.length x14) 1)],[W 0 1 [.fn 42 []],W 1 1 [nilS],(2,ranks_kept_scc6c_lp1 x1 .ready none),(3,.rows 1 (List.map cI x14))],4⟩ ?_
 refine jr_callM 1 [(0,some 3)] [(3,some 0)] (fun r:List Int=>[W 0 1 [.fn 42 []],W 1 1 [nilS],(2,ranks_kept_scc6c_lp1 x1 .ready none),(3,.rows 1 (List.map cI r))]) (fun r:List Int=>.osl 3 0 (List.length r) 1) 4 (slices_CompactI_ok x14) (pc (hL 3 (noid_map ni_I _)) allp_nil) (fun r=>(pc (.inl ⟨rfl,rfl⟩) (pc (.inl ⟨rfl,rfl⟩) (pc (.inl ⟨rfl,rfl⟩) (pc (.inr (hL 0 (noid_map ni_I _))) allp_nil))))) ?_
 rintro x15 hm9
 refine jG 2 1 ⟨[V 0 (.yld 2),V 1 (.fptr [.fsl 2 (List.map c_S_api_Span x1.1)] 0),V 2 (.fptr [.fsl 2 (List.map c_S_api_Span x1.2)] 0),V 4 (.osl 3 0 (List.length x15) 1)],[W 0 1 [.fn 42 []],W 1 1 [nilS],(2,ranks_kept_scc6c_lp1 x1 .ready none),(3,.rows 1 (List.map cI x15))],4⟩ ?_
 refine jN ?_
 refine jS ⟨[V 0 (.yld 2),V 1 (.fptr [.fsl 2 (List.map c_S_api_Span x1.1)] 0),V 2 (.fptr [.fsl 2 (List.map c_S_api_Span x1.2)] 0),V 4 (.osl 3 0 (List.length x15) 1),V 7 (iv 1)],[W 0 1 [.fn 42 []],W 1 1 [nilS],(2,ranks_kept_scc6c_lp1 x1 .ready none),(3,.rows 1 (List.map cI x15))],4⟩ ?_
 refine jc_block ?_
 refine jc_bind (fun x34=>⟨[],[W 0 1 [.fn 42 []],W 1 1 [.osl 3 0 (List.length x34) 2],(2,ranks_kept_scc6c_lp1 x1 .ready none),(3,.rows 2 (List.map c_S_api_Span x34))],4⟩) (fun x34=>(.exit 2)) (jc_loop (fun (x23,x24)=>⟨[V 0 (.yld 2),V 1 (.fptr [.fsl 2 (List.map c_S_api_Span x1.1)] 0),V 2 (.fptr [.fsl 2 (List.map c_S_api_Span x1.2)] 0),V 4 (.osl 3 0 (List.length x15) 1),V 7 (iv x23)],[W 0 1 [.fn 42 []],W 1 1 [.osl 4 0 (List.length x24) 2],(2,ranks_kept_scc6c_lp1 x1 .ready none),(3,.rows 1 (List.map cI x15)),(4,.rows 2 (List.map c_S_api_Span x24))],5⟩) (wkR [(0,some 0),(1,some 1),(2,some 2),(3,some 3),(4,none)] (fix_of hc1.2.2 (k:=3) rfl) (pc (hC 0) (pc (hC 1) (pc (.inr (.inr ⟨2,_,_,rfl,rfl,rfl,by kernel_rfl⟩)) (pc (hL 3 (noid_map ni_I _)) (pc hZ allp_nil)))))) ?_) ?_
 ·rintro⟨x23,x24⟩
  unfold ranks_kept_scc6c_l2
  refine jc_seq ?_
  refine jS ⟨[V 0 (.yld 2),V 1 (.fptr [.fsl 2 (List.map c_S_api_Span x1.1)] 0),V 2 (.fptr [.fsl 2 (List.map c_S_api_Span x1.2)] 0),V 4 (.osl 3 0 (List.length x15) 1),V 7 (iv x23),V 33 (bv (decide (x23 < (List.length x15:Int))))],[W 0 1 [.fn 42 []],W 1 1 [.osl 4 0 (List.length x24) 2],(2,ranks_kept_scc6c_lp1 x1 .ready none),(3,.rows 1 (List.map cI x15)),(4,.rows 2 (List.map c_S_api_Span x24))],5⟩ ?_
  refine jIf ?_ ?_
  ·refine jc_skip ?_
   refine jx_seqN ?_
   refine jc_seq ?_
   refine jc_block ?_
   refine jc_seq ?_
   refine jc_full ranks_stretches_1_it_r11 [(39,8),(43,8)] ?_
   refine jG 0 3 ⟨[V 0 (.yld 2),V 1 (.fptr [.fsl 2 (List.map c_S_api_Span x1.1)] 0),V 2 (.fptr [.fsl 2 (List.map c_S_api_Span x1.2)] 0),V 4 (.osl 3 0 (List.length x15) 1),V 7 (iv x23),V 36 (.osl 3 0 (List.length x15) 1),V 38 (iv (w64 (x23 - 1)))],[W 0 1 [.fn 42 []],W 1 1 [.osl 4 0 (List.length x24) 2],(2,ranks_kept_scc6c_lp1 x1 .ready none),(3,.rows 1 (List.map cI x15)),(4,.rows 2 (List.map c_S_api_Span x24))],5⟩ ?_
   refine jr_part (i:=3) (mo:=ixl x15 (w64 (x23 - 1))) rfl rfl rfl rfl (fun _ hc=>aop_ixo0 (sz:=1) (e:=3) (kk:=.i64) (id:=3) (by kernel_rfl) (by kernel_rfl) (by kernel_rfl) (by kernel_rfl) hc) (fun _=>rfl) ?_
   intro x35 h35
   refine jr_one (i:=4) (v:=iv x35) rfl rfl rfl rfl (aop_ldo (l:=x15) (c:=cI) (id:=3) (k:=(Int.toNat (w64 (x23 - 1)))) (sz:=1) (off:=0) (a:=x35) (by kernel_rfl) (by kernel_rfl) (ixl_lt h35).2.2 (by kernel_rfl)) rfl ?_
   refine jG 5 2 ⟨[V 0 (.yld 2),V 1 (.fptr [.fsl 2 (List.map c_S_api_Span x1.1)] 0),V 2 (.fptr [.fsl 2 (List.map c_S_api_Span x1.2)] 0),V 4 (.osl 3 0 (List.length x15) 1),V 7 (iv x23),V 39 (.ptr 3 (Int.toNat (w64 (x23 - 1))) 1 0),V 40 (iv x35),V 41 (.osl 3 0 (List.length x15) 1),V 42 (iv x23)],[W 0 1 [.fn 42 []],W 1 1 [.osl 4 0 (List.length x24) 2],(2,ranks_kept_scc6c_lp1 x1 .ready none),(3,.rows 1 (List.map cI x15)),(4,.rows 2 (List.map c_S_api_Span x24))],5⟩ ?_
   refine jr_part (i:=7) (mo:=ixl x15 x23) rfl rfl rfl rfl (fun _ hc=>aop_ixo0 (sz:=1) (e:=3) (kk:=.i64) (id:=3) (by kernel_rfl) (by kernel_rfl) (by kernel_rfl) (by kernel_rfl) hc) (fun _=>rfl) ?_
   intro x36 h36
   refine jr_one (i:=8) (v:=iv x36) rfl rfl rfl rfl (aop_ldo (l:=x15) (c:=cI) (id:=3) (k:=(Int.toNat x23)) (sz:=1) (off:=0) (a:=x36) (by kernel_rfl) (by kernel_rfl) (ixl_lt h36).2.2 (by kernel_rfl)) rfl ?_
   refine jG 9 3 ⟨[V 0 (.yld 2),V 1 (.fptr [.fsl 2 (List.map c_S_api_Span x1.1)] 0),V 2 (.fptr [.fsl 2 (List.map c_S_api_Span x1.2)] 0),V 4 (.osl 3 0 (List.length x15) 1),V 7 (iv x23),V 8 (pt 5 2),V 39 (.ptr 3 (Int.toNat (w64 (x23 - 1))) 1 0),V 43 (.ptr 3 (Int.toNat x23) 1 0)],[W 0 1 [.fn 42 []],W 1 1 [.osl 4 0 (List.length x24) 2],(2,ranks_kept_scc6c_lp1 x1 .ready none),(3,.rows 1 (List.map cI x15)),(4,.rows 2 (List.map c_S_api_Span x24)),W 5 2 [iv x35,iv x36]],6⟩ ?_
   refine jr_nil rfl ?_
   refine jx_full ?_
   refine jx_seqN ?_
   refine jR ?_
   refine jG 0 5 ⟨[V 0 (.yld 2),V 1 (.fptr [.fsl 2 (List.map c_S_api_Span x1.1)] 0),V 2 (.fptr [.fsl 2 (List.map c_S_api_Span x1.2)] 0),V 4 (.osl 3 0 (List.length x15) 1),V 7 (iv x23),V 8 (pt 5 2),V 46 (.yld 2),V 47 (.agg [iv x35,iv x36]),V 48 (.fsl 2 (List.map c_S_api_Span x1.1)),V 50 (iv x35)],[W 0 1 [.fn 42 []],W 1 1 [.osl 4 0 (List.length x24) 2],(2,ranks_kept_scc6c_lp1 x1 .ready none),(3,.rows 1 (List.map cI x15)),(4,.rows 2 (List.map c_S_api_Span x24)),W 5 2 [iv x35,iv x36]],6⟩ ?_
   refine jK 5 (ranks_Has_ok x1.1 x35) ?_
   intro x37 h37
   refine jG 6 3 ⟨[V 0 (.yld 2),V 1 (.fptr [.fsl 2 (List.map c_S_api_Span x1.1)] 0),V 2 (.fptr [.fsl 2 (List.map c_S_api_Span x1.2)] 0),V 4 (.osl 3 0 (List.length x15) 1),V 7 (iv x23),V 46 (.yld 2),V 47 (.agg [iv x35,iv x36]),V 51 (bv x37),V 52 (.fsl 2 (List.map c_S_api_Span x1.2)),V 54 (iv x35)],[W 0 1 [.fn 42 []],W 1 1 [.osl 4 0 (List.length x24) 2],(2,ranks_kept_scc6c_lp1 x1 .ready none),(3,.rows 1 (List.map cI x15)),(4,.rows 2 (List.map c_S_api_Span x24))],6⟩ ?_
   refine jK 9 (ranks_Has_ok x1.2 x35) ?_
   intro x38 h38
   refine jG 10 1 ⟨[V 0 (.yld 2),V 1 (.fptr [.fsl 2 (List.map c_S_api_Span x1.1)] 0),V 2 (.fptr [.fsl 2 (List.map c_S_api_Span x1.2)] 0),V 4 (.osl 3 0 (List.length x15) 1),V 7 (iv x23),V 46 (.yld 2),V 56 (.agg [iv x35,iv x36,bv x37,bv x38])],[W 0 1 [.fn 42 []],W 1 1 [.osl 4 0 (List.length x24) 2],(2,ranks_kept_scc6c_lp1 x1 .ready none),(3,.rows 1 (List.map cI x15)),(4,.rows 2 (List.map c_S_api_Span x24))],6⟩ ?_
   refine jr_yield (i:=11) (l:=2) (Nc:=24) (Kc:=[V 5 (pt 0 1),V 7 (pt 1 1),V 11 (.fn 67 [.fptr [.fsl 2 (List.map c_S_api_Span x1.1)] 0,.fptr [.fsl 2 (List.map c_S_api_Span x1.2)] 0])]) (ps:=[12]) (vs:=[.agg [iv x35,iv x36,bv x37,bv x38]]) (fun x41=>⟨[],[W 0 1 [.fn 42 []],W 1 1 [.osl 6 0 (List.length x41) 2],(2,ranks_kept_scc6c_lp1 x1 .busy none),(3,.rows 1 (List.map cI x15)),(6,.rows 2 (List.map c_S_api_Span x41))],7⟩) (fun x41=>.normal) [0,1,2,4,7,57] [0,1,2,3,6] (after:=(fun x41=>⟨[V 0 (.yld 2),V 1 (.fptr [.fsl 2 (List.map c_S_api_Span x1.1)] 0),V 2 (.fptr [.fsl 2 (List.map c_S_api_Span x1.2)] 0),V 4 (.osl 3 0 (List.length x15) 1),V 7 (iv x23),V 57 (bv true)],[W 0 1 [.fn 42 []],W 1 1 [.osl 6 0 (List.length x41) 2],(2,ranks_kept_scc6c_lp1 x1 .ready none),(3,.rows 1 (List.map cI x15)),(6,.rows 2 (List.map c_S_api_Span x41))],7⟩)) rfl rfl ranks_kept_scc6c_y7_aw ranks_kept_scc6c_y7_bw (by kernel_rfl) (by kernel_rfl) (yctx_of hc1 rfl) rfl (by kernel_rfl) rfl ?_ (by intro x41 <;> exact⟨none,by kernel_rfl⟩) (by intro x41 <;> kernel_rfl) ?_
   ·intro F6 hy6
    refine jT ⟨[V 5 (pt 0 1),V 7 (pt 1 1),V 8 (pt 6 4)],[W 0 1 [.fn 42 []],W 1 1 [.osl 4 0 (List.length x24) 2],(2,ranks_kept_scc6c_lp1 x1 .ready none),(3,.rows 1 (List.map cI x15)),(4,.rows 2 (List.map c_S_api_Span x24)),W 6 4 [iv x35,iv x36,bv x37,bv x38]],7⟩ ?_
    refine jx_asg hy6 rfl ?_
    refine jc_block ?_
    refine jR ?_
    refine jG 0 5 ⟨[V 7 (pt 1 1),V 8 (pt 6 4),V 13 (.fn 42 []),V 15 (bv x37),V 17 (bv x38)],[W 0 1 [.fn 42 []],W 1 1 [.osl 4 0 (List.length x24) 2],(2,ranks_kept_scc6c_lp1 x1 .busy none),(3,.rows 1 (List.map cI x15)),(4,.rows 2 (List.map c_S_api_Span x24)),W 6 4 [iv x35,iv x36,bv x37,bv x38]],7⟩ ?_
    refine jr_callV (i:=5) rfl rfl rfl rfl (g:=42) (caps:=[]) (avs:=[bv x37,bv x38]) (vs:=[bv x37,bv x38]) (by kernel_rfl) (by kernel_rfl) rfl (snapL_cons rfl (snapL_cons rfl (snapL_nil _))) (all2_cons (fle_refl _) (all2_cons (fle_refl _) all2_nil)) (ranks_Minus_1_ok x37 x38) (fun _=>rfl) (fun _=>rfl) ?_
    intro x42 h42
    refine jN ?_
    refine jIf ?_ ?_
    ·refine jc_reg ?_
     refine jG 0 3 ⟨[V 7 (pt 1 1),V 19 (.osl 4 0 (List.length x24) 2),V 21 (.agg [iv x35,iv x36])],[W 0 1 [.fn 42 []],W 1 1 [.osl 4 0 (List.length x24) 2],(2,ranks_kept_scc6c_lp1 x1 .busy none),(3,.rows 1 (List.map cI x15)),(4,.rows 2 (List.map c_S_api_Span x24))],7⟩ ?_
     refine jr_callM 3 [(0,some 4)] [(7,some 1)] (fun r:List S_api_Span=>[W 0 1 [.fn 42 []],W 1 1 [.osl 4 0 (List.length x24) 2],(2,ranks_kept_scc6c_lp1 x1 .busy none),(3,.rows 1 (List.map cI x15)),(7,.rows 2 (List.map c_S_api_Span r))]) (fun r:List S_api_Span=>.osl 7 0 (List.length r) 2) 8 (ranks_add_maa59_ok x24 x35 x36) (pc (hL 4 (noid_map ni_S_api_Span _)) allp_nil) (fun r=>(pc (.inl ⟨rfl,rfl⟩) (pc (.inl ⟨rfl,rfl⟩) (pc (.inl ⟨rfl,rfl⟩) (pc (.inl ⟨rfl,rfl⟩) (pc (.inr (hL 1 (noid_map ni_S_api_Span _))) allp_nil)))))) ?_
     rintro x43 hm8
     refine jG 4 1 ⟨[],[W 0 1 [.fn 42 []],W 1 1 [.osl 7 0 (List.length x43) 2],(2,ranks_kept_scc6c_lp1 x1 .busy none),(3,.rows 1 (List.map cI x15)),(7,.rows 2 (List.map c_S_api_Span x43))],8⟩ ?_
     refine jr_nil rfl ?_
     refine jx_blkN ?_
     exact jx_mid rfl (wkR [(0,some 0),(1,some 1),(2,some 2),(3,some 3),(4,some 4),(5,some 5),(6,some 7)] (fix_of hy6.2 (k:=6) rfl) (pc (hC 0) (pc (hC 1) (pc (.inr (.inr ⟨2,_,_,rfl,rfl,rfl,by kernel_rfl⟩)) (pc (hL 3 (noid_map ni_I _)) (pc (hL 7 (noid_map ni_S_api_Span _)) allp_nil))))))
    refine jc_skip ?_
    refine jx_blkN ?_
    exact jx_mid rfl (wkR [(0,some 0),(1,some 1),(2,some 2),(3,some 3),(4,some 4),(5,some 5),(6,some 4)] (fix_of hy6.2 (k:=6) rfl) (pc (hC 0) (pc (hC 1) (pc (.inr (.inr ⟨2,_,_,rfl,rfl,rfl,by kernel_rfl⟩)) (pc (hL 3 (noid_map ni_I _)) (pc (hL 4 (noid_map ni_S_api_Span _)) allp_nil))))))
   intro x41
   refine jG 12 1 ⟨[V 0 (.yld 2),V 1 (.fptr [.fsl 2 (List.map c_S_api_Span x1.1)] 0),V 2 (.fptr [.fsl 2 (List.map c_S_api_Span x1.2)] 0),V 4 (.osl 3 0 (List.length x15) 1),V 7 (iv x23),V 58 (bv false)],[W 0 1 [.fn 42 []],W 1 1 [.osl 6 0 (List.length x41) 2],(2,ranks_kept_scc6c_lp1 x1 .ready none),(3,.rows 1 (List.map cI x15)),(6,.rows 2 (List.map c_S_api_Span x41))],7⟩ ?_
   refine jN ?_
   refine jc_condK (c:=false) (by kernel_rfl) ?_
   refine jc_skip ?_
   refine jx_blkN ?_
   refine jx_seqN ?_
   refine jT ⟨[V 0 (.yld 2),V 1 (.fptr [.fsl 2 (List.map c_S_api_Span x1.1)] 0),V 2 (.fptr [.fsl 2 (List.map c_S_api_Span x1.2)] 0),V 4 (.osl 3 0 (List.length x15) 1),V 7 (iv (w64 (x23 + 1)))],[W 0 1 [.fn 42 []],W 1 1 [.osl 6 0 (List.length x41) 2],(2,ranks_kept_scc6c_lp1 x1 .ready none),(3,.rows 1 (List.map cI x15)),(6,.rows 2 (List.map c_S_api_Span x41))],7⟩ ?_
   exact jx_next (wkR [(0,some 0),(1,some 1),(2,some 2),(3,some 3),(4,some 6)] (fix_of hc1.2.2 (k:=3) rfl) (pc (hC 0) (pc (hC 1) (pc (.inr (.inr ⟨2,_,_,rfl,rfl,rfl,by kernel_rfl⟩)) (pc (hL 3 (noid_map ni_I _)) (pc (hL 6 (noid_map ni_S_api_Span _)) allp_nil))))))
  refine jc_exit ?_
  refine jx_seqE ?_
  exact jx_done rfl nofun (wkR [(0,some 0),(1,some 1),(2,some 2),(3,some 4)] (fix_of hc1.2.2 (k:=3) rfl) (pc (hC 0) (pc (hC 1) (pc (.inr (.inr ⟨2,_,_,rfl,rfl,rfl,by kernel_rfl⟩)) (pc (hL 4 (noid_map ni_S_api_Span _)) allp_nil)))))
 intro x34
 refine jx_blkE ?_
 refine jx_rng hc1 (.inl rfl) rfl nofun rfl ?_
 refine jx_blkN ?_
 refine jx_seqN ?_
 refine jS ⟨[V 6 (.osl 3 0 (List.length x34) 2)],[(3,.rows 2 (List.map c_S_api_Span x34))],4⟩ ?_
 refine jc_ret ?_
 exact jx_retF (.inr rfl) (v:=.osl 3 0 (List.length x34) 2) (by kernel_rfl) (snapc_own fz_S_api_Span (by kernel_rfl)) (fle_refl _))
abbrev ranks_Minus_r1:List LO:=[lo 4 (.assign (.const (.slice none 0 0))) 22]
abbrev ranks_Minus_r2:List LO:=[lm 5 0 22,lm 6 1 22,lo 7 (.call ⟨.value (.func 39),#[.tmp 5,.tmp 6,.func 42],#[22,22,47]⟩) 22,lo 4 (.assign (.tmp 7)) 22]
abbrev ranks_Minus_c:LC:=.seq (.reg false ranks_Minus_r1) (.seq (.reg false ranks_Minus_r2) .ret)
theorem ranks_Minus_k:FnOk E 15 8 [.tmp 4] ranks_Minus_c:=⟨⟨Go.Proofs.Tryd.f15,by kernel_rfl,by kernel_rfl,by kernel_rfl,by kernel_rfl,by kernel_rfl⟩,rfl,rfl⟩
noncomputable def ranks_Minus (a0:(List S_api_Span)) (a1:(List S_api_Span)):Option ((List S_api_Span)):=Option.bind (ranks_kept_scc6c a0 a1) (fun x1=>some x1)
theorem ranks_Minus_ok (a0:(List S_api_Span)) (a1:(List S_api_Span)):Ct E 15 [.fsl 2 (List.map c_S_api_Span a0),.fsl 2 (List.map c_S_api_Span a1)] (ranks_Minus a0 a1) (fun r:(List S_api_Span)=>.fsl 2 (List.map c_S_api_Span r)):=ct_intro (N:=8) (L:=ranks_Minus_c) ranks_Minus_k rfl (Nat.le_of_ble_eq_true rfl) (by kernel_rfl) (by
 unfold ranks_Minus
 refine jS ⟨[V 0 (.fsl 2 (List.map c_S_api_Span a0)),V 1 (.fsl 2 (List.map c_S_api_Span a1))],[],0⟩ ?_
 refine jR ?_
 refine jG 0 2 ⟨[V 5 (.fsl 2 (List.map c_S_api_Span a0)),V 6 (.fsl 2 (List.map c_S_api_Span a1))],[],0⟩ ?_
 refine jK 2 (ranks_kept_scc6c_ok a0 a1) ?_
 intro x1 h1
 refine jG 3 1 ⟨[V 4 (.fsl 2 (List.map c_S_api_Span x1))],[],0⟩ ?_
 refine jN ?_
 refine jc_ret ?_
 exact jx_retF (.inr rfl) (v:=.fsl 2 (List.map c_S_api_Span x1)) (by kernel_rfl) rfl (fle_refl _))
abbrev ranks_Not_r1:List LO:=[lo 4 (.assign (.const (.slice none 0 0))) 22]
abbrev ranks_Not_r2:List LO:=[lm 5 0 3,lo 6 (.call ⟨.value (.func 14),#[.tmp 5],#[3]⟩) 22,lm 7 1 22,lo 8 (.call ⟨.value (.func 15),#[.tmp 6,.tmp 7],#[22,22]⟩) 22,lo 4 (.assign (.tmp 8)) 22]
abbrev ranks_Not_c:LC:=.seq (.reg false ranks_Not_r1) (.seq (.reg false ranks_Not_r2) .ret)
theorem ranks_Not_k:FnOk E 12 9 [.tmp 4] ranks_Not_c:=⟨⟨Go.Proofs.Tryd.f12,by kernel_rfl,by kernel_rfl,by kernel_rfl,by kernel_rfl,by kernel_rfl⟩,rfl,rfl⟩
noncomputable def ranks_Not (a0:Int) (a1:(List S_api_Span)):Option ((List S_api_Span)):=Option.bind (ranks_All a0) (fun x1=>Option.bind (ranks_Minus x1 a1) (fun x2=>some x2))
theorem ranks_Not_ok (a0:Int) (a1:(List S_api_Span)):Ct E 12 [iv a0,.fsl 2 (List.map c_S_api_Span a1)] (ranks_Not a0 a1) (fun r:(List S_api_Span)=>.fsl 2 (List.map c_S_api_Span r)):=ct_intro (N:=9) (L:=ranks_Not_c) ranks_Not_k rfl (Nat.le_of_ble_eq_true rfl) (by kernel_rfl) (by
 unfold ranks_Not
 refine jS ⟨[V 0 (iv a0),V 1 (.fsl 2 (List.map c_S_api_Span a1))],[],0⟩ ?_
 refine jR ?_
 refine jG 0 1 ⟨[V 1 (.fsl 2 (List.map c_S_api_Span a1)),V 5 (iv a0)],[],0⟩ ?_
 refine jK 1 (ranks_All_ok a0) ?_
 intro x1 h1
 refine jG 2 1 ⟨[V 6 (.fsl 2 (List.map c_S_api_Span x1)),V 7 (.fsl 2 (List.map c_S_api_Span a1))],[],0⟩ ?_
 refine jK 3 (ranks_Minus_ok x1 a1) ?_
 intro x2 h2
 refine jG 4 1 ⟨[V 4 (.fsl 2 (List.map c_S_api_Span x2))],[],0⟩ ?_
 refine jN ?_
 refine jc_ret ?_
 exact jx_retF (.inr rfl) (v:=.fsl 2 (List.map c_S_api_Span x2)) (by kernel_rfl) rfl (fle_refl _))
abbrev ranks_Union_1_r1:List LO:=[lo 4 (.assign (.const (.bool false))) 4]
abbrev ranks_Union_1_r2:List LO:=[lm 5 0 4,lm 6 5 4,lmg 7 1 4 6 false,lo 8 (.pick (.tmp 6) (.const (.bool true)) (.tmp 7)) 4,lo 4 (.assign (.tmp 8)) 4]
abbrev ranks_Union_1_c:LC:=.seq (.reg false ranks_Union_1_r1) (.seq (.reg false ranks_Union_1_r2) .ret)
theorem ranks_Union_1_k:FnOk E 40 9 [.tmp 4] ranks_Union_1_c:=⟨⟨Go.Proofs.Tryd.f40,by kernel_rfl,by kernel_rfl,by kernel_rfl,by kernel_rfl,by kernel_rfl⟩,rfl,rfl⟩
noncomputable def ranks_Union_1 (a0:Bool) (a1:Bool):Option (Bool):=some (a0 || a1)
theorem ranks_Union_1_ok (a0:Bool) (a1:Bool):Ct E 40 [bv a0,bv a1] (ranks_Union_1 a0 a1) (fun r:Bool=>bv r):=ct_intro (N:=9) (L:=ranks_Union_1_c) ranks_Union_1_k rfl (Nat.le_of_ble_eq_true rfl) (by kernel_rfl) (by
 unfold ranks_Union_1
 refine jS ⟨[V 0 (bv a0),V 1 (bv a1)],[],0⟩ ?_
 refine jS ⟨[V 4 (bv (a0 || a1))],[],0⟩ ?_
 refine jc_ret ?_
 exact jx_retF (.inr rfl) (v:=bv (a0 || a1)) (by kernel_rfl) rfl (fle_refl _))
abbrev ranks_kept_s1155_r1:List LO:=[lo 5 (.box 47 (.tmp 2)) 0,lo 6 (.assign (.const (.slice none 0 0))) 22]
abbrev ranks_kept_s1155_r2:List LO:=[lo 7 (.alloc 22) 0]
abbrev ranks_kept_s1155_r3:List LO:=[lm 9 0 22,lm 10 1 22,lo 11 (.call ⟨.value (.func 56),#[.tmp 9,.tmp 10],#[22,22]⟩) 61]
abbrev ranks_kept_s1155_r4:List LO:=[lo 8 (.alloc 64) 0,ln (.store 64 (.tmp 8) (.tmp 12)) 0]
abbrev ranks_kept_s1155_r5:List LO:=[lo 13 (.load 47 (.tmp 5)) 47,lo 14 (.fieldAddr 64 (.tmp 8) 1) 0,lo 15 (.load 4 (.tmp 14)) 4,lo 16 (.fieldAddr 64 (.tmp 8) 2) 0,lo 17 (.load 4 (.tmp 16)) 4,lo 18 (.call ⟨.value (.tmp 13),#[.tmp 15,.tmp 17],#[4,4]⟩) 4]
abbrev ranks_kept_s1155_r6:List LO:=[lo 19 (.load 22 (.tmp 7)) 22,lo 20 (.fieldAddr 64 (.tmp 8) 0) 0,lo 21 (.load 45 (.tmp 20)) 45,lo 22 (.call ⟨.value (.func 48),#[.tmp 19,.tmp 21],#[22,45]⟩) 22,ln (.store 22 (.tmp 7) (.tmp 22)) 0]
noncomputable def ranks_kept_s1155_y7_a0:Code:=codeSub (bodyOf Go.Proofs.Tryd.f39) [1,1,0,1,0,0]
theorem ranks_kept_s1155_y7_aw:lower E ranks_kept_s1155_y7_a0=some (.reg false ranks_kept_s1155_r4):=by kernel_rfl
noncomputable def ranks_kept_s1155_y7_b0:Code:=codeSub (bodyOf Go.Proofs.Tryd.f39) [1,1,0,1,0,1]
theorem ranks_kept_s1155_y7_bw:lower E ranks_kept_s1155_y7_b0=some (.block 1 (.seq (.reg false ranks_kept_s1155_r5) (.cond (.tmp 18) (.reg false ranks_kept_s1155_r6) .skip))):=by kernel_rfl
abbrev ranks_kept_s1155_r8:List LO:=[lo 23 (.load 22 (.tmp 7)) 22,lo 6 (.assign (.tmp 23)) 22]
noncomputable abbrev ranks_kept_s1155_c:LC:=.seq (.reg false ranks_kept_s1155_r1) (.seq (.reg false ranks_kept_s1155_r2) (.seq (.seq (.reg false ranks_kept_s1155_r3) (.block 0 (.rng (.tmp 11) [12] ranks_kept_s1155_y7_a0 ranks_kept_s1155_y7_b0))) (.seq (.reg false ranks_kept_s1155_r8) .ret)))
theorem ranks_kept_s1155_k:FnOk E 39 24 [.tmp 6] ranks_kept_s1155_c:=⟨⟨Go.Proofs.Tryd.f39,by kernel_rfl,by kernel_rfl,by kernel_rfl,by kernel_rfl,by kernel_rfl⟩,rfl,rfl⟩
noncomputable abbrev ranks_kept_s1155_lp1 (x1:List S_api_Span × List S_api_Span) (q:LoopState) (p:Option Code):AObj:=.loop { state:=q,pending:=p,tmps:=tl 24 [V 5 (pt 0 1),V 7 (pt 1 1),V 11 (.fn 67 [.fptr [.fsl 2 (List.map c_S_api_Span x1.1)] 0,.fptr [.fsl 2 (List.map c_S_api_Span x1.2)] 0])] none,params:=[12],assign:=ranks_kept_s1155_y7_a0,body:=ranks_kept_s1155_y7_b0 }
noncomputable def ranks_kept_s1155_l1 (x2:List S_api_Span):(List Int × Int)→Option (Step (List Int × Int) (List Int)):=fun (x5,x6)=>(if (decide (x6 < (List.length x2:Int)))=true then Option.bind (ixl x2 x6) (fun x12=>Option.bind (app 8 x5 [x12.Lo,x12.Hi]) (fun x13=>some (Step.next (x13,(w64 (x6 + 1)))))) else some (Step.done x5))
noncomputable def ranks_kept_s1155_l2 (x1:List S_api_Span × List S_api_Span) (x15:List Int):(Int × List S_api_Span)→Option (Step (Int × List S_api_Span) (List S_api_Span)):=fun (x23,x24)=>(if (decide (x23 < (List.length x15:Int)))=true then Option.bind (ixl x15 (w64 (x23 - 1))) (fun x35=>Option.bind (ixl x15 x23) (fun x36=>Option.bind (ranks_Has x1.1 x35) (fun x37=>Option.bind (ranks_Has x1.2 x35) (fun x38=>Option.bind (Option.bind (ranks_Union_1 x37 x38) (fun x42=>(if x42=true then Option.bind (ranks_add_maa59 x24 x35 x36) (fun x43=>some x43) else some x24)):Option (List S_api_Span)) (fun x41=>some (Step.next ((w64 (x23 + 1)),x41))))))) else some (Step.done x24))
noncomputable def ranks_kept_s1155 (a0:(List S_api_Span)) (a1:(List S_api_Span)):Option ((List S_api_Span)):=Option.bind (ranks_stretches a0 a1) (fun x1=>Option.bind (slices_Concat_api_Span_api_Span [x1.1,x1.2]) (fun x2=>Option.bind (loopC (ranks_kept_s1155_l1 x2) ([],0)) (fun x11=>Option.bind (slices_SortI x11) (fun x14=>Option.bind (slices_CompactI x14) (fun x15=>Option.bind (loopC (ranks_kept_s1155_l2 x1 x15) (1,[])) (fun x34=>some x34))))))
theorem ranks_kept_s1155_ok (a0:(List S_api_Span)) (a1:(List S_api_Span)):Ct E 39 [.fsl 2 (List.map c_S_api_Span a0),.fsl 2 (List.map c_S_api_Span a1),.fn 40 []] (ranks_kept_s1155 a0 a1) (fun r:(List S_api_Span)=>.fsl 2 (List.map c_S_api_Span r)):=ct_intro (N:=24) (L:=ranks_kept_s1155_c) ranks_kept_s1155_k rfl (Nat.le_of_ble_eq_true rfl) (by kernel_rfl) (by
 unfold ranks_kept_s1155
 refine jS ⟨[V 0 (.fsl 2 (List.map c_S_api_Span a0)),V 1 (.fsl 2 (List.map c_S_api_Span a1)),V 5 (pt 0 1)],[W 0 1 [.fn 40 []]],1⟩ ?_
 refine jS ⟨[V 0 (.fsl 2 (List.map c_S_api_Span a0)),V 1 (.fsl 2 (List.map c_S_api_Span a1)),V 5 (pt 0 1),V 7 (pt 1 1)],[W 0 1 [.fn 40 []],W 1 1 [nilS]],2⟩ ?_
 refine jc_seq ?_
 refine jR ?_
 refine jG 0 2 ⟨[V 5 (pt 0 1),V 7 (pt 1 1),V 9 (.fsl 2 (List.map c_S_api_Span a0)),V 10 (.fsl 2 (List.map c_S_api_Span a1))],[W 0 1 [.fn 40 []],W 1 1 [nilS]],2⟩ ?_
 refine jK 2 (ranks_stretches_ok a0 a1) ?_
 intro x1 h1
 refine jN ?_
 refine jc_block ?_
 refine jc_keep [5,7,11] [0,1] (st1:=⟨[V 5 (pt 0 1),V 7 (pt 1 1),V 11 (.fn 67 [.fptr [.fsl 2 (List.map c_S_api_Span x1.1)] 0,.fptr [.fsl 2 (List.map c_S_api_Span x1.2)] 0])],[W 0 1 [.fn 40 []],W 1 1 [nilS]],2⟩) (by kernel_rfl) ?_
 refine jc_rng (g:=67) (caps:=[.fptr [.fsl 2 (List.map c_S_api_Span x1.1)] 0,.fptr [.fsl 2 (List.map c_S_api_Span x1.2)] 0]) (by kernel_rfl) ranks_stretches_1_it_k (Nat.le_of_ble_eq_true rfl) ?_
 intro F1 hc1
 refine jS ⟨[V 0 (.yld 2),V 1 (.fptr [.fsl 2 (List.map c_S_api_Span x1.1)] 0),V 2 (.fptr [.fsl 2 (List.map c_S_api_Span x1.2)] 0),V 4 (nilS)],[W 0 1 [.fn 40 []],W 1 1 [nilS],(2,ranks_kept_s1155_lp1 x1 .ready none)],3⟩ ?_
 refine jc_seq ?_
 refine jR ?_
 refine jG 0 3 ⟨[V 0 (.yld 2),V 1 (.fptr [.fsl 2 (List.map c_S_api_Span x1.1)] 0),V 2 (.fptr [.fsl 2 (List.map c_S_api_Span x1.2)] 0),V 4 (nilS),V 11 (.osl 3 0 (List.length [x1.1,x1.2]) 1)],[W 0 1 [.fn 40 []],W 1 1 [nilS],(2,ranks_kept_s1155_lp1 x1 .ready none),(3,.rows 1 (List.map c_L45 [x1.1,x1.2]))],4⟩ ?_
 refine jr_callM 3 [(0,some 3)] [(3,some 0),(4,some 1)] (fun r:List S_api_Span=>[W 0 1 [.fn 40 []],W 1 1 [nilS],(2,ranks_kept_s1155_lp1 x1 .ready none),(3,.rows 1 (List.map c_L45 [x1.1,x1.2])),(4,.rows 2 (List.map c_S_api_Span r))]) (fun r:List S_api_Span=>.osl 4 0 (List.length r) 2) 5 (slices_Concat_api_Span_api_Span_ok [x1.1,x1.2]) (pc (hL 3 (noid_map ni_L45 _)) allp_nil) (fun r=>(pc (.inl ⟨rfl,rfl⟩) (pc (.inl ⟨rfl,rfl⟩) (pc (.inl ⟨rfl,rfl⟩) (pc (.inr (hL 0 (noid_map ni_L45 _))) (pc (.inr (hL 1 (noid_map ni_S_api_Span _))) allp_nil)))))) ?_
 rintro x2 hm11
 refine jG 4 2 ⟨[V 0 (.yld 2),V 1 (.fptr [.fsl 2 (List.map c_S_api_Span x1.1)] 0),V 2 (.fptr [.fsl 2 (List.map c_S_api_Span x1.2)] 0),V 4 (nilS),V 12 (.osl 4 0 (List.length x2) 2),V 13 (iv (List.length x2:Int)),V 14 (iv 0)],[W 0 1 [.fn 40 []],W 1 1 [nilS],(2,ranks_kept_s1155_lp1 x1 .ready none),(4,.rows 2 (List.map c_S_api_Span x2))],5⟩ ?_
 refine jN ?_
 refine jc_block ?_
 refine jc_bind (fun x11=>⟨[V 0 (.yld 2),V 1 (.fptr [.fsl 2 (List.map c_S_api_Span x1.1)] 0),V 2 (.fptr [.fsl 2 (List.map c_S_api_Span x1.2)] 0),V 4 (.osl 3 0 (List.length x11) 1)],[W 0 1 [.fn 40 []],W 1 1 [nilS],(2,ranks_kept_s1155_lp1 x1 .ready none),(3,.rows 1 (List.map cI x11))],4⟩) (fun x11=>(.exit 0)) (jc_loop (fun (x5,x6)=>⟨[V 0 (.yld 2),V 1 (.fptr [.fsl 2 (List.map c_S_api_Span x1.1)] 0),V 2 (.fptr [.fsl 2 (List.map c_S_api_Span x1.2)] 0),V 4 (.osl 3 0 (List.length x5) 1),V 12 (.osl 4 0 (List.length x2) 2),V 13 (iv (List.length x2:Int)),V 14 (iv x6)],[W 0 1 [.fn 40 []],W 1 1 [nilS],(2,ranks_kept_s1155_lp1 x1 .ready none),(3,.rows 1 (List.map cI x5)),(4,.rows 2 (List.map c_S_api_Span x2))],5⟩) (wkR [(0,some 0),(1,some 1),(2,some 2),(3,none),(4,some 4)] (fix_of hc1.2.2 (k:=3) rfl) (pc (hC 0) (pc (hC 1) (pc (.inr (.inr ⟨2,_,_,rfl,rfl,rfl,by kernel_rfl⟩)) (pc hZ (pc (hL 4 (noid_map ni_S_api_Span _)) allp_nil)))))) ?_) ?_
 ·rintro⟨x5,x6⟩
  unfold ranks_kept_s1155_l1
  refine jS ⟨[V 0 (.yld 2),V 1 (.fptr [.fsl 2 (List.map c_S_api_Span x1.1)] 0),V 2 (.fptr [.fsl 2 (List.map c_S_api_Span x1.2)] 0),V 4 (.osl 3 0 (List.length x5) 1),V 12 (.osl 4 0 (List.length x2) 2),V 13 (iv (List.length x2:Int)),V 14 (iv x6),V 15 (bv (decide (x6 < (List.length x2:Int))))],[W 0 1 [.fn 40 []],W 1 1 [nilS],(2,ranks_kept_s1155_lp1 x1 .ready none),(3,.rows 1 (List.map cI x5)),(4,.rows 2 (List.map c_S_api_Span x2))],5⟩ ?_
  refine jc_seq ?_
  refine jIf ?_ ?_
  ·refine jc_skip ?_
   refine jx_seqN ?_
   refine jc_seq ?_
   refine jc_block ?_
   refine jR ?_
   refine jr_part (i:=0) (mo:=ixl x2 x6) rfl rfl rfl rfl (fun _ hc=>aop_ixo0 (sz:=2) (e:=45) (kk:=.i64) (id:=4) (by kernel_rfl) (by kernel_rfl) (by kernel_rfl) (by kernel_rfl) hc) (fun _=>rfl) ?_
   intro x12 h12
   refine jr_one (i:=1) (v:=.agg [iv x12.Lo,iv x12.Hi]) rfl rfl rfl rfl (aop_ldo (l:=x2) (c:=c_S_api_Span) (id:=4) (k:=(Int.toNat x6)) (sz:=2) (off:=0) (a:=x12) (by kernel_rfl) (by kernel_rfl) (ixl_lt h12).2.2 (by kernel_rfl)) rfl ?_
   refine jG 2 2 ⟨[V 0 (.yld 2),V 1 (.fptr [.fsl 2 (List.map c_S_api_Span x1.1)] 0),V 2 (.fptr [.fsl 2 (List.map c_S_api_Span x1.2)] 0),V 4 (.osl 3 0 (List.length x5) 1),V 6 (pt 5 2),V 12 (.osl 4 0 (List.length x2) 2),V 13 (iv (List.length x2:Int)),V 14 (iv x6)],[W 0 1 [.fn 40 []],W 1 1 [nilS],(2,ranks_kept_s1155_lp1 x1 .ready none),(3,.rows 1 (List.map cI x5)),(4,.rows 2 (List.map c_S_api_Span x2)),W 5 2 [iv x12.Lo,iv x12.Hi]],6⟩ ?_
   refine jN ?_
   refine jc_reg ?_
   refine jG 0 6 ⟨[V 0 (.yld 2),V 1 (.fptr [.fsl 2 (List.map c_S_api_Span x1.1)] 0),V 2 (.fptr [.fsl 2 (List.map c_S_api_Span x1.2)] 0),V 12 (.osl 4 0 (List.length x2) 2),V 13 (iv (List.length x2:Int)),V 14 (iv x6),V 18 (.osl 3 0 (List.length x5) 1),V 23 (.osl 6 0 (List.length [x12.Lo,x12.Hi]) 1)],[W 0 1 [.fn 40 []],W 1 1 [nilS],(2,ranks_kept_s1155_lp1 x1 .ready none),(3,.rows 1 (List.map cI x5)),(4,.rows 2 (List.map c_S_api_Span x2)),(6,.rows 1 (List.map cI [x12.Lo,x12.Hi]))],7⟩ ?_
   refine jr_part (i:=6) (mo:=app 8 x5 [x12.Lo,x12.Hi]) rfl rfl rfl rfl (fun _ hc=>aop_app (u:=.osl 3 0 (List.length x5) 1) (w:=.osl 6 0 (List.length [x12.Lo,x12.Hi]) 1) (e:=3) (td:=.slice 3) (by kernel_rfl) (by kernel_rfl) (by kernel_rfl) (by kernel_rfl) (.inl ⟨_,rfl⟩) (appendOf_own (c:=cI) (sz:=1) (b:=8) (id:=3) (by kernel_rfl) (by kernel_rfl) (rows_own (by kernel_rfl)) (List.cons_ne_nil _ _) hc)) (fun _=>rfl) ?_
   intro x13 h13
   refine jG 7 1 ⟨[V 0 (.yld 2),V 1 (.fptr [.fsl 2 (List.map c_S_api_Span x1.1)] 0),V 2 (.fptr [.fsl 2 (List.map c_S_api_Span x1.2)] 0),V 4 (.osl 7 0 (List.length x13) 1),V 12 (.osl 4 0 (List.length x2) 2),V 13 (iv (List.length x2:Int)),V 14 (iv x6)],[W 0 1 [.fn 40 []],W 1 1 [nilS],(2,ranks_kept_s1155_lp1 x1 .ready none),(4,.rows 2 (List.map c_S_api_Span x2)),(7,.rows 1 (List.map cI x13))],8⟩ ?_
   refine jr_nil rfl ?_
   refine jx_blkN ?_
   refine jx_seqN ?_
   refine jT ⟨[V 0 (.yld 2),V 1 (.fptr [.fsl 2 (List.map c_S_api_Span x1.1)] 0),V 2 (.fptr [.fsl 2 (List.map c_S_api_Span x1.2)] 0),V 4 (.osl 7 0 (List.length x13) 1),V 12 (.osl 4 0 (List.length x2) 2),V 13 (iv (List.length x2:Int)),V 14 (iv (w64 (x6 + 1)))],[W 0 1 [.fn 40 []],W 1 1 [nilS],(2,ranks_kept_s1155_lp1 x1 .ready none),(4,.rows 2 (List.map c_S_api_Span x2)),(7,.rows 1 (List.map cI x13))],8⟩ ?_
   exact jx_next (wkR [(0,some 0),(1,some 1),(2,some 2),(3,some 7),(4,some 4)] (fix_of hc1.2.2 (k:=3) rfl) (pc (hC 0) (pc (hC 1) (pc (.inr (.inr ⟨2,_,_,rfl,rfl,rfl,by kernel_rfl⟩)) (pc (hL 7 (noid_map ni_I _)) (pc (hL 4 (noid_map ni_S_api_Span _)) allp_nil))))))
  refine jc_exit ?_
  refine jx_seqE ?_
  exact jx_done rfl nofun (wkR [(0,some 0),(1,some 1),(2,some 2),(3,some 3)] (fix_of hc1.2.2 (k:=3) rfl) (pc (hC 0) (pc (hC 1) (pc (.inr (.inr ⟨2,_,_,rfl,rfl,rfl,by kernel_rfl⟩)) (pc (hL 3 (noid_map ni_I _)) allp_nil)))))
 intro x11
 refine jx_blkE ?_
 refine jx_seqN ?_
 refine jR ?_
 refine jG 0 1 ⟨[V 0 (.yld 2),V 1 (.fptr [.fsl 2 (List.map c_S_api_Span x1.1)] 0),V 2 (.fptr [.fsl 2 (List.map c_S_api_Span x1.2)] 0),V 4 (.osl 3 0 (List.length x11) 1),V 26 (.osl 3 0 (List.length x11) 1)],[W 0 1 [.fn 40 []],W 1 1 [nilS],(2,ranks_kept_s1155_lp1 x1 .ready none),(3,.rows 1 (List.map cI x11))],4⟩ ?_
 refine jr_callM 1 [(0,some 3)] [(3,some 0)] (fun r:List Int=>[W 0 1 [.fn 40 []],W 1 1 [nilS],(2,ranks_kept_s1155_lp1 x1 .ready none),(3,.rows 1 (List.map cI r))]) (fun r:List Int=>.tup []) 4 (slices_SortI_ok x11) (pc (hL 3 (noid_map ni_I _)) allp_nil) (fun r=>(pc (.inl ⟨rfl,rfl⟩) (pc (.inl ⟨rfl,rfl⟩) (pc (.inl ⟨rfl,rfl⟩) (pc (.inr (hL 0 (noid_map ni_I _))) allp_nil))))) ?_
 rintro x14 hm10
 try rw[← slices_SortI_len hm10]
 refine jN ?_
 refine jR ?_
 refine jG 0 1 ⟨[V 0 (.yld 2),V 1 (.fptr [.fsl 2 (List.map c_S_api_Span x1.1)] 0),V 2 (.fptr [.fsl 2 (List.map c_S_api_Span x1.2)] 0),V 28 (.osl 3 0 (List.length x14) 1)],[W 0 1 [.fn 40 []],W 1 1 [nilS],(2,ranks_kept_s1155_lp1 x1 .ready none),(3,.rows 1 (List.map cI x14))],4⟩ ?_
 refine jr_callM 1 [(0,some 3)] [(3,some 0)] (fun r:List Int=>[W 0 1 [.fn 40 []],W 1 1 [nilS],(2,ranks_kept_s1155_lp1 x1 .ready none),(3,.rows 1 (List.map cI r))]) (fun r:List Int=>.osl 3 0 (List.length r) 1) 4 (slices_CompactI_ok x14) (pc (hL 3 (noid_map ni_I _)) allp_nil) (fun r=>(pc (.inl ⟨rfl,rfl⟩) (pc (.inl ⟨rfl,rfl⟩) (pc (.inl ⟨rfl,rfl⟩) (pc (.inr (hL 0 (noid_map ni_I _))) allp_nil))))) ?_
 rintro x15 hm9
 refine jG 2 1 ⟨[V 0 (.yld 2),V 1 (.fptr [.fsl 2 (List.map c_S_api_Span x1.1)] 0),V 2 (.fptr [.fsl 2 (List.map c_S_api_Span x1.2)] 0),V 4 (.osl 3 0 (List.length x15) 1)],[W 0 1 [.fn 40 []],W 1 1 [nilS],(2,ranks_kept_s1155_lp1 x1 .ready none),(3,.rows 1 (List.map cI x15))],4⟩ ?_
 refine jN ?_
 refine jS ⟨[V 0 (.yld 2),V 1 (.fptr [.fsl 2 (List.map c_S_api_Span x1.1)] 0),V 2 (.fptr [.fsl 2 (List.map c_S_api_Span x1.2)] 0),V 4 (.osl 3 0 (List.length x15) 1),V 7 (iv 1)],[W 0 1 [.fn 40 []],W 1 1 [nilS],(2,ranks_kept_s1155_lp1 x1 .ready none),(3,.rows 1 (List.map cI x15))],4⟩ ?_
 refine jc_block ?_
 refine jc_bind (fun x34=>⟨[],[W 0 1 [.fn 40 []],W 1 1 [.osl 3 0 (List.length x34) 2],(2,ranks_kept_s1155_lp1 x1 .ready none),(3,.rows 2 (List.map c_S_api_Span x34))],4⟩) (fun x34=>(.exit 2)) (jc_loop (fun (x23,x24)=>⟨[V 0 (.yld 2),V 1 (.fptr [.fsl 2 (List.map c_S_api_Span x1.1)] 0),V 2 (.fptr [.fsl 2 (List.map c_S_api_Span x1.2)] 0),V 4 (.osl 3 0 (List.length x15) 1),V 7 (iv x23)],[W 0 1 [.fn 40 []],W 1 1 [.osl 4 0 (List.length x24) 2],(2,ranks_kept_s1155_lp1 x1 .ready none),(3,.rows 1 (List.map cI x15)),(4,.rows 2 (List.map c_S_api_Span x24))],5⟩) (wkR [(0,some 0),(1,some 1),(2,some 2),(3,some 3),(4,none)] (fix_of hc1.2.2 (k:=3) rfl) (pc (hC 0) (pc (hC 1) (pc (.inr (.inr ⟨2,_,_,rfl,rfl,rfl,by kernel_rfl⟩)) (pc (hL 3 (noid_map ni_I _)) (pc hZ allp_nil)))))) ?_) ?_
 ·rintro⟨x23,x24⟩
  unfold ranks_kept_s1155_l2
  refine jc_seq ?_
  refine jS ⟨[V 0 (.yld 2),V 1 (.fptr [.fsl 2 (List.map c_S_api_Span x1.1)] 0),V 2 (.fptr [.fsl 2 (List.map c_S_api_Span x1.2)] 0),V 4 (.osl 3 0 (List.length x15) 1),V 7 (iv x23),V 33 (bv (decide (x23 < (List.length x15:Int))))],[W 0 1 [.fn 40 []],W 1 1 [.osl 4 0 (List.length x24) 2],(2,ranks_kept_s1155_lp1 x1 .ready none),(3,.rows 1 (List.map cI x15)),(4,.rows 2 (List.map c_S_api_Span x24))],5⟩ ?_
  refine jIf ?_ ?_
  ·refine jc_skip ?_
   refine jx_seqN ?_
   refine jc_seq ?_
   refine jc_block ?_
   refine jc_seq ?_
   refine jc_full ranks_stretches_1_it_r11 [(39,8),(43,8)] ?_
   refine jG 0 3 ⟨[V 0 (.yld 2),V 1 (.fptr [.fsl 2 (List.map c_S_api_Span x1.1)] 0),V 2 (.fptr [.fsl 2 (List.map c_S_api_Span x1.2)] 0),V 4 (.osl 3 0 (List.length x15) 1),V 7 (iv x23),V 36 (.osl 3 0 (List.length x15) 1),V 38 (iv (w64 (x23 - 1)))],[W 0 1 [.fn 40 []],W 1 1 [.osl 4 0 (List.length x24) 2],(2,ranks_kept_s1155_lp1 x1 .ready none),(3,.rows 1 (List.map cI x15)),(4,.rows 2 (List.map c_S_api_Span x24))],5⟩ ?_
   refine jr_part (i:=3) (mo:=ixl x15 (w64 (x23 - 1))) rfl rfl rfl rfl (fun _ hc=>aop_ixo0 (sz:=1) (e:=3) (kk:=.i64) (id:=3) (by kernel_rfl) (by kernel_rfl) (by kernel_rfl) (by kernel_rfl) hc) (fun _=>rfl) ?_
   intro x35 h35
   refine jr_one (i:=4) (v:=iv x35) rfl rfl rfl rfl (aop_ldo (l:=x15) (c:=cI) (id:=3) (k:=(Int.toNat (w64 (x23 - 1)))) (sz:=1) (off:=0) (a:=x35) (by kernel_rfl) (by kernel_rfl) (ixl_lt h35).2.2 (by kernel_rfl)) rfl ?_
   refine jG 5 2 ⟨[V 0 (.yld 2),V 1 (.fptr [.fsl 2 (List.map c_S_api_Span x1.1)] 0),V 2 (.fptr [.fsl 2 (List.map c_S_api_Span x1.2)] 0),V 4 (.osl 3 0 (List.length x15) 1),V 7 (iv x23),V 39 (.ptr 3 (Int.toNat (w64 (x23 - 1))) 1 0),V 40 (iv x35),V 41 (.osl 3 0 (List.length x15) 1),V 42 (iv x23)],[W 0 1 [.fn 40 []],W 1 1 [.osl 4 0 (List.length x24) 2],(2,ranks_kept_s1155_lp1 x1 .ready none),(3,.rows 1 (List.map cI x15)),(4,.rows 2 (List.map c_S_api_Span x24))],5⟩ ?_
   refine jr_part (i:=7) (mo:=ixl x15 x23) rfl rfl rfl rfl (fun _ hc=>aop_ixo0 (sz:=1) (e:=3) (kk:=.i64) (id:=3) (by kernel_rfl) (by kernel_rfl) (by kernel_rfl) (by kernel_rfl) hc) (fun _=>rfl) ?_
   intro x36 h36
   refine jr_one (i:=8) (v:=iv x36) rfl rfl rfl rfl (aop_ldo (l:=x15) (c:=cI) (id:=3) (k:=(Int.toNat x23)) (sz:=1) (off:=0) (a:=x36) (by kernel_rfl) (by kernel_rfl) (ixl_lt h36).2.2 (by kernel_rfl)) rfl ?_
   refine jG 9 3 ⟨[V 0 (.yld 2),V 1 (.fptr [.fsl 2 (List.map c_S_api_Span x1.1)] 0),V 2 (.fptr [.fsl 2 (List.map c_S_api_Span x1.2)] 0),V 4 (.osl 3 0 (List.length x15) 1),V 7 (iv x23),V 8 (pt 5 2),V 39 (.ptr 3 (Int.toNat (w64 (x23 - 1))) 1 0),V 43 (.ptr 3 (Int.toNat x23) 1 0)],[W 0 1 [.fn 40 []],W 1 1 [.osl 4 0 (List.length x24) 2],(2,ranks_kept_s1155_lp1 x1 .ready none),(3,.rows 1 (List.map cI x15)),(4,.rows 2 (List.map c_S_api_Span x24)),W 5 2 [iv x35,iv x36]],6⟩ ?_
   refine jr_nil rfl ?_
   refine jx_full ?_
   refine jx_seqN ?_
   refine jR ?_
   refine jG 0 5 ⟨[V 0 (.yld 2),V 1 (.fptr [.fsl 2 (List.map c_S_api_Span x1.1)] 0),V 2 (.fptr [.fsl 2 (List.map c_S_api_Span x1.2)] 0),V 4 (.osl 3 0 (List.length x15) 1),V 7 (iv x23),V 8 (pt 5 2),V 46 (.yld 2),V 47 (.agg [iv x35,iv x36]),V 48 (.fsl 2 (List.map c_S_api_Span x1.1)),V 50 (iv x35)],[W 0 1 [.fn 40 []],W 1 1 [.osl 4 0 (List.length x24) 2],(2,ranks_kept_s1155_lp1 x1 .ready none),(3,.rows 1 (List.map cI x15)),(4,.rows 2 (List.map c_S_api_Span x24)),W 5 2 [iv x35,iv x36]],6⟩ ?_
   refine jK 5 (ranks_Has_ok x1.1 x35) ?_
   intro x37 h37
   refine jG 6 3 ⟨[V 0 (.yld 2),V 1 (.fptr [.fsl 2 (List.map c_S_api_Span x1.1)] 0),V 2 (.fptr [.fsl 2 (List.map c_S_api_Span x1.2)] 0),V 4 (.osl 3 0 (List.length x15) 1),V 7 (iv x23),V 46 (.yld 2),V 47 (.agg [iv x35,iv x36]),V 51 (bv x37),V 52 (.fsl 2 (List.map c_S_api_Span x1.2)),V 54 (iv x35)],[W 0 1 [.fn 40 []],W 1 1 [.osl 4 0 (List.length x24) 2],(2,ranks_kept_s1155_lp1 x1 .ready none),(3,.rows 1 (List.map cI x15)),(4,.rows 2 (List.map c_S_api_Span x24))],6⟩ ?_
   refine jK 9 (ranks_Has_ok x1.2 x35) ?_
   intro x38 h38
   refine jG 10 1 ⟨[V 0 (.yld 2),V 1 (.fptr [.fsl 2 (List.map c_S_api_Span x1.1)] 0),V 2 (.fptr [.fsl 2 (List.map c_S_api_Span x1.2)] 0),V 4 (.osl 3 0 (List.length x15) 1),V 7 (iv x23),V 46 (.yld 2),V 56 (.agg [iv x35,iv x36,bv x37,bv x38])],[W 0 1 [.fn 40 []],W 1 1 [.osl 4 0 (List.length x24) 2],(2,ranks_kept_s1155_lp1 x1 .ready none),(3,.rows 1 (List.map cI x15)),(4,.rows 2 (List.map c_S_api_Span x24))],6⟩ ?_
   refine jr_yield (i:=11) (l:=2) (Nc:=24) (Kc:=[V 5 (pt 0 1),V 7 (pt 1 1),V 11 (.fn 67 [.fptr [.fsl 2 (List.map c_S_api_Span x1.1)] 0,.fptr [.fsl 2 (List.map c_S_api_Span x1.2)] 0])]) (ps:=[12]) (vs:=[.agg [iv x35,iv x36,bv x37,bv x38]]) (fun x41=>⟨[],[W 0 1 [.fn 40 []],W 1 1 [.osl 6 0 (List.length x41) 2],(2,ranks_kept_s1155_lp1 x1 .busy none),(3,.rows 1 (List.map cI x15)),(6,.rows 2 (List.map c_S_api_Span x41))],7⟩) (fun x41=>.normal) [0,1,2,4,7,57] [0,1,2,3,6] (after:=(fun x41=>⟨[V 0 (.yld 2),V 1 (.fptr [.fsl 2 (List.map c_S_api_Span x1.1)] 0),V 2 (.fptr [.fsl 2 (List.map c_S_api_Span x1.2)] 0),V 4 (.osl 3 0 (List.length x15) 1),V 7 (iv x23),V 57 (bv true)],[W 0 1 [.fn 40 []],W 1 1 [.osl 6 0 (List.length x41) 2],(2,ranks_kept_s1155_lp1 x1 .ready none),(3,.rows 1 (List.map cI x15)),(6,.rows 2 (List.map c_S_api_Span x41))],7⟩)) rfl rfl ranks_kept_s1155_y7_aw ranks_kept_s1155_y7_bw (by kernel_rfl) (by kernel_rfl) (yctx_of hc1 rfl) rfl (by kernel_rfl) rfl ?_ (by intro x41 <;> exact⟨none,by kernel_rfl⟩) (by intro x41 <;> kernel_rfl) ?_
   ·intro F6 hy6
    refine jT ⟨[V 5 (pt 0 1),V 7 (pt 1 1),V 8 (pt 6 4)],[W 0 1 [.fn 40 []],W 1 1 [.osl 4 0 (List.length x24) 2],(2,ranks_kept_s1155_lp1 x1 .ready none),(3,.rows 1 (List.map cI x15)),(4,.rows 2 (List.map c_S_api_Span x24)),W 6 4 [iv x35,iv x36,bv x37,bv x38]],7⟩ ?_
    refine jx_asg hy6 rfl ?_
    refine jc_block ?_
    refine jR ?_
    refine jG 0 5 ⟨[V 7 (pt 1 1),V 8 (pt 6 4),V 13 (.fn 40 []),V 15 (bv x37),V 17 (bv x38)],[W 0 1 [.fn 40 []],W 1 1 [.osl 4 0 (List.length x24) 2],(2,ranks_kept_s1155_lp1 x1 .busy none),(3,.rows 1 (List.map cI x15)),(4,.rows 2 (List.map c_S_api_Span x24)),W 6 4 [iv x35,iv x36,bv x37,bv x38]],7⟩ ?_
    refine jr_callV (i:=5) rfl rfl rfl rfl (g:=40) (caps:=[]) (avs:=[bv x37,bv x38]) (vs:=[bv x37,bv x38]) (by kernel_rfl) (by kernel_rfl) rfl (snapL_cons rfl (snapL_cons rfl (snapL_nil _))) (all2_cons (fle_refl _) (all2_cons (fle_refl _) all2_nil)) (ranks_Union_1_ok x37 x38) (fun _=>rfl) (fun _=>rfl) ?_
    intro x42 h42
    refine jN ?_
    refine jIf ?_ ?_
    ·refine jc_reg ?_
     refine jG 0 3 ⟨[V 7 (pt 1 1),V 19 (.osl 4 0 (List.length x24) 2),V 21 (.agg [iv x35,iv x36])],[W 0 1 [.fn 40 []],W 1 1 [.osl 4 0 (List.length x24) 2],(2,ranks_kept_s1155_lp1 x1 .busy none),(3,.rows 1 (List.map cI x15)),(4,.rows 2 (List.map c_S_api_Span x24))],7⟩ ?_
     refine jr_callM 3 [(0,some 4)] [(7,some 1)] (fun r:List S_api_Span=>[W 0 1 [.fn 40 []],W 1 1 [.osl 4 0 (List.length x24) 2],(2,ranks_kept_s1155_lp1 x1 .busy none),(3,.rows 1 (List.map cI x15)),(7,.rows 2 (List.map c_S_api_Span r))]) (fun r:List S_api_Span=>.osl 7 0 (List.length r) 2) 8 (ranks_add_maa59_ok x24 x35 x36) (pc (hL 4 (noid_map ni_S_api_Span _)) allp_nil) (fun r=>(pc (.inl ⟨rfl,rfl⟩) (pc (.inl ⟨rfl,rfl⟩) (pc (.inl ⟨rfl,rfl⟩) (pc (.inl ⟨rfl,rfl⟩) (pc (.inr (hL 1 (noid_map ni_S_api_Span _))) allp_nil)))))) ?_
     rintro x43 hm8
     refine jG 4 1 ⟨[],[W 0 1 [.fn 40 []],W 1 1 [.osl 7 0 (List.length x43) 2],(2,ranks_kept_s1155_lp1 x1 .busy none),(3,.rows 1 (List.map cI x15)),(7,.rows 2 (List.map c_S_api_Span x43))],8⟩ ?_
     refine jr_nil rfl ?_
     refine jx_blkN ?_
     exact jx_mid rfl (wkR [(0,some 0),(1,some 1),(2,some 2),(3,some 3),(4,some 4),(5,some 5),(6,some 7)] (fix_of hy6.2 (k:=6) rfl) (pc (hC 0) (pc (hC 1) (pc (.inr (.inr ⟨2,_,_,rfl,rfl,rfl,by kernel_rfl⟩)) (pc (hL 3 (noid_map ni_I _)) (pc (hL 7 (noid_map ni_S_api_Span _)) allp_nil))))))
    refine jc_skip ?_
    refine jx_blkN ?_
    exact jx_mid rfl (wkR [(0,some 0),(1,some 1),(2,some 2),(3,some 3),(4,some 4),(5,some 5),(6,some 4)] (fix_of hy6.2 (k:=6) rfl) (pc (hC 0) (pc (hC 1) (pc (.inr (.inr ⟨2,_,_,rfl,rfl,rfl,by kernel_rfl⟩)) (pc (hL 3 (noid_map ni_I _)) (pc (hL 4 (noid_map ni_S_api_Span _)) allp_nil))))))
   intro x41
   refine jG 12 1 ⟨[V 0 (.yld 2),V 1 (.fptr [.fsl 2 (List.map c_S_api_Span x1.1)] 0),V 2 (.fptr [.fsl 2 (List.map c_S_api_Span x1.2)] 0),V 4 (.osl 3 0 (List.length x15) 1),V 7 (iv x23),V 58 (bv false)],[W 0 1 [.fn 40 []],W 1 1 [.osl 6 0 (List.length x41) 2],(2,ranks_kept_s1155_lp1 x1 .ready none),(3,.rows 1 (List.map cI x15)),(6,.rows 2 (List.map c_S_api_Span x41))],7⟩ ?_
   refine jN ?_
   refine jc_condK (c:=false) (by kernel_rfl) ?_
   refine jc_skip ?_
   refine jx_blkN ?_
   refine jx_seqN ?_
   refine jT ⟨[V 0 (.yld 2),V 1 (.fptr [.fsl 2 (List.map c_S_api_Span x1.1)] 0),V 2 (.fptr [.fsl 2 (List.map c_S_api_Span x1.2)] 0),V 4 (.osl 3 0 (List.length x15) 1),V 7 (iv (w64 (x23 + 1)))],[W 0 1 [.fn 40 []],W 1 1 [.osl 6 0 (List.length x41) 2],(2,ranks_kept_s1155_lp1 x1 .ready none),(3,.rows 1 (List.map cI x15)),(6,.rows 2 (List.map c_S_api_Span x41))],7⟩ ?_
   exact jx_next (wkR [(0,some 0),(1,some 1),(2,some 2),(3,some 3),(4,some 6)] (fix_of hc1.2.2 (k:=3) rfl) (pc (hC 0) (pc (hC 1) (pc (.inr (.inr ⟨2,_,_,rfl,rfl,rfl,by kernel_rfl⟩)) (pc (hL 3 (noid_map ni_I _)) (pc (hL 6 (noid_map ni_S_api_Span _)) allp_nil))))))
  refine jc_exit ?_
  refine jx_seqE ?_
  exact jx_done rfl nofun (wkR [(0,some 0),(1,some 1),(2,some 2),(3,some 4)] (fix_of hc1.2.2 (k:=3) rfl) (pc (hC 0) (pc (hC 1) (pc (.inr (.inr ⟨2,_,_,rfl,rfl,rfl,by kernel_rfl⟩)) (pc (hL 4 (noid_map ni_S_api_Span _)) allp_nil)))))
 intro x34
 refine jx_blkE ?_
 refine jx_rng hc1 (.inl rfl) rfl nofun rfl ?_
 refine jx_blkN ?_
 refine jx_seqN ?_
 refine jS ⟨[V 6 (.osl 3 0 (List.length x34) 2)],[(3,.rows 2 (List.map c_S_api_Span x34))],4⟩ ?_
 refine jc_ret ?_
 exact jx_retF (.inr rfl) (v:=.osl 3 0 (List.length x34) 2) (by kernel_rfl) (snapc_own fz_S_api_Span (by kernel_rfl)) (fle_refl _))
abbrev ranks_Union_r1:List LO:=[lo 4 (.assign (.const (.slice none 0 0))) 22]
abbrev ranks_Union_r2:List LO:=[lm 5 0 22,lm 6 1 22,lo 7 (.call ⟨.value (.func 39),#[.tmp 5,.tmp 6,.func 40],#[22,22,47]⟩) 22,lo 4 (.assign (.tmp 7)) 22]
abbrev ranks_Union_c:LC:=.seq (.reg false ranks_Union_r1) (.seq (.reg false ranks_Union_r2) .ret)
theorem ranks_Union_k:FnOk E 9 8 [.tmp 4] ranks_Union_c:=⟨⟨Go.Proofs.Tryd.f9,by kernel_rfl,by kernel_rfl,by kernel_rfl,by kernel_rfl,by kernel_rfl⟩,rfl,rfl⟩
noncomputable def ranks_Union (a0:(List S_api_Span)) (a1:(List S_api_Span)):Option ((List S_api_Span)):=Option.bind (ranks_kept_s1155 a0 a1) (fun x1=>some x1)
theorem ranks_Union_ok (a0:(List S_api_Span)) (a1:(List S_api_Span)):Ct E 9 [.fsl 2 (List.map c_S_api_Span a0),.fsl 2 (List.map c_S_api_Span a1)] (ranks_Union a0 a1) (fun r:(List S_api_Span)=>.fsl 2 (List.map c_S_api_Span r)):=ct_intro (N:=8) (L:=ranks_Union_c) ranks_Union_k rfl (Nat.le_of_ble_eq_true rfl) (by kernel_rfl) (by
 unfold ranks_Union
 refine jS ⟨[V 0 (.fsl 2 (List.map c_S_api_Span a0)),V 1 (.fsl 2 (List.map c_S_api_Span a1))],[],0⟩ ?_
 refine jR ?_
 refine jG 0 2 ⟨[V 5 (.fsl 2 (List.map c_S_api_Span a0)),V 6 (.fsl 2 (List.map c_S_api_Span a1))],[],0⟩ ?_
 refine jK 2 (ranks_kept_s1155_ok a0 a1) ?_
 intro x1 h1
 refine jG 3 1 ⟨[V 4 (.fsl 2 (List.map c_S_api_Span x1))],[],0⟩ ?_
 refine jN ?_
 refine jc_ret ?_
 exact jx_retF (.inr rfl) (v:=.fsl 2 (List.map c_S_api_Span x1)) (by kernel_rfl) rfl (fle_refl _))
abbrev law07_RanksAlgebra_1_s64b3_r1:List LO:=[lo 3 (.assign (.const (.slice none 0 0))) 22]
abbrev law07_RanksAlgebra_1_s64b3_r2:List LO:=[lo 4 (.load 3 (.tmp 1)) 3,lm 5 0 22,lo 6 (.call ⟨.value (.func 12),#[.tmp 4,.tmp 5],#[3,22]⟩) 22,lo 3 (.assign (.tmp 6)) 22]
abbrev law07_RanksAlgebra_1_s64b3_c:LC:=.seq (.reg false law07_RanksAlgebra_1_s64b3_r1) (.seq (.reg false law07_RanksAlgebra_1_s64b3_r2) .ret)
theorem law07_RanksAlgebra_1_s64b3_k:FnOk E 11 7 [.tmp 3] law07_RanksAlgebra_1_s64b3_c:=⟨⟨Go.Proofs.Tryd.f11,by kernel_rfl,by kernel_rfl,by kernel_rfl,by kernel_rfl,by kernel_rfl⟩,rfl,rfl⟩
noncomputable def law07_RanksAlgebra_1_s64b3 (a0:(List S_api_Span)) (a1:Int):Option ((List S_api_Span)):=Option.bind (ranks_Not a1 a0) (fun x1=>some x1)
theorem law07_RanksAlgebra_1_s64b3_ok (a0:(List S_api_Span)) (a1:Int):Ct E 11 [.fsl 2 (List.map c_S_api_Span a0),.fptr [iv a1] 0] (law07_RanksAlgebra_1_s64b3 a0 a1) (fun r:(List S_api_Span)=>.fsl 2 (List.map c_S_api_Span r)):=ct_intro (N:=7) (L:=law07_RanksAlgebra_1_s64b3_c) law07_RanksAlgebra_1_s64b3_k rfl (Nat.le_of_ble_eq_true rfl) (by kernel_rfl) (by
 unfold law07_RanksAlgebra_1_s64b3
 refine jS ⟨[V 0 (.fsl 2 (List.map c_S_api_Span a0)),V 1 (.fptr [iv a1] 0)],[],0⟩ ?_
 refine jR ?_
 refine jG 0 2 ⟨[V 4 (iv a1),V 5 (.fsl 2 (List.map c_S_api_Span a0))],[],0⟩ ?_
 refine jK 2 (ranks_Not_ok a1 a0) ?_
 intro x1 h1
 refine jG 3 1 ⟨[V 3 (.fsl 2 (List.map c_S_api_Span x1))],[],0⟩ ?_
 refine jN ?_
 refine jc_ret ?_
 exact jx_retF (.inr rfl) (v:=.fsl 2 (List.map c_S_api_Span x1)) (by kernel_rfl) rfl (fle_refl _))
abbrev law07_RanksAlgebra_r1:List LO:=[lo 4 (.box 3 (.tmp 0)) 0,lo 8 (.assign (.const (.bool false))) 4]
abbrev law07_RanksAlgebra_r2:List LO:=[lo 12 (.load 3 (.tmp 4)) 3,lm 13 1 22,lo 14 (.call ⟨.value (.func 7),#[.tmp 12,.tmp 13],#[3,22]⟩) 4,lo 15 (.unOp .not 4 (.tmp 14)) 4,lm 16 15 4,lg 17 (.load 3 (.tmp 4)) 3 16 false,lmg 18 2 22 16 false,lg 19 (.call ⟨.value (.func 7),#[.tmp 17,.tmp 18],#[3,22]⟩) 4 16 false,lg 20 (.unOp .not 4 (.tmp 19)) 4 16 false,lo 21 (.pick (.tmp 16) (.const (.bool true)) (.tmp 20)) 4,lm 22 21 4,lg 23 (.load 3 (.tmp 4)) 3 22 false,lmg 24 3 22 22 false,lg 25 (.call ⟨.value (.func 7),#[.tmp 23,.tmp 24],#[3,22]⟩) 4 22 false,lg 26 (.unOp .not 4 (.tmp 25)) 4 22 false,lo 27 (.pick (.tmp 22) (.const (.bool true)) (.tmp 26)) 4]
abbrev law07_RanksAlgebra_r3:List LO:=[lo 28 (.call ⟨.value (.func 8),#[],#[]⟩) 4,lo 8 (.assign (.tmp 28)) 4]
abbrev law07_RanksAlgebra_r4:List LO:=[lo 29 (.makeFunc (Fn.func 11) #[] #[.tmp 4]) 27,lo 9 (.assign (.func 9)) 25,lo 10 (.assign (.func 10)) 25,lo 11 (.assign (.tmp 29)) 27]
abbrev law07_RanksAlgebra_r5:List LO:=[lm 30 9 25,lm 31 1 22,lm 32 2 22,lo 33 (.call ⟨.value (.tmp 30),#[.tmp 31,.tmp 32],#[22,22]⟩) 22,lm 34 9 25,lm 35 2 22,lm 36 1 22,lo 37 (.call ⟨.value (.tmp 34),#[.tmp 35,.tmp 36],#[22,22]⟩) 22,lo 38 (.call ⟨.value (.func 13),#[.tmp 33,.tmp 37],#[22,22]⟩) 4,lm 39 38 4,lmg 40 10 25 39 true,lmg 41 1 22 39 true,lmg 42 2 22 39 true,lg 43 (.call ⟨.value (.tmp 40),#[.tmp 41,.tmp 42],#[22,22]⟩) 22 39 true,lmg 44 10 25 39 true,lmg 45 2 22 39 true,lmg 46 1 22 39 true,lg 47 (.call ⟨.value (.tmp 44),#[.tmp 45,.tmp 46],#[22,22]⟩) 22 39 true,lg 48 (.call ⟨.value (.func 13),#[.tmp 43,.tmp 47],#[22,22]⟩) 4 39 true,lo 49 (.pick (.tmp 39) (.tmp 48) (.const (.bool false))) 4,lm 50 49 4,lmg 51 9 25 50 true,lmg 52 1 22 50 true,lmg 53 9 25 50 true,lmg 54 2 22 50 true,lmg 55 3 22 50 true,lg 56 (.call ⟨.value (.tmp 53),#[.tmp 54,.tmp 55],#[22,22]⟩) 22 50 true,lg 57 (.call ⟨.value (.tmp 51),#[.tmp 52,.tmp 56],#[22,22]⟩) 22 50 true,lmg 58 9 25 50 true,lmg 59 9 25 50 true,lmg 60 1 22 50 true,lmg 61 2 22 50 true,lg 62 (.call ⟨.value (.tmp 59),#[.tmp 60,.tmp 61],#[22,22]⟩) 22 50 true,lmg 63 3 22 50 true,lg 64 (.call ⟨.value (.tmp 58),#[.tmp 62,.tmp 63],#[22,22]⟩) 22 50 true,lg 65 (.call ⟨.value (.func 13),#[.tmp 57,.tmp 64],#[22,22]⟩) 4 50 true,lo 66 (.pick (.tmp 50) (.tmp 65) (.const (.bool false))) 4,lm 67 66 4,lmg 68 10 25 67 true,lmg 69 1 22 67 true,lmg 70 10 25 67 true,lmg 71 2 22 67 true,lmg 72 3 22 67 true,lg 73 (.call ⟨.value (.tmp 70),#[.tmp 71,.tmp 72],#[22,22]⟩) 22 67 true,lg 74 (.call ⟨.value (.tmp 68),#[.tmp 69,.tmp 73],#[22,22]⟩) 22 67 true,lmg 75 10 25 67 true,lmg 76 10 25 67 true,lmg 77 1 22 67 true,lmg 78 2 22 67 true,lg 79 (.call ⟨.value (.tmp 76),#[.tmp 77,.tmp 78],#[22,22]⟩) 22 67 true,lmg 80 3 22 67 true,lg 81 (.call ⟨.value (.tmp 75),#[.tmp 79,.tmp 80],#[22,22]⟩) 22 67 true,lg 82 (.call ⟨.value (.func 13),#[.tmp 74,.tmp 81],#[22,22]⟩) 4 67 true,lo 83 (.pick (.tmp 67) (.tmp 82) (.const (.bool false))) 4,lm 84 83 4,lmg 85 10 25 84 true,lmg 86 1 22 84 true,lmg 87 9 25 84 true,lmg 88 2 22 84 true,lmg 89 3 22 84 true,lg 90 (.call ⟨.value (.tmp 87),#[.tmp 88,.tmp 89],#[22,22]⟩) 22 84 true,lg 91 (.call ⟨.value (.tmp 85),#[.tmp 86,.tmp 90],#[22,22]⟩) 22 84 true,lmg 92 9 25 84 true,lmg 93 10 25 84 true,lmg 94 1 22 84 true,lmg 95 2 22 84 true,lg 96 (.call ⟨.value (.tmp 93),#[.tmp 94,.tmp 95],#[22,22]⟩) 22 84 true,lmg 97 10 25 84 true,lmg 98 1 22 84 true,lmg 99 3 22 84 true,lg 100 (.call ⟨.value (.tmp 97),#[.tmp 98,.tmp 99],#[22,22]⟩) 22 84 true,lg 101 (.call ⟨.value (.tmp 92),#[.tmp 96,.tmp 100],#[22,22]⟩) 22 84 true,lg 102 (.call ⟨.value (.func 13),#[.tmp 91,.tmp 101],#[22,22]⟩) 4 84 true,lo 103 (.pick (.tmp 84) (.tmp 102) (.const (.bool false))) 4,lm 104 103 4,lmg 105 9 25 104 true,lmg 106 1 22 104 true,lmg 107 10 25 104 true,lmg 108 2 22 104 true,lmg 109 3 22 104 true,lg 110 (.call ⟨.value (.tmp 107),#[.tmp 108,.tmp 109],#[22,22]⟩) 22 104 true,lg 111 (.call ⟨.value (.tmp 105),#[.tmp 106,.tmp 110],#[22,22]⟩) 22 104 true,lmg 112 10 25 104 true,lmg 113 9 25 104 true,lmg 114 1 22 104 true,lmg 115 2 22 104 true,lg 116 (.call ⟨.value (.tmp 113),#[.tmp 114,.tmp 115],#[22,22]⟩) 22 104 true,lmg 117 9 25 104 true,lmg 118 1 22 104 true,lmg 119 3 22 104 true,lg 120 (.call ⟨.value (.tmp 117),#[.tmp 118,.tmp 119],#[22,22]⟩) 22 104 true,lg 121 (.call ⟨.value (.tmp 112),#[.tmp 116,.tmp 120],#[22,22]⟩) 22 104 true,lg 122 (.call ⟨.value (.func 13),#[.tmp 111,.tmp 121],#[22,22]⟩) 4 104 true,lo 123 (.pick (.tmp 104) (.tmp 122) (.const (.bool false))) 4,lm 124 123 4,lmg 125 10 25 124 true,lmg 126 1 22 124 true,lmg 127 11 27 124 true,lmg 128 1 22 124 true,lg 129 (.call ⟨.value (.tmp 127),#[.tmp 128],#[22]⟩) 22 124 true,lg 130 (.call ⟨.value (.tmp 125),#[.tmp 126,.tmp 129],#[22,22]⟩) 22 124 true,lg 131 (.call ⟨.builtin .len,#[.tmp 130],#[22]⟩) 3 124 true,lg 132 (.binOp .eql 3 (.tmp 131) (.const (.int .i64 0)) 3) 4 124 true,lo 133 (.pick (.tmp 124) (.tmp 132) (.const (.bool false))) 4,lm 134 133 4,lmg 135 9 25 134 true,lmg 136 1 22 134 true,lmg 137 11 27 134 true,lmg 138 1 22 134 true,lg 139 (.call ⟨.value (.tmp 137),#[.tmp 138],#[22]⟩) 22 134 true,lg 140 (.call ⟨.value (.tmp 135),#[.tmp 136,.tmp 139],#[22,22]⟩) 22 134 true,lg 141 (.load 3 (.tmp 4)) 3 134 true,lg 142 (.call ⟨.value (.func 14),#[.tmp 141],#[3]⟩) 22 134 true,lg 143 (.call ⟨.value (.func 13),#[.tmp 140,.tmp 142],#[22,22]⟩) 4 134 true,lo 144 (.pick (.tmp 134) (.tmp 143) (.const (.bool false))) 4,lm 145 144 4,lmg 146 11 27 145 true,lmg 147 9 25 145 true,lmg 148 1 22 145 true,lmg 149 2 22 145 true,lg 150 (.call ⟨.value (.tmp 147),#[.tmp 148,.tmp 149],#[22,22]⟩) 22 145 true,lg 151 (.call ⟨.value (.tmp 146),#[.tmp 150],#[22]⟩) 22 145 true,lmg 152 10 25 145 true,lmg 153 11 27 145 true,lmg 154 1 22 145 true,lg 155 (.call ⟨.value (.tmp 153),#[.tmp 154],#[22]⟩) 22 145 true,lmg 156 11 27 145 true,lmg 157 2 22 145 true,lg 158 (.call ⟨.value (.tmp 156),#[.tmp 157],#[22]⟩) 22 145 true,lg 159 (.call ⟨.value (.tmp 152),#[.tmp 155,.tmp 158],#[22,22]⟩) 22 145 true,lg 160 (.call ⟨.value (.func 13),#[.tmp 151,.tmp 159],#[22,22]⟩) 4 145 true,lo 161 (.pick (.tmp 145) (.tmp 160) (.const (.bool false))) 4,lm 162 161 4,lmg 163 11 27 162 true,lmg 164 10 25 162 true,lmg 165 1 22 162 true,lmg 166 2 22 162 true,lg 167 (.call ⟨.value (.tmp 164),#[.tmp 165,.tmp 166],#[22,22]⟩) 22 162 true,lg 168 (.call ⟨.value (.tmp 163),#[.tmp 167],#[22]⟩) 22 162 true,lmg 169 9 25 162 true,lmg 170 11 27 162 true,lmg 171 1 22 162 true,lg 172 (.call ⟨.value (.tmp 170),#[.tmp 171],#[22]⟩) 22 162 true,lmg 173 11 27 162 true,lmg 174 2 22 162 true,lg 175 (.call ⟨.value (.tmp 173),#[.tmp 174],#[22]⟩) 22 162 true,lg 176 (.call ⟨.value (.tmp 169),#[.tmp 172,.tmp 175],#[22,22]⟩) 22 162 true,lg 177 (.call ⟨.value (.func 13),#[.tmp 168,.tmp 176],#[22,22]⟩) 4 162 true,lo 178 (.pick (.tmp 162) (.tmp 177) (.const (.bool false))) 4,lm 179 178 4,lmg 180 1 22 179 true,lmg 181 2 22 179 true,lg 182 (.call ⟨.value (.func 15),#[.tmp 180,.tmp 181],#[22,22]⟩) 22 179 true,lmg 183 10 25 179 true,lmg 184 1 22 179 true,lmg 185 11 27 179 true,lmg 186 2 22 179 true,lg 187 (.call ⟨.value (.tmp 185),#[.tmp 186],#[22]⟩) 22 179 true,lg 188 (.call ⟨.value (.tmp 183),#[.tmp 184,.tmp 187],#[22,22]⟩) 22 179 true,lg 189 (.call ⟨.value (.func 13),#[.tmp 182,.tmp 188],#[22,22]⟩) 4 179 true,lo 190 (.pick (.tmp 179) (.tmp 189) (.const (.bool false))) 4,lm 191 190 4,lmg 192 11 27 191 true,lmg 193 11 27 191 true,lmg 194 1 22 191 true,lg 195 (.call ⟨.value (.tmp 193),#[.tmp 194],#[22]⟩) 22 191 true,lg 196 (.call ⟨.value (.tmp 192),#[.tmp 195],#[22]⟩) 22 191 true,lmg 197 1 22 191 true,lg 198 (.call ⟨.value (.func 13),#[.tmp 196,.tmp 197],#[22,22]⟩) 4 191 true,lo 199 (.pick (.tmp 191) (.tmp 198) (.const (.bool false))) 4,lm 200 199 4,lg 201 (.call ⟨.value (.func 8),#[],#[]⟩) 4 200 true,lo 202 (.pick (.tmp 200) (.tmp 201) (.const (.bool false))) 4,lo 8 (.assign (.tmp 202)) 4]
noncomputable abbrev law07_RanksAlgebra_c:LC:=.seq (.reg false law07_RanksAlgebra_r1) (.seq (.seq (.reg false law07_RanksAlgebra_r2) (.cond (.tmp 27) (.seq (.reg false law07_RanksAlgebra_r3) .ret) .skip)) (.seq (.reg false law07_RanksAlgebra_r4) (.seq (.full (regOps (codeSub (bodyOf Go.Proofs.Tryd.f3) [1,1,1,0]))) .ret)))
theorem law07_RanksAlgebra_k:FnOk E 3 203 [.tmp 8] law07_RanksAlgebra_c:=⟨⟨Go.Proofs.Tryd.f3,by kernel_rfl,by kernel_rfl,by kernel_rfl,by kernel_rfl,by kernel_rfl⟩,rfl,rfl⟩
noncomputable def law07_RanksAlgebra (a0:Int) (a1:(List S_api_Span)) (a2:(List S_api_Span)) (a3:(List S_api_Span)):Option (Bool):=Option.bind (ref07_Fit a0 a1) (fun x1=>Option.bind (if (!x1)=true then some true else Option.bind (ref07_Fit a0 a2) (fun x4=>some (!x4)):Option (Bool)) (fun x3=>Option.bind (if x3=true then some true else Option.bind (ref07_Fit a0 a3) (fun x7=>some (!x7)):Option (Bool)) (fun x6=>(if x6=true then Option.bind (law07_awake) (fun x8=>some x8) else Option.bind (ranks_Union a1 a2) (fun x9=>Option.bind (ranks_Union a2 a1) (fun x10=>Option.bind (ref07_Same x9 x10) (fun x11=>Option.bind (if x11=true then Option.bind (ranks_Meet a1 a2) (fun x16=>Option.bind (ranks_Meet a2 a1) (fun x17=>Option.bind (ref07_Same x16 x17) (fun x18=>some x18))) else some false:Option (Bool)) (fun x15=>Option.bind (if x15=true then Option.bind (ranks_Union a2 a3) (fun x25=>Option.bind (ranks_Union a1 x25) (fun x26=>Option.bind (ranks_Union a1 a2) (fun x27=>Option.bind (ranks_Union x27 a3) (fun x28=>Option.bind (ref07_Same x26 x28) (fun x29=>some x29))))) else some false:Option (Bool)) (fun x24=>Option.bind (if x24=true then Option.bind (ranks_Meet a2 a3) (fun x36=>Option.bind (ranks_Meet a1 x36) (fun x37=>Option.bind (ranks_Meet a1 a2) (fun x38=>Option.bind (ranks_Meet x38 a3) (fun x39=>Option.bind (ref07_Same x37 x39) (fun x40=>some x40))))) else some false:Option (Bool)) (fun x35=>Option.bind (if x35=true then Option.bind (ranks_Union a2 a3) (fun x48=>Option.bind (ranks_Meet a1 x48) (fun x49=>Option.bind (ranks_Meet a1 a2) (fun x50=>Option.bind (ranks_Meet a1 a3) (fun x51=>Option.bind (ranks_Union x50 x51) (fun x52=>Option.bind (ref07_Same x49 x52) (fun x53=>some x53)))))) else some false:Option (Bool)) (fun x47=>Option.bind (if x47=true then Option.bind (ranks_Meet a2 a3) (fun x61=>Option.bind (ranks_Union a1 x61) (fun x62=>Option.bind (ranks_Union a1 a2) (fun x63=>Option.bind (ranks_Union a1 a3) (fun x64=>Option.bind (ranks_Meet x63 x64) (fun x65=>Option.bind (ref07_Same x62 x65) (fun x66=>some x66)))))) else some false:Option (Bool)) (fun x60=>Option.bind (if x60=true then Option.bind (law07_RanksAlgebra_1_s64b3 a1 a0) (fun x70=>Option.bind (ranks_Meet a1 x70) (fun x71=>some ((List.length x71:Int) == 0))) else some false:Option (Bool)) (fun x69=>Option.bind (if x69=true then Option.bind (law07_RanksAlgebra_1_s64b3 a1 a0) (fun x77=>Option.bind (ranks_Union a1 x77) (fun x78=>Option.bind (ranks_All a0) (fun x79=>Option.bind (ref07_Same x78 x79) (fun x80=>some x80)))) else some false:Option (Bool)) (fun x76=>Option.bind (if x76=true then Option.bind (ranks_Union a1 a2) (fun x88=>Option.bind (law07_RanksAlgebra_1_s64b3 x88 a0) (fun x89=>Option.bind (law07_RanksAlgebra_1_s64b3 a1 a0) (fun x90=>Option.bind (law07_RanksAlgebra_1_s64b3 a2 a0) (fun x91=>Option.bind (ranks_Meet x90 x91) (fun x92=>Option.bind (ref07_Same x89 x92) (fun x93=>some x93)))))) else some false:Option (Bool)) (fun x87=>Option.bind (if x87=true then Option.bind (ranks_Meet a1 a2) (fun x101=>Option.bind (law07_RanksAlgebra_1_s64b3 x101 a0) (fun x102=>Option.bind (law07_RanksAlgebra_1_s64b3 a1 a0) (fun x103=>Option.bind (law07_RanksAlgebra_1_s64b3 a2 a0) (fun x104=>Option.bind (ranks_Union x103 x104) (fun x105=>Option.bind (ref07_Same x102 x105) (fun x106=>some x106)))))) else some false:Option (Bool)) (fun x100=>Option.bind (if x100=true then Option.bind (ranks_Minus a1 a2) (fun x112=>Option.bind (law07_RanksAlgebra_1_s64b3 a2 a0) (fun x113=>Option.bind (ranks_Meet a1 x113) (fun x114=>Option.bind (ref07_Same x112 x114) (fun x115=>some x115)))) else some false:Option (Bool)) (fun x111=>Option.bind (if x111=true then Option.bind (law07_RanksAlgebra_1_s64b3 a1 a0) (fun x120=>Option.bind (law07_RanksAlgebra_1_s64b3 x120 a0) (fun x121=>Option.bind (ref07_Same x121 a1) (fun x122=>some x122))) else some false:Option (Bool)) (fun x119=>Option.bind (if x119=true then Option.bind (law07_awake) (fun x125=>some x125) else some false:Option (Bool)) (fun x124=>some x124)))))))))))))))))))
theorem law07_RanksAlgebra_ok (a0:Int) (a1:(List S_api_Span)) (a2:(List S_api_Span)) (a3:(List S_api_Span)):Ct E 3 [iv a0,.fsl 2 (List.map c_S_api_Span a1),.fsl 2 (List.map c_S_api_Span a2),.fsl 2 (List.map c_S_api_Span a3)] (law07_RanksAlgebra a0 a1 a2 a3) (fun r:Bool=>bv r):=ct_intro (N:=203) (L:=law07_RanksAlgebra_c) law07_RanksAlgebra_k rfl (Nat.le_of_ble_eq_true rfl) (by kernel_rfl) (by
 unfold law07_RanksAlgebra
 refine jS ⟨[V 1 (.fsl 2 (List.map c_S_api_Span a1)),V 2 (.fsl 2 (List.map c_S_api_Span a2)),V 3 (.fsl 2 (List.map c_S_api_Span a3)),V 4 (.fptr [iv a0] 0)],[],0⟩ ?_
 refine jc_seq ?_
 refine jR ?_
 refine jG 0 2 ⟨[V 1 (.fsl 2 (List.map c_S_api_Span a1)),V 2 (.fsl 2 (List.map c_S_api_Span a2)),V 3 (.fsl 2 (List.map c_S_api_Span a3)),V 4 (.fptr [iv a0] 0),V 12 (iv a0),V 13 (.fsl 2 (List.map c_S_api_Span a1))],[],0⟩ ?_
 refine jK 2 (ref07_Fit_ok a0 a1) ?_
 intro x1 h1
 refine jG 3 2 ⟨[V 1 (.fsl 2 (List.map c_S_api_Span a1)),V 2 (.fsl 2 (List.map c_S_api_Span a2)),V 3 (.fsl 2 (List.map c_S_api_Span a3)),V 4 (.fptr [iv a0] 0),V 16 (bv (!x1))],[],0⟩ ?_
 refine jr_bind 5 5 (fun x3=>⟨[V 1 (.fsl 2 (List.map c_S_api_Span a1)),V 2 (.fsl 2 (List.map c_S_api_Span a2)),V 3 (.fsl 2 (List.map c_S_api_Span a3)),V 4 (.fptr [iv a0] 0),V 21 (bv x3)],[],0⟩) ?_ ?_
 ·refine jSp 16 ?_ ?_
  ·refine jG 0 5 ⟨[V 1 (.fsl 2 (List.map c_S_api_Span a1)),V 2 (.fsl 2 (List.map c_S_api_Span a2)),V 3 (.fsl 2 (List.map c_S_api_Span a3)),V 4 (.fptr [iv a0] 0),V 21 (bv true)],[],0⟩ ?_
   refine jr_nil rfl ?_
   exact jx_mid rfl (wkR [] (fix_nil _) allp_nil)
  refine jG 0 2 ⟨[V 1 (.fsl 2 (List.map c_S_api_Span a1)),V 2 (.fsl 2 (List.map c_S_api_Span a2)),V 3 (.fsl 2 (List.map c_S_api_Span a3)),V 4 (.fptr [iv a0] 0),(16,.lit false),V 17 (iv a0),V 18 (.fsl 2 (List.map c_S_api_Span a2))],[],0⟩ ?_
  refine jK 2 (ref07_Fit_ok a0 a2) ?_
  intro x4 h4
  refine jG 3 2 ⟨[V 1 (.fsl 2 (List.map c_S_api_Span a1)),V 2 (.fsl 2 (List.map c_S_api_Span a2)),V 3 (.fsl 2 (List.map c_S_api_Span a3)),V 4 (.fptr [iv a0] 0),V 21 (bv (!x4))],[],0⟩ ?_
  refine jr_nil rfl ?_
  exact jx_mid rfl (wkR [] (fix_nil _) allp_nil)
 intro x3
 refine jG 10 1 ⟨[V 1 (.fsl 2 (List.map c_S_api_Span a1)),V 2 (.fsl 2 (List.map c_S_api_Span a2)),V 3 (.fsl 2 (List.map c_S_api_Span a3)),V 4 (.fptr [iv a0] 0),V 22 (bv x3)],[],0⟩ ?_
 refine jr_bind 11 5 (fun x6=>⟨[V 1 (.fsl 2 (List.map c_S_api_Span a1)),V 2 (.fsl 2 (List.map c_S_api_Span a2)),V 3 (.fsl 2 (List.map c_S_api_Span a3)),V 4 (.fptr [iv a0] 0),V 27 (bv x6)],[],0⟩) ?_ ?_
 ·refine jSp 22 ?_ ?_
  ·refine jG 0 5 ⟨[V 1 (.fsl 2 (List.map c_S_api_Span a1)),V 2 (.fsl 2 (List.map c_S_api_Span a2)),V 3 (.fsl 2 (List.map c_S_api_Span a3)),V 4 (.fptr [iv a0] 0),V 27 (bv true)],[],0⟩ ?_
   refine jr_nil rfl ?_
   exact jx_mid rfl (wkR [] (fix_nil _) allp_nil)
  refine jG 0 2 ⟨[V 1 (.fsl 2 (List.map c_S_api_Span a1)),V 2 (.fsl 2 (List.map c_S_api_Span a2)),V 3 (.fsl 2 (List.map c_S_api_Span a3)),V 4 (.fptr [iv a0] 0),(22,.lit false),V 23 (iv a0),V 24 (.fsl 2 (List.map c_S_api_Span a3))],[],0⟩ ?_
  refine jK 2 (ref07_Fit_ok a0 a3) ?_
  intro x7 h7
  refine jG 3 2 ⟨[V 1 (.fsl 2 (List.map c_S_api_Span a1)),V 2 (.fsl 2 (List.map c_S_api_Span a2)),V 3 (.fsl 2 (List.map c_S_api_Span a3)),V 4 (.fptr [iv a0] 0),V 27 (bv (!x7))],[],0⟩ ?_
  refine jr_nil rfl ?_
  exact jx_mid rfl (wkR [] (fix_nil _) allp_nil)
 intro x6
 refine jN ?_
 refine jIf ?_ ?_
 ·refine jR ?_
  refine jK 0 (law07_awake_ok) ?_
  intro x8 h8
  refine jG 1 1 ⟨[V 8 (bv x8)],[],0⟩ ?_
  refine jN ?_
  refine jc_ret ?_
  refine jx_seqR ?_
  exact jx_retF (.inr rfl) (v:=bv x8) (by kernel_rfl) rfl (fle_refl _)
 refine jc_skip ?_
 refine jx_seqN ?_
 refine jS ⟨[V 1 (.fsl 2 (List.map c_S_api_Span a1)),V 2 (.fsl 2 (List.map c_S_api_Span a2)),V 3 (.fsl 2 (List.map c_S_api_Span a3)),V 4 (.fptr [iv a0] 0),V 9 (.fn 9 []),V 10 (.fn 10 []),V 11 (.fn 11 [.fptr [iv a0] 0])],[],0⟩ ?_
 refine jc_seq ?_
 refine jc_fullF law07_RanksAlgebra_r5 [] [4,4] ?_
 refine jG 0 3 ⟨[V 1 (.fsl 2 (List.map c_S_api_Span a1)),V 2 (.fsl 2 (List.map c_S_api_Span a2)),V 3 (.fsl 2 (List.map c_S_api_Span a3)),V 4 (.fptr [iv a0] 0),V 9 (.fn 9 []),V 10 (.fn 10 []),V 11 (.fn 11 [.fptr [iv a0] 0]),V 30 (.fn 9 []),V 31 (.fsl 2 (List.map c_S_api_Span a1)),V 32 (.fsl 2 (List.map c_S_api_Span a2))],[],0⟩ ?_
 refine jr_callV (i:=3) rfl rfl rfl rfl (g:=9) (caps:=[]) (avs:=[.fsl 2 (List.map c_S_api_Span a1),.fsl 2 (List.map c_S_api_Span a2)]) (vs:=[.fsl 2 (List.map c_S_api_Span a1),.fsl 2 (List.map c_S_api_Span a2)]) (by kernel_rfl) (by kernel_rfl) rfl (snapL_cons rfl (snapL_cons rfl (snapL_nil _))) (all2_cons (fle_refl _) (all2_cons (fle_refl _) all2_nil)) (ranks_Union_ok a1 a2) (fun _=>rfl) (fun _=>rfl) ?_
 intro x9 h9
 refine jG 4 3 ⟨[V 1 (.fsl 2 (List.map c_S_api_Span a1)),V 2 (.fsl 2 (List.map c_S_api_Span a2)),V 3 (.fsl 2 (List.map c_S_api_Span a3)),V 4 (.fptr [iv a0] 0),V 9 (.fn 9 []),V 10 (.fn 10 []),V 11 (.fn 11 [.fptr [iv a0] 0]),V 33 (.fsl 2 (List.map c_S_api_Span x9)),V 34 (.fn 9 []),V 35 (.fsl 2 (List.map c_S_api_Span a2)),V 36 (.fsl 2 (List.map c_S_api_Span a1))],[],0⟩ ?_
 refine jr_callV (i:=7) rfl rfl rfl rfl (g:=9) (caps:=[]) (avs:=[.fsl 2 (List.map c_S_api_Span a2),.fsl 2 (List.map c_S_api_Span a1)]) (vs:=[.fsl 2 (List.map c_S_api_Span a2),.fsl 2 (List.map c_S_api_Span a1)]) (by kernel_rfl) (by kernel_rfl) rfl (snapL_cons rfl (snapL_cons rfl (snapL_nil _))) (all2_cons (fle_refl _) (all2_cons (fle_refl _) all2_nil)) (ranks_Union_ok a2 a1) (fun _=>rfl) (fun _=>rfl) ?_
 intro x10 h10
 refine jK 8 (ref07_Same_ok x9 x10) ?_
 intro x11 h11
 refine jG 9 1 ⟨[V 1 (.fsl 2 (List.map c_S_api_Span a1)),V 2 (.fsl 2 (List.map c_S_api_Span a2)),V 3 (.fsl 2 (List.map c_S_api_Span a3)),V 4 (.fptr [iv a0] 0),V 9 (.fn 9 []),V 10 (.fn 10 []),V 11 (.fn 11 [.fptr [iv a0] 0]),V 39 (bv x11)],[],0⟩ ?_
 refine jr_bind 10 10 (fun x15=>⟨[V 1 (.fsl 2 (List.map c_S_api_Span a1)),V 2 (.fsl 2 (List.map c_S_api_Span a2)),V 3 (.fsl 2 (List.map c_S_api_Span a3)),V 4 (.fptr [iv a0] 0),V 9 (.fn 9 []),V 10 (.fn 10 []),V 11 (.fn 11 [.fptr [iv a0] 0]),V 49 (bv x15)],[],0⟩) ?_ ?_
 ·refine jSp 39 ?_ ?_
  ·refine jG 0 3 ⟨[V 1 (.fsl 2 (List.map c_S_api_Span a1)),V 2 (.fsl 2 (List.map c_S_api_Span a2)),V 3 (.fsl 2 (List.map c_S_api_Span a3)),V 4 (.fptr [iv a0] 0),V 9 (.fn 9 []),V 10 (.fn 10 []),V 11 (.fn 11 [.fptr [iv a0] 0]),(39,.lit true),V 40 (.fn 10 []),V 41 (.fsl 2 (List.map c_S_api_Span a1)),V 42 (.fsl 2 (List.map c_S_api_Span a2))],[],0⟩ ?_
   refine jr_callV (i:=3) rfl rfl rfl rfl (g:=10) (caps:=[]) (avs:=[.fsl 2 (List.map c_S_api_Span a1),.fsl 2 (List.map c_S_api_Span a2)]) (vs:=[.fsl 2 (List.map c_S_api_Span a1),.fsl 2 (List.map c_S_api_Span a2)]) (by kernel_rfl) (by kernel_rfl) rfl (snapL_cons rfl (snapL_cons rfl (snapL_nil _))) (all2_cons (fle_refl _) (all2_cons (fle_refl _) all2_nil)) (ranks_Meet_ok a1 a2) (fun _=>rfl) (fun _=>rfl) ?_
   intro x16 h16
   refine jG 4 3 ⟨[V 1 (.fsl 2 (List.map c_S_api_Span a1)),V 2 (.fsl 2 (List.map c_S_api_Span a2)),V 3 (.fsl 2 (List.map c_S_api_Span a3)),V 4 (.fptr [iv a0] 0),V 9 (.fn 9 []),V 10 (.fn 10 []),V 11 (.fn 11 [.fptr [iv a0] 0]),(39,.lit true),V 43 (.fsl 2 (List.map c_S_api_Span x16)),V 44 (.fn 10 []),V 45 (.fsl 2 (List.map c_S_api_Span a2)),V 46 (.fsl 2 (List.map c_S_api_Span a1))],[],0⟩ ?_
   refine jr_callV (i:=7) rfl rfl rfl rfl (g:=10) (caps:=[]) (avs:=[.fsl 2 (List.map c_S_api_Span a2),.fsl 2 (List.map c_S_api_Span a1)]) (vs:=[.fsl 2 (List.map c_S_api_Span a2),.fsl 2 (List.map c_S_api_Span a1)]) (by kernel_rfl) (by kernel_rfl) rfl (snapL_cons rfl (snapL_cons rfl (snapL_nil _))) (all2_cons (fle_refl _) (all2_cons (fle_refl _) all2_nil)) (ranks_Meet_ok a2 a1) (fun _=>rfl) (fun _=>rfl) ?_
   intro x17 h17
   refine jK 8 (ref07_Same_ok x16 x17) ?_
   intro x18 h18
   refine jG 9 1 ⟨[V 1 (.fsl 2 (List.map c_S_api_Span a1)),V 2 (.fsl 2 (List.map c_S_api_Span a2)),V 3 (.fsl 2 (List.map c_S_api_Span a3)),V 4 (.fptr [iv a0] 0),V 9 (.fn 9 []),V 10 (.fn 10 []),V 11 (.fn 11 [.fptr [iv a0] 0]),V 49 (bv x18)],[],0⟩ ?_
   refine jr_nil rfl ?_
   exact jx_mid rfl (wkR [] (fix_nil _) allp_nil)
  refine jG 0 10 ⟨[V 1 (.fsl 2 (List.map c_S_api_Span a1)),V 2 (.fsl 2 (List.map c_S_api_Span a2)),V 3 (.fsl 2 (List.map c_S_api_Span a3)),V 4 (.fptr [iv a0] 0),V 9 (.fn 9 []),V 10 (.fn 10 []),V 11 (.fn 11 [.fptr [iv a0] 0]),V 49 (bv false)],[],0⟩ ?_
  refine jr_nil rfl ?_
  exact jx_mid rfl (wkR [] (fix_nil _) allp_nil)
 intro x15
 refine jG 20 1 ⟨[V 1 (.fsl 2 (List.map c_S_api_Span a1)),V 2 (.fsl 2 (List.map c_S_api_Span a2)),V 3 (.fsl 2 (List.map c_S_api_Span a3)),V 4 (.fptr [iv a0] 0),V 9 (.fn 9 []),V 10 (.fn 10 []),V 11 (.fn 11 [.fptr [iv a0] 0]),V 50 (bv x15)],[],0⟩ ?_
 refine jr_bind 21 16 (fun x24=>⟨[V 1 (.fsl 2 (List.map c_S_api_Span a1)),V 2 (.fsl 2 (List.map c_S_api_Span a2)),V 3 (.fsl 2 (List.map c_S_api_Span a3)),V 4 (.fptr [iv a0] 0),V 9 (.fn 9 []),V 10 (.fn 10 []),V 11 (.fn 11 [.fptr [iv a0] 0]),V 66 (bv x24)],[],0⟩) ?_ ?_
 ·refine jSp 50 ?_ ?_
  ·refine jG 0 5 ⟨[V 1 (.fsl 2 (List.map c_S_api_Span a1)),V 2 (.fsl 2 (List.map c_S_api_Span a2)),V 3 (.fsl 2 (List.map c_S_api_Span a3)),V 4 (.fptr [iv a0] 0),V 9 (.fn 9 []),V 10 (.fn 10 []),V 11 (.fn 11 [.fptr [iv a0] 0]),(50,.lit true),V 51 (.fn 9 []),V 52 (.fsl 2 (List.map c_S_api_Span a1)),V 53 (.fn 9 []),V 54 (.fsl 2 (List.map c_S_api_Span a2)),V 55 (.fsl 2 (List.map c_S_api_Span a3))],[],0⟩ ?_
   refine jr_callV (i:=5) rfl rfl rfl rfl (g:=9) (caps:=[]) (avs:=[.fsl 2 (List.map c_S_api_Span a2),.fsl 2 (List.map c_S_api_Span a3)]) (vs:=[.fsl 2 (List.map c_S_api_Span a2),.fsl 2 (List.map c_S_api_Span a3)]) (by kernel_rfl) (by kernel_rfl) rfl (snapL_cons rfl (snapL_cons rfl (snapL_nil _))) (all2_cons (fle_refl _) (all2_cons (fle_refl _) all2_nil)) (ranks_Union_ok a2 a3) (fun _=>rfl) (fun _=>rfl) ?_
   intro x25 h25
   refine jr_callV (i:=6) rfl rfl rfl rfl (g:=9) (caps:=[]) (avs:=[.fsl 2 (List.map c_S_api_Span a1),.fsl 2 (List.map c_S_api_Span x25)]) (vs:=[.fsl 2 (List.map c_S_api_Span a1),.fsl 2 (List.map c_S_api_Span x25)]) (by kernel_rfl) (by kernel_rfl) rfl (snapL_cons rfl (snapL_cons rfl (snapL_nil _))) (all2_cons (fle_refl _) (all2_cons (fle_refl _) all2_nil)) (ranks_Union_ok a1 x25) (fun _=>rfl) (fun _=>rfl) ?_
   intro x26 h26
   refine jG 7 4 ⟨[V 1 (.fsl 2 (List.map c_S_api_Span a1)),V 2 (.fsl 2 (List.map c_S_api_Span a2)),V 3 (.fsl 2 (List.map c_S_api_Span a3)),V 4 (.fptr [iv a0] 0),V 9 (.fn 9 []),V 10 (.fn 10 []),V 11 (.fn 11 [.fptr [iv a0] 0]),(50,.lit true),V 57 (.fsl 2 (List.map c_S_api_Span x26)),V 58 (.fn 9 []),V 59 (.fn 9 []),V 60 (.fsl 2 (List.map c_S_api_Span a1)),V 61 (.fsl 2 (List.map c_S_api_Span a2))],[],0⟩ ?_
   refine jr_callV (i:=11) rfl rfl rfl rfl (g:=9) (caps:=[]) (avs:=[.fsl 2 (List.map c_S_api_Span a1),.fsl 2 (List.map c_S_api_Span a2)]) (vs:=[.fsl 2 (List.map c_S_api_Span a1),.fsl 2 (List.map c_S_api_Span a2)]) (by kernel_rfl) (by kernel_rfl) rfl (snapL_cons rfl (snapL_cons rfl (snapL_nil _))) (all2_cons (fle_refl _) (all2_cons (fle_refl _) all2_nil)) (ranks_Union_ok a1 a2) (fun _=>rfl) (fun _=>rfl) ?_
   intro x27 h27
   refine jG 12 1 ⟨[V 1 (.fsl 2 (List.map c_S_api_Span a1)),V 2 (.fsl 2 (List.map c_S_api_Span a2)),V 3 (.fsl 2 (List.map c_S_api_Span a3)),V 4 (.fptr [iv a0] 0),V 9 (.fn 9 []),V 10 (.fn 10 []),V 11 (.fn 11 [.fptr [iv a0] 0]),(50,.lit true),V 57 (.fsl 2 (List.map c_S_api_Span x26)),V 58 (.fn 9 []),V 62 (.fsl 2 (List.map c_S_api_Span x27)),V 63 (.fsl 2 (List.map c_S_api_Span a3))],[],0⟩ ?_
   refine jr_callV (i:=13) rfl rfl rfl rfl (g:=9) (caps:=[]) (avs:=[.fsl 2 (List.map c_S_api_Span x27),.fsl 2 (List.map c_S_api_Span a3)]) (vs:=[.fsl 2 (List.map c_S_api_Span x27),.fsl 2 (List.map c_S_api_Span a3)]) (by kernel_rfl) (by kernel_rfl) rfl (snapL_cons rfl (snapL_cons rfl (snapL_nil _))) (all2_cons (fle_refl _) (all2_cons (fle_refl _) all2_nil)) (ranks_Union_ok x27 a3) (fun _=>rfl) (fun _=>rfl) ?_
   intro x28 h28
   refine jK 14 (ref07_Same_ok x26 x28) ?_
   intro x29 h29
   refine jG 15 1 ⟨[V 1 (.fsl 2 (List.map c_S_api_Span a1)),V 2 (.fsl 2 (List.map c_S_api_Span a2)),V 3 (.fsl 2 (List.map c_S_api_Span a3)),V 4 (.fptr [iv a0] 0),V 9 (.fn 9 []),V 10 (.fn 10 []),V 11 (.fn 11 [.fptr [iv a0] 0]),V 66 (bv x29)],[],0⟩ ?_
   refine jr_nil rfl ?_
   exact jx_mid rfl (wkR [] (fix_nil _) allp_nil)
  refine jG 0 16 ⟨[V 1 (.fsl 2 (List.map c_S_api_Span a1)),V 2 (.fsl 2 (List.map c_S_api_Span a2)),V 3 (.fsl 2 (List.map c_S_api_Span a3)),V 4 (.fptr [iv a0] 0),V 9 (.fn 9 []),V 10 (.fn 10 []),V 11 (.fn 11 [.fptr [iv a0] 0]),V 66 (bv false)],[],0⟩ ?_
  refine jr_nil rfl ?_
  exact jx_mid rfl (wkR [] (fix_nil _) allp_nil)
 intro x24
 refine jG 37 1 ⟨[V 1 (.fsl 2 (List.map c_S_api_Span a1)),V 2 (.fsl 2 (List.map c_S_api_Span a2)),V 3 (.fsl 2 (List.map c_S_api_Span a3)),V 4 (.fptr [iv a0] 0),V 9 (.fn 9 []),V 10 (.fn 10 []),V 11 (.fn 11 [.fptr [iv a0] 0]),V 67 (bv x24)],[],0⟩ ?_
 refine jr_bind 38 16 (fun x35=>⟨[V 1 (.fsl 2 (List.map c_S_api_Span a1)),V 2 (.fsl 2 (List.map c_S_api_Span a2)),V 3 (.fsl 2 (List.map c_S_api_Span a3)),V 4 (.fptr [iv a0] 0),V 9 (.fn 9 []),V 10 (.fn 10 []),V 11 (.fn 11 [.fptr [iv a0] 0]),V 83 (bv x35)],[],0⟩) ?_ ?_
 ·refine jSp 67 ?_ ?_
  ·refine jG 0 5 ⟨[V 1 (.fsl 2 (List.map c_S_api_Span a1)),V 2 (.fsl 2 (List.map c_S_api_Span a2)),V 3 (.fsl 2 (List.map c_S_api_Span a3)),V 4 (.fptr [iv a0] 0),V 9 (.fn 9 []),V 10 (.fn 10 []),V 11 (.fn 11 [.fptr [iv a0] 0]),(67,.lit true),V 68 (.fn 10 []),V 69 (.fsl 2 (List.map c_S_api_Span a1)),V 70 (.fn 10 []),V 71 (.fsl 2 (List.map c_S_api_Span a2)),V 72 (.fsl 2 (List.map c_S_api_Span a3))],[],0⟩ ?_
   refine jr_callV (i:=5) rfl rfl rfl rfl (g:=10) (caps:=[]) (avs:=[.fsl 2 (List.map c_S_api_Span a2),.fsl 2 (List.map c_S_api_Span a3)]) (vs:=[.fsl 2 (List.map c_S_api_Span a2),.fsl 2 (List.map c_S_api_Span a3)]) (by kernel_rfl) (by kernel_rfl) rfl (snapL_cons rfl (snapL_cons rfl (snapL_nil _))) (all2_cons (fle_refl _) (all2_cons (fle_refl _) all2_nil)) (ranks_Meet_ok a2 a3) (fun _=>rfl) (fun _=>rfl) ?_
   intro x36 h36
   refine jr_callV (i:=6) rfl rfl rfl rfl (g:=10) (caps:=[]) (avs:=[.fsl 2 (List.map c_S_api_Span a1),.fsl 2 (List.map c_S_api_Span x36)]) (vs:=[.fsl 2 (List.map c_S_api_Span a1),.fsl 2 (List.map c_S_api_Span x36)]) (by kernel_rfl) (by kernel_rfl) rfl (snapL_cons rfl (snapL_cons rfl (snapL_nil _))) (all2_cons (fle_refl _) (all2_cons (fle_refl _) all2_nil)) (ranks_Meet_ok a1 x36) (fun _=>rfl) (fun _=>rfl) ?_
   intro x37 h37
   refine jG 7 4 ⟨[V 1 (.fsl 2 (List.map c_S_api_Span a1)),V 2 (.fsl 2 (List.map c_S_api_Span a2)),V 3 (.fsl 2 (List.map c_S_api_Span a3)),V 4 (.fptr [iv a0] 0),V 9 (.fn 9 []),V 10 (.fn 10 []),V 11 (.fn 11 [.fptr [iv a0] 0]),(67,.lit true),V 74 (.fsl 2 (List.map c_S_api_Span x37)),V 75 (.fn 10 []),V 76 (.fn 10 []),V 77 (.fsl 2 (List.map c_S_api_Span a1)),V 78 (.fsl 2 (List.map c_S_api_Span a2))],[],0⟩ ?_
   refine jr_callV (i:=11) rfl rfl rfl rfl (g:=10) (caps:=[]) (avs:=[.fsl 2 (List.map c_S_api_Span a1),.fsl 2 (List.map c_S_api_Span a2)]) (vs:=[.fsl 2 (List.map c_S_api_Span a1),.fsl 2 (List.map c_S_api_Span a2)]) (by kernel_rfl) (by kernel_rfl) rfl (snapL_cons rfl (snapL_cons rfl (snapL_nil _))) (all2_cons (fle_refl _) (all2_cons (fle_refl _) all2_nil)) (ranks_Meet_ok a1 a2) (fun _=>rfl) (fun _=>rfl) ?_
   intro x38 h38
   refine jG 12 1 ⟨[V 1 (.fsl 2 (List.map c_S_api_Span a1)),V 2 (.fsl 2 (List.map c_S_api_Span a2)),V 3 (.fsl 2 (List.map c_S_api_Span a3)),V 4 (.fptr [iv a0] 0),V 9 (.fn 9 []),V 10 (.fn 10 []),V 11 (.fn 11 [.fptr [iv a0] 0]),(67,.lit true),V 74 (.fsl 2 (List.map c_S_api_Span x37)),V 75 (.fn 10 []),V 79 (.fsl 2 (List.map c_S_api_Span x38)),V 80 (.fsl 2 (List.map c_S_api_Span a3))],[],0⟩ ?_
   refine jr_callV (i:=13) rfl rfl rfl rfl (g:=10) (caps:=[]) (avs:=[.fsl 2 (List.map c_S_api_Span x38),.fsl 2 (List.map c_S_api_Span a3)]) (vs:=[.fsl 2 (List.map c_S_api_Span x38),.fsl 2 (List.map c_S_api_Span a3)]) (by kernel_rfl) (by kernel_rfl) rfl (snapL_cons rfl (snapL_cons rfl (snapL_nil _))) (all2_cons (fle_refl _) (all2_cons (fle_refl _) all2_nil)) (ranks_Meet_ok x38 a3) (fun _=>rfl) (fun _=>rfl) ?_
   intro x39 h39
   refine jK 14 (ref07_Same_ok x37 x39) ?_
   intro x40 h40
   refine jG 15 1 ⟨[V 1 (.fsl 2 (List.map c_S_api_Span a1)),V 2 (.fsl 2 (List.map c_S_api_Span a2)),V 3 (.fsl 2 (List.map c_S_api_Span a3)),V 4 (.fptr [iv a0] 0),V 9 (.fn 9 []),V 10 (.fn 10 []),V 11 (.fn 11 [.fptr [iv a0] 0]),V 83 (bv x40)],[],0⟩ ?_
   refine jr_nil rfl ?_
   exact jx_mid rfl (wkR [] (fix_nil _) allp_nil)
  refine jG 0 16 ⟨[V 1 (.fsl 2 (List.map c_S_api_Span a1)),V 2 (.fsl 2 (List.map c_S_api_Span a2)),V 3 (.fsl 2 (List.map c_S_api_Span a3)),V 4 (.fptr [iv a0] 0),V 9 (.fn 9 []),V 10 (.fn 10 []),V 11 (.fn 11 [.fptr [iv a0] 0]),V 83 (bv false)],[],0⟩ ?_
  refine jr_nil rfl ?_
  exact jx_mid rfl (wkR [] (fix_nil _) allp_nil)
 intro x35
 refine jG 54 1 ⟨[V 1 (.fsl 2 (List.map c_S_api_Span a1)),V 2 (.fsl 2 (List.map c_S_api_Span a2)),V 3 (.fsl 2 (List.map c_S_api_Span a3)),V 4 (.fptr [iv a0] 0),V 9 (.fn 9 []),V 10 (.fn 10 []),V 11 (.fn 11 [.fptr [iv a0] 0]),V 84 (bv x35)],[],0⟩ ?_
 refine jr_bind 55 19 (fun x47=>⟨[V 1 (.fsl 2 (List.map c_S_api_Span a1)),V 2 (.fsl 2 (List.map c_S_api_Span a2)),V 3 (.fsl 2 (List.map c_S_api_Span a3)),V 4 (.fptr [iv a0] 0),V 9 (.fn 9 []),V 10 (.fn 10 []),V 11 (.fn 11 [.fptr [iv a0] 0]),V 103 (bv x47)],[],0⟩) ?_ ?_
 ·refine jSp 84 ?_ ?_
  ·refine jG 0 5 ⟨[V 1 (.fsl 2 (List.map c_S_api_Span a1)),V 2 (.fsl 2 (List.map c_S_api_Span a2)),V 3 (.fsl 2 (List.map c_S_api_Span a3)),V 4 (.fptr [iv a0] 0),V 9 (.fn 9 []),V 10 (.fn 10 []),V 11 (.fn 11 [.fptr [iv a0] 0]),(84,.lit true),V 85 (.fn 10 []),V 86 (.fsl 2 (List.map c_S_api_Span a1)),V 87 (.fn 9 []),V 88 (.fsl 2 (List.map c_S_api_Span a2)),V 89 (.fsl 2 (List.map c_S_api_Span a3))],[],0⟩ ?_
   refine jr_callV (i:=5) rfl rfl rfl rfl (g:=9) (caps:=[]) (avs:=[.fsl 2 (List.map c_S_api_Span a2),.fsl 2 (List.map c_S_api_Span a3)]) (vs:=[.fsl 2 (List.map c_S_api_Span a2),.fsl 2 (List.map c_S_api_Span a3)]) (by kernel_rfl) (by kernel_rfl) rfl (snapL_cons rfl (snapL_cons rfl (snapL_nil _))) (all2_cons (fle_refl _) (all2_cons (fle_refl _) all2_nil)) (ranks_Union_ok a2 a3) (fun _=>rfl) (fun _=>rfl) ?_
   intro x48 h48
   refine jr_callV (i:=6) rfl rfl rfl rfl (g:=10) (caps:=[]) (avs:=[.fsl 2 (List.map c_S_api_Span a1),.fsl 2 (List.map c_S_api_Span x48)]) (vs:=[.fsl 2 (List.map c_S_api_Span a1),.fsl 2 (List.map c_S_api_Span x48)]) (by kernel_rfl) (by kernel_rfl) rfl (snapL_cons rfl (snapL_cons rfl (snapL_nil _))) (all2_cons (fle_refl _) (all2_cons (fle_refl _) all2_nil)) (ranks_Meet_ok a1 x48) (fun _=>rfl) (fun _=>rfl) ?_
   intro x49 h49
   refine jG 7 4 ⟨[V 1 (.fsl 2 (List.map c_S_api_Span a1)),V 2 (.fsl 2 (List.map c_S_api_Span a2)),V 3 (.fsl 2 (List.map c_S_api_Span a3)),V 4 (.fptr [iv a0] 0),V 9 (.fn 9 []),V 10 (.fn 10 []),V 11 (.fn 11 [.fptr [iv a0] 0]),(84,.lit true),V 91 (.fsl 2 (List.map c_S_api_Span x49)),V 92 (.fn 9 []),V 93 (.fn 10 []),V 94 (.fsl 2 (List.map c_S_api_Span a1)),V 95 (.fsl 2 (List.map c_S_api_Span a2))],[],0⟩ ?_
   refine jr_callV (i:=11) rfl rfl rfl rfl (g:=10) (caps:=[]) (avs:=[.fsl 2 (List.map c_S_api_Span a1),.fsl 2 (List.map c_S_api_Span a2)]) (vs:=[.fsl 2 (List.map c_S_api_Span a1),.fsl 2 (List.map c_S_api_Span a2)]) (by kernel_rfl) (by kernel_rfl) rfl (snapL_cons rfl (snapL_cons rfl (snapL_nil _))) (all2_cons (fle_refl _) (all2_cons (fle_refl _) all2_nil)) (ranks_Meet_ok a1 a2) (fun _=>rfl) (fun _=>rfl) ?_
   intro x50 h50
   refine jG 12 3 ⟨[V 1 (.fsl 2 (List.map c_S_api_Span a1)),V 2 (.fsl 2 (List.map c_S_api_Span a2)),V 3 (.fsl 2 (List.map c_S_api_Span a3)),V 4 (.fptr [iv a0] 0),V 9 (.fn 9 []),V 10 (.fn 10 []),V 11 (.fn 11 [.fptr [iv a0] 0]),(84,.lit true),V 91 (.fsl 2 (List.map c_S_api_Span x49)),V 92 (.fn 9 []),V 96 (.fsl 2 (List.map c_S_api_Span x50)),V 97 (.fn 10 []),V 98 (.fsl 2 (List.map c_S_api_Span a1)),V 99 (.fsl 2 (List.map c_S_api_Span a3))],[],0⟩ ?_
   refine jr_callV (i:=15) rfl rfl rfl rfl (g:=10) (caps:=[]) (avs:=[.fsl 2 (List.map c_S_api_Span a1),.fsl 2 (List.map c_S_api_Span a3)]) (vs:=[.fsl 2 (List.map c_S_api_Span a1),.fsl 2 (List.map c_S_api_Span a3)]) (by kernel_rfl) (by kernel_rfl) rfl (snapL_cons rfl (snapL_cons rfl (snapL_nil _))) (all2_cons (fle_refl _) (all2_cons (fle_refl _) all2_nil)) (ranks_Meet_ok a1 a3) (fun _=>rfl) (fun _=>rfl) ?_
   intro x51 h51
   refine jr_callV (i:=16) rfl rfl rfl rfl (g:=9) (caps:=[]) (avs:=[.fsl 2 (List.map c_S_api_Span x50),.fsl 2 (List.map c_S_api_Span x51)]) (vs:=[.fsl 2 (List.map c_S_api_Span x50),.fsl 2 (List.map c_S_api_Span x51)]) (by kernel_rfl) (by kernel_rfl) rfl (snapL_cons rfl (snapL_cons rfl (snapL_nil _))) (all2_cons (fle_refl _) (all2_cons (fle_refl _) all2_nil)) (ranks_Union_ok x50 x51) (fun _=>rfl) (fun _=>rfl) ?_
   intro x52 h52
   refine jK 17 (ref07_Same_ok x49 x52) ?_
   intro x53 h53
   refine jG 18 1 ⟨[V 1 (.fsl 2 (List.map c_S_api_Span a1)),V 2 (.fsl 2 (List.map c_S_api_Span a2)),V 3 (.fsl 2 (List.map c_S_api_Span a3)),V 4 (.fptr [iv a0] 0),V 9 (.fn 9 []),V 10 (.fn 10 []),V 11 (.fn 11 [.fptr [iv a0] 0]),V 103 (bv x53)],[],0⟩ ?_
   refine jr_nil rfl ?_
   exact jx_mid rfl (wkR [] (fix_nil _) allp_nil)
  refine jG 0 19 ⟨[V 1 (.fsl 2 (List.map c_S_api_Span a1)),V 2 (.fsl 2 (List.map c_S_api_Span a2)),V 3 (.fsl 2 (List.map c_S_api_Span a3)),V 4 (.fptr [iv a0] 0),V 9 (.fn 9 []),V 10 (.fn 10 []),V 11 (.fn 11 [.fptr [iv a0] 0]),V 103 (bv false)],[],0⟩ ?_
  refine jr_nil rfl ?_
  exact jx_mid rfl (wkR [] (fix_nil _) allp_nil)
 intro x47
 refine jG 74 1 ⟨[V 1 (.fsl 2 (List.map c_S_api_Span a1)),V 2 (.fsl 2 (List.map c_S_api_Span a2)),V 3 (.fsl 2 (List.map c_S_api_Span a3)),V 4 (.fptr [iv a0] 0),V 9 (.fn 9 []),V 10 (.fn 10 []),V 11 (.fn 11 [.fptr [iv a0] 0]),V 104 (bv x47)],[],0⟩ ?_
 refine jr_bind 75 19 (fun x60=>⟨[V 1 (.fsl 2 (List.map c_S_api_Span a1)),V 2 (.fsl 2 (List.map c_S_api_Span a2)),V 4 (.fptr [iv a0] 0),V 9 (.fn 9 []),V 10 (.fn 10 []),V 11 (.fn 11 [.fptr [iv a0] 0]),V 123 (bv x60)],[],0⟩) ?_ ?_
 ·refine jSp 104 ?_ ?_
  ·refine jG 0 5 ⟨[V 1 (.fsl 2 (List.map c_S_api_Span a1)),V 2 (.fsl 2 (List.map c_S_api_Span a2)),V 3 (.fsl 2 (List.map c_S_api_Span a3)),V 4 (.fptr [iv a0] 0),V 9 (.fn 9 []),V 10 (.fn 10 []),V 11 (.fn 11 [.fptr [iv a0] 0]),(104,.lit true),V 105 (.fn 9 []),V 106 (.fsl 2 (List.map c_S_api_Span a1)),V 107 (.fn 10 []),V 108 (.fsl 2 (List.map c_S_api_Span a2)),V 109 (.fsl 2 (List.map c_S_api_Span a3))],[],0⟩ ?_
   refine jr_callV (i:=5) rfl rfl rfl rfl (g:=10) (caps:=[]) (avs:=[.fsl 2 (List.map c_S_api_Span a2),.fsl 2 (List.map c_S_api_Span a3)]) (vs:=[.fsl 2 (List.map c_S_api_Span a2),.fsl 2 (List.map c_S_api_Span a3)]) (by kernel_rfl) (by kernel_rfl) rfl (snapL_cons rfl (snapL_cons rfl (snapL_nil _))) (all2_cons (fle_refl _) (all2_cons (fle_refl _) all2_nil)) (ranks_Meet_ok a2 a3) (fun _=>rfl) (fun _=>rfl) ?_
   intro x61 h61
   refine jr_callV (i:=6) rfl rfl rfl rfl (g:=9) (caps:=[]) (avs:=[.fsl 2 (List.map c_S_api_Span a1),.fsl 2 (List.map c_S_api_Span x61)]) (vs:=[.fsl 2 (List.map c_S_api_Span a1),.fsl 2 (List.map c_S_api_Span x61)]) (by kernel_rfl) (by kernel_rfl) rfl (snapL_cons rfl (snapL_cons rfl (snapL_nil _))) (all2_cons (fle_refl _) (all2_cons (fle_refl _) all2_nil)) (ranks_Union_ok a1 x61) (fun _=>rfl) (fun _=>rfl) ?_
   intro x62 h62
   refine jG 7 4 ⟨[V 1 (.fsl 2 (List.map c_S_api_Span a1)),V 2 (.fsl 2 (List.map c_S_api_Span a2)),V 3 (.fsl 2 (List.map c_S_api_Span a3)),V 4 (.fptr [iv a0] 0),V 9 (.fn 9 []),V 10 (.fn 10 []),V 11 (.fn 11 [.fptr [iv a0] 0]),(104,.lit true),V 111 (.fsl 2 (List.map c_S_api_Span x62)),V 112 (.fn 10 []),V 113 (.fn 9 []),V 114 (.fsl 2 (List.map c_S_api_Span a1)),V 115 (.fsl 2 (List.map c_S_api_Span a2))],[],0⟩ ?_
   refine jr_callV (i:=11) rfl rfl rfl rfl (g:=9) (caps:=[]) (avs:=[.fsl 2 (List.map c_S_api_Span a1),.fsl 2 (List.map c_S_api_Span a2)]) (vs:=[.fsl 2 (List.map c_S_api_Span a1),.fsl 2 (List.map c_S_api_Span a2)]) (by kernel_rfl) (by kernel_rfl) rfl (snapL_cons rfl (snapL_cons rfl (snapL_nil _))) (all2_cons (fle_refl _) (all2_cons (fle_refl _) all2_nil)) (ranks_Union_ok a1 a2) (fun _=>rfl) (fun _=>rfl) ?_
   intro x63 h63
   refine jG 12 3 ⟨[V 1 (.fsl 2 (List.map c_S_api_Span a1)),V 2 (.fsl 2 (List.map c_S_api_Span a2)),V 4 (.fptr [iv a0] 0),V 9 (.fn 9 []),V 10 (.fn 10 []),V 11 (.fn 11 [.fptr [iv a0] 0]),(104,.lit true),V 111 (.fsl 2 (List.map c_S_api_Span x62)),V 112 (.fn 10 []),V 116 (.fsl 2 (List.map c_S_api_Span x63)),V 117 (.fn 9 []),V 118 (.fsl 2 (List.map c_S_api_Span a1)),V 119 (.fsl 2 (List.map c_S_api_Span a3))],[],0⟩ ?_
   refine jr_callV (i:=15) rfl rfl rfl rfl (g:=9) (caps:=[]) (avs:=[.fsl 2 (List.map c_S_api_Span a1),.fsl 2 (List.map c_S_api_Span a3)]) (vs:=[.fsl 2 (List.map c_S_api_Span a1),.fsl 2 (List.map c_S_api_Span a3)]) (by kernel_rfl) (by kernel_rfl) rfl (snapL_cons rfl (snapL_cons rfl (snapL_nil _))) (all2_cons (fle_refl _) (all2_cons (fle_refl _) all2_nil)) (ranks_Union_ok a1 a3) (fun _=>rfl) (fun _=>rfl) ?_
   intro x64 h64
   refine jr_callV (i:=16) rfl rfl rfl rfl (g:=10) (caps:=[]) (avs:=[.fsl 2 (List.map c_S_api_Span x63),.fsl 2 (List.map c_S_api_Span x64)]) (vs:=[.fsl 2 (List.map c_S_api_Span x63),.fsl 2 (List.map c_S_api_Span x64)]) (by kernel_rfl) (by kernel_rfl) rfl (snapL_cons rfl (snapL_cons rfl (snapL_nil _))) (all2_cons (fle_refl _) (all2_cons (fle_refl _) all2_nil)) (ranks_Meet_ok x63 x64) (fun _=>rfl) (fun _=>rfl) ?_
   intro x65 h65
   refine jK 17 (ref07_Same_ok x62 x65) ?_
   intro x66 h66
   refine jG 18 1 ⟨[V 1 (.fsl 2 (List.map c_S_api_Span a1)),V 2 (.fsl 2 (List.map c_S_api_Span a2)),V 4 (.fptr [iv a0] 0),V 9 (.fn 9 []),V 10 (.fn 10 []),V 11 (.fn 11 [.fptr [iv a0] 0]),V 123 (bv x66)],[],0⟩ ?_
   refine jr_nil rfl ?_
   exact jx_mid rfl (wkR [] (fix_nil _) allp_nil)
  refine jG 0 19 ⟨[V 1 (.fsl 2 (List.map c_S_api_Span a1)),V 2 (.fsl 2 (List.map c_S_api_Span a2)),V 4 (.fptr [iv a0] 0),V 9 (.fn 9 []),V 10 (.fn 10 []),V 11 (.fn 11 [.fptr [iv a0] 0]),V 123 (bv false)],[],0⟩ ?_
  refine jr_nil rfl ?_
  exact jx_mid rfl (wkR [] (fix_nil _) allp_nil)
 intro x60
 refine jG 94 1 ⟨[V 1 (.fsl 2 (List.map c_S_api_Span a1)),V 2 (.fsl 2 (List.map c_S_api_Span a2)),V 4 (.fptr [iv a0] 0),V 9 (.fn 9 []),V 10 (.fn 10 []),V 11 (.fn 11 [.fptr [iv a0] 0]),V 124 (bv x60)],[],0⟩ ?_
 refine jr_bind 95 9 (fun x69=>⟨[V 1 (.fsl 2 (List.map c_S_api_Span a1)),V 2 (.fsl 2 (List.map c_S_api_Span a2)),V 4 (.fptr [iv a0] 0),V 9 (.fn 9 []),V 10 (.fn 10 []),V 11 (.fn 11 [.fptr [iv a0] 0]),V 133 (bv x69)],[],0⟩) ?_ ?_
 ·refine jSp 124 ?_ ?_
  ·refine jG 0 4 ⟨[V 1 (.fsl 2 (List.map c_S_api_Span a1)),V 2 (.fsl 2 (List.map c_S_api_Span a2)),V 4 (.fptr [iv a0] 0),V 9 (.fn 9 []),V 10 (.fn 10 []),V 11 (.fn 11 [.fptr [iv a0] 0]),(124,.lit true),V 125 (.fn 10 []),V 126 (.fsl 2 (List.map c_S_api_Span a1)),V 127 (.fn 11 [.fptr [iv a0] 0]),V 128 (.fsl 2 (List.map c_S_api_Span a1))],[],0⟩ ?_
   refine jr_callV (i:=4) rfl rfl rfl rfl (g:=11) (caps:=[.fptr [iv a0] 0]) (avs:=[.fsl 2 (List.map c_S_api_Span a1)]) (vs:=[.fsl 2 (List.map c_S_api_Span a1),.fptr [iv a0] 0]) (by kernel_rfl) (by kernel_rfl) rfl (snapL_cons rfl (snapL_cons rfl (snapL_nil _))) (all2_cons (fle_refl _) (all2_cons (fle_refl _) all2_nil)) (law07_RanksAlgebra_1_s64b3_ok a1 a0) (fun _=>rfl) (fun _=>rfl) ?_
   intro x70 h70
   refine jr_callV (i:=5) rfl rfl rfl rfl (g:=10) (caps:=[]) (avs:=[.fsl 2 (List.map c_S_api_Span a1),.fsl 2 (List.map c_S_api_Span x70)]) (vs:=[.fsl 2 (List.map c_S_api_Span a1),.fsl 2 (List.map c_S_api_Span x70)]) (by kernel_rfl) (by kernel_rfl) rfl (snapL_cons rfl (snapL_cons rfl (snapL_nil _))) (all2_cons (fle_refl _) (all2_cons (fle_refl _) all2_nil)) (ranks_Meet_ok a1 x70) (fun _=>rfl) (fun _=>rfl) ?_
   intro x71 h71
   refine jG 6 3 ⟨[V 1 (.fsl 2 (List.map c_S_api_Span a1)),V 2 (.fsl 2 (List.map c_S_api_Span a2)),V 4 (.fptr [iv a0] 0),V 9 (.fn 9 []),V 10 (.fn 10 []),V 11 (.fn 11 [.fptr [iv a0] 0]),V 133 (bv ((List.length (List.map c_S_api_Span x71):Int) == 0))],[],0⟩ ?_
   simp only[List.length_map]
   refine jr_nil rfl ?_
   exact jx_mid rfl (wkR [] (fix_nil _) allp_nil)
  refine jG 0 9 ⟨[V 1 (.fsl 2 (List.map c_S_api_Span a1)),V 2 (.fsl 2 (List.map c_S_api_Span a2)),V 4 (.fptr [iv a0] 0),V 9 (.fn 9 []),V 10 (.fn 10 []),V 11 (.fn 11 [.fptr [iv a0] 0]),V 133 (bv false)],[],0⟩ ?_
  refine jr_nil rfl ?_
  exact jx_mid rfl (wkR [] (fix_nil _) allp_nil)
 intro x69
 refine jG 104 1 ⟨[V 1 (.fsl 2 (List.map c_S_api_Span a1)),V 2 (.fsl 2 (List.map c_S_api_Span a2)),V 4 (.fptr [iv a0] 0),V 9 (.fn 9 []),V 10 (.fn 10 []),V 11 (.fn 11 [.fptr [iv a0] 0]),V 134 (bv x69)],[],0⟩ ?_
 refine jr_bind 105 10 (fun x76=>⟨[V 1 (.fsl 2 (List.map c_S_api_Span a1)),V 2 (.fsl 2 (List.map c_S_api_Span a2)),V 4 (.fptr [iv a0] 0),V 9 (.fn 9 []),V 10 (.fn 10 []),V 11 (.fn 11 [.fptr [iv a0] 0]),V 144 (bv x76)],[],0⟩) ?_ ?_
 ·refine jSp 134 ?_ ?_
  ·refine jG 0 4 ⟨[V 1 (.fsl 2 (List.map c_S_api_Span a1)),V 2 (.fsl 2 (List.map c_S_api_Span a2)),V 4 (.fptr [iv a0] 0),V 9 (.fn 9 []),V 10 (.fn 10 []),V 11 (.fn 11 [.fptr [iv a0] 0]),(134,.lit true),V 135 (.fn 9 []),V 136 (.fsl 2 (List.map c_S_api_Span a1)),V 137 (.fn 11 [.fptr [iv a0] 0]),V 138 (.fsl 2 (List.map c_S_api_Span a1))],[],0⟩ ?_
   refine jr_callV (i:=4) rfl rfl rfl rfl (g:=11) (caps:=[.fptr [iv a0] 0]) (avs:=[.fsl 2 (List.map c_S_api_Span a1)]) (vs:=[.fsl 2 (List.map c_S_api_Span a1),.fptr [iv a0] 0]) (by kernel_rfl) (by kernel_rfl) rfl (snapL_cons rfl (snapL_cons rfl (snapL_nil _))) (all2_cons (fle_refl _) (all2_cons (fle_refl _) all2_nil)) (law07_RanksAlgebra_1_s64b3_ok a1 a0) (fun _=>rfl) (fun _=>rfl) ?_
   intro x77 h77
   refine jr_callV (i:=5) rfl rfl rfl rfl (g:=9) (caps:=[]) (avs:=[.fsl 2 (List.map c_S_api_Span a1),.fsl 2 (List.map c_S_api_Span x77)]) (vs:=[.fsl 2 (List.map c_S_api_Span a1),.fsl 2 (List.map c_S_api_Span x77)]) (by kernel_rfl) (by kernel_rfl) rfl (snapL_cons rfl (snapL_cons rfl (snapL_nil _))) (all2_cons (fle_refl _) (all2_cons (fle_refl _) all2_nil)) (ranks_Union_ok a1 x77) (fun _=>rfl) (fun _=>rfl) ?_
   intro x78 h78
   refine jG 6 1 ⟨[V 1 (.fsl 2 (List.map c_S_api_Span a1)),V 2 (.fsl 2 (List.map c_S_api_Span a2)),V 4 (.fptr [iv a0] 0),V 9 (.fn 9 []),V 10 (.fn 10 []),V 11 (.fn 11 [.fptr [iv a0] 0]),(134,.lit true),V 140 (.fsl 2 (List.map c_S_api_Span x78)),V 141 (iv a0)],[],0⟩ ?_
   refine jK 7 (ranks_All_ok a0) ?_
   intro x79 h79
   refine jK 8 (ref07_Same_ok x78 x79) ?_
   intro x80 h80
   refine jG 9 1 ⟨[V 1 (.fsl 2 (List.map c_S_api_Span a1)),V 2 (.fsl 2 (List.map c_S_api_Span a2)),V 4 (.fptr [iv a0] 0),V 9 (.fn 9 []),V 10 (.fn 10 []),V 11 (.fn 11 [.fptr [iv a0] 0]),V 144 (bv x80)],[],0⟩ ?_
   refine jr_nil rfl ?_
   exact jx_mid rfl (wkR [] (fix_nil _) allp_nil)
  refine jG 0 10 ⟨[V 1 (.fsl 2 (List.map c_S_api_Span a1)),V 2 (.fsl 2 (List.map c_S_api_Span a2)),V 4 (.fptr [iv a0] 0),V 9 (.fn 9 []),V 10 (.fn 10 []),V 11 (.fn 11 [.fptr [iv a0] 0]),V 144 (bv false)],[],0⟩ ?_
  refine jr_nil rfl ?_
  exact jx_mid rfl (wkR [] (fix_nil _) allp_nil)
 intro x76
 refine jG 115 1 ⟨[V 1 (.fsl 2 (List.map c_S_api_Span a1)),V 2 (.fsl 2 (List.map c_S_api_Span a2)),V 4 (.fptr [iv a0] 0),V 9 (.fn 9 []),V 10 (.fn 10 []),V 11 (.fn 11 [.fptr [iv a0] 0]),V 145 (bv x76)],[],0⟩ ?_
 refine jr_bind 116 16 (fun x87=>⟨[V 1 (.fsl 2 (List.map c_S_api_Span a1)),V 2 (.fsl 2 (List.map c_S_api_Span a2)),V 4 (.fptr [iv a0] 0),V 9 (.fn 9 []),V 10 (.fn 10 []),V 11 (.fn 11 [.fptr [iv a0] 0]),V 161 (bv x87)],[],0⟩) ?_ ?_
 ·refine jSp 145 ?_ ?_
  ·refine jG 0 4 ⟨[V 1 (.fsl 2 (List.map c_S_api_Span a1)),V 2 (.fsl 2 (List.map c_S_api_Span a2)),V 4 (.fptr [iv a0] 0),V 9 (.fn 9 []),V 10 (.fn 10 []),V 11 (.fn 11 [.fptr [iv a0] 0]),(145,.lit true),V 146 (.fn 11 [.fptr [iv a0] 0]),V 147 (.fn 9 []),V 148 (.fsl 2 (List.map c_S_api_Span a1)),V 149 (.fsl 2 (List.map c_S_api_Span a2))],[],0⟩ ?_
   refine jr_callV (i:=4) rfl rfl rfl rfl (g:=9) (caps:=[]) (avs:=[.fsl 2 (List.map c_S_api_Span a1),.fsl 2 (List.map c_S_api_Span a2)]) (vs:=[.fsl 2 (List.map c_S_api_Span a1),.fsl 2 (List.map c_S_api_Span a2)]) (by kernel_rfl) (by kernel_rfl) rfl (snapL_cons rfl (snapL_cons rfl (snapL_nil _))) (all2_cons (fle_refl _) (all2_cons (fle_refl _) all2_nil)) (ranks_Union_ok a1 a2) (fun _=>rfl) (fun _=>rfl) ?_
   intro x88 h88
   refine jr_callV (i:=5) rfl rfl rfl rfl (g:=11) (caps:=[.fptr [iv a0] 0]) (avs:=[.fsl 2 (List.map c_S_api_Span x88)]) (vs:=[.fsl 2 (List.map c_S_api_Span x88),.fptr [iv a0] 0]) (by kernel_rfl) (by kernel_rfl) rfl (snapL_cons rfl (snapL_cons rfl (snapL_nil _))) (all2_cons (fle_refl _) (all2_cons (fle_refl _) all2_nil)) (law07_RanksAlgebra_1_s64b3_ok x88 a0) (fun _=>rfl) (fun _=>rfl) ?_
   intro x89 h89
   refine jG 6 3 ⟨[V 1 (.fsl 2 (List.map c_S_api_Span a1)),V 2 (.fsl 2 (List.map c_S_api_Span a2)),V 4 (.fptr [iv a0] 0),V 9 (.fn 9 []),V 10 (.fn 10 []),V 11 (.fn 11 [.fptr [iv a0] 0]),(145,.lit true),V 151 (.fsl 2 (List.map c_S_api_Span x89)),V 152 (.fn 10 []),V 153 (.fn 11 [.fptr [iv a0] 0]),V 154 (.fsl 2 (List.map c_S_api_Span a1))],[],0⟩ ?_
   refine jr_callV (i:=9) rfl rfl rfl rfl (g:=11) (caps:=[.fptr [iv a0] 0]) (avs:=[.fsl 2 (List.map c_S_api_Span a1)]) (vs:=[.fsl 2 (List.map c_S_api_Span a1),.fptr [iv a0] 0]) (by kernel_rfl) (by kernel_rfl) rfl (snapL_cons rfl (snapL_cons rfl (snapL_nil _))) (all2_cons (fle_refl _) (all2_cons (fle_refl _) all2_nil)) (law07_RanksAlgebra_1_s64b3_ok a1 a0) (fun _=>rfl) (fun _=>rfl) ?_
   intro x90 h90
   refine jG 10 2 ⟨[V 1 (.fsl 2 (List.map c_S_api_Span a1)),V 2 (.fsl 2 (List.map c_S_api_Span a2)),V 4 (.fptr [iv a0] 0),V 9 (.fn 9 []),V 10 (.fn 10 []),V 11 (.fn 11 [.fptr [iv a0] 0]),(145,.lit true),V 151 (.fsl 2 (List.map c_S_api_Span x89)),V 152 (.fn 10 []),V 155 (.fsl 2 (List.map c_S_api_Span x90)),V 156 (.fn 11 [.fptr [iv a0] 0]),V 157 (.fsl 2 (List.map c_S_api_Span a2))],[],0⟩ ?_
   refine jr_callV (i:=12) rfl rfl rfl rfl (g:=11) (caps:=[.fptr [iv a0] 0]) (avs:=[.fsl 2 (List.map c_S_api_Span a2)]) (vs:=[.fsl 2 (List.map c_S_api_Span a2),.fptr [iv a0] 0]) (by kernel_rfl) (by kernel_rfl) rfl (snapL_cons rfl (snapL_cons rfl (snapL_nil _))) (all2_cons (fle_refl _) (all2_cons (fle_refl _) all2_nil)) (law07_RanksAlgebra_1_s64b3_ok a2 a0) (fun _=>rfl) (fun _=>rfl) ?_
   intro x91 h91
   refine jr_callV (i:=13) rfl rfl rfl rfl (g:=10) (caps:=[]) (avs:=[.fsl 2 (List.map c_S_api_Span x90),.fsl 2 (List.map c_S_api_Span x91)]) (vs:=[.fsl 2 (List.map c_S_api_Span x90),.fsl 2 (List.map c_S_api_Span x91)]) (by kernel_rfl) (by kernel_rfl) rfl (snapL_cons rfl (snapL_cons rfl (snapL_nil _))) (all2_cons (fle_refl _) (all2_cons (fle_refl _) all2_nil)) (ranks_Meet_ok x90 x91) (fun _=>rfl) (fun _=>rfl) ?_
   intro x92 h92
   refine jK 14 (ref07_Same_ok x89 x92) ?_
   intro x93 h93
   refine jG 15 1 ⟨[V 1 (.fsl 2 (List.map c_S_api_Span a1)),V 2 (.fsl 2 (List.map c_S_api_Span a2)),V 4 (.fptr [iv a0] 0),V 9 (.fn 9 []),V 10 (.fn 10 []),V 11 (.fn 11 [.fptr [iv a0] 0]),V 161 (bv x93)],[],0⟩ ?_
   refine jr_nil rfl ?_
   exact jx_mid rfl (wkR [] (fix_nil _) allp_nil)
  refine jG 0 16 ⟨[V 1 (.fsl 2 (List.map c_S_api_Span a1)),V 2 (.fsl 2 (List.map c_S_api_Span a2)),V 4 (.fptr [iv a0] 0),V 9 (.fn 9 []),V 10 (.fn 10 []),V 11 (.fn 11 [.fptr [iv a0] 0]),V 161 (bv false)],[],0⟩ ?_
  refine jr_nil rfl ?_
  exact jx_mid rfl (wkR [] (fix_nil _) allp_nil)
 intro x87
 refine jG 132 1 ⟨[V 1 (.fsl 2 (List.map c_S_api_Span a1)),V 2 (.fsl 2 (List.map c_S_api_Span a2)),V 4 (.fptr [iv a0] 0),V 9 (.fn 9 []),V 10 (.fn 10 []),V 11 (.fn 11 [.fptr [iv a0] 0]),V 162 (bv x87)],[],0⟩ ?_
 refine jr_bind 133 16 (fun x100=>⟨[V 1 (.fsl 2 (List.map c_S_api_Span a1)),V 2 (.fsl 2 (List.map c_S_api_Span a2)),V 4 (.fptr [iv a0] 0),V 10 (.fn 10 []),V 11 (.fn 11 [.fptr [iv a0] 0]),V 178 (bv x100)],[],0⟩) ?_ ?_
 ·refine jSp 162 ?_ ?_
  ·refine jG 0 4 ⟨[V 1 (.fsl 2 (List.map c_S_api_Span a1)),V 2 (.fsl 2 (List.map c_S_api_Span a2)),V 4 (.fptr [iv a0] 0),V 9 (.fn 9 []),V 10 (.fn 10 []),V 11 (.fn 11 [.fptr [iv a0] 0]),(162,.lit true),V 163 (.fn 11 [.fptr [iv a0] 0]),V 164 (.fn 10 []),V 165 (.fsl 2 (List.map c_S_api_Span a1)),V 166 (.fsl 2 (List.map c_S_api_Span a2))],[],0⟩ ?_
   refine jr_callV (i:=4) rfl rfl rfl rfl (g:=10) (caps:=[]) (avs:=[.fsl 2 (List.map c_S_api_Span a1),.fsl 2 (List.map c_S_api_Span a2)]) (vs:=[.fsl 2 (List.map c_S_api_Span a1),.fsl 2 (List.map c_S_api_Span a2)]) (by kernel_rfl) (by kernel_rfl) rfl (snapL_cons rfl (snapL_cons rfl (snapL_nil _))) (all2_cons (fle_refl _) (all2_cons (fle_refl _) all2_nil)) (ranks_Meet_ok a1 a2) (fun _=>rfl) (fun _=>rfl) ?_
   intro x101 h101
   refine jr_callV (i:=5) rfl rfl rfl rfl (g:=11) (caps:=[.fptr [iv a0] 0]) (avs:=[.fsl 2 (List.map c_S_api_Span x101)]) (vs:=[.fsl 2 (List.map c_S_api_Span x101),.fptr [iv a0] 0]) (by kernel_rfl) (by kernel_rfl) rfl (snapL_cons rfl (snapL_cons rfl (snapL_nil _))) (all2_cons (fle_refl _) (all2_cons (fle_refl _) all2_nil)) (law07_RanksAlgebra_1_s64b3_ok x101 a0) (fun _=>rfl) (fun _=>rfl) ?_
   intro x102 h102
   refine jG 6 3 ⟨[V 1 (.fsl 2 (List.map c_S_api_Span a1)),V 2 (.fsl 2 (List.map c_S_api_Span a2)),V 4 (.fptr [iv a0] 0),V 10 (.fn 10 []),V 11 (.fn 11 [.fptr [iv a0] 0]),(162,.lit true),V 168 (.fsl 2 (List.map c_S_api_Span x102)),V 169 (.fn 9 []),V 170 (.fn 11 [.fptr [iv a0] 0]),V 171 (.fsl 2 (List.map c_S_api_Span a1))],[],0⟩ ?_
   refine jr_callV (i:=9) rfl rfl rfl rfl (g:=11) (caps:=[.fptr [iv a0] 0]) (avs:=[.fsl 2 (List.map c_S_api_Span a1)]) (vs:=[.fsl 2 (List.map c_S_api_Span a1),.fptr [iv a0] 0]) (by kernel_rfl) (by kernel_rfl) rfl (snapL_cons rfl (snapL_cons rfl (snapL_nil _))) (all2_cons (fle_refl _) (all2_cons (fle_refl _) all2_nil)) (law07_RanksAlgebra_1_s64b3_ok a1 a0) (fun _=>rfl) (fun _=>rfl) ?_
   intro x103 h103
   refine jG 10 2 ⟨[V 1 (.fsl 2 (List.map c_S_api_Span a1)),V 2 (.fsl 2 (List.map c_S_api_Span a2)),V 4 (.fptr [iv a0] 0),V 10 (.fn 10 []),V 11 (.fn 11 [.fptr [iv a0] 0]),(162,.lit true),V 168 (.fsl 2 (List.map c_S_api_Span x102)),V 169 (.fn 9 []),V 172 (.fsl 2 (List.map c_S_api_Span x103)),V 173 (.fn 11 [.fptr [iv a0] 0]),V 174 (.fsl 2 (List.map c_S_api_Span a2))],[],0⟩ ?_
   refine jr_callV (i:=12) rfl rfl rfl rfl (g:=11) (caps:=[.fptr [iv a0] 0]) (avs:=[.fsl 2 (List.map c_S_api_Span a2)]) (vs:=[.fsl 2 (List.map c_S_api_Span a2),.fptr [iv a0] 0]) (by kernel_rfl) (by kernel_rfl) rfl (snapL_cons rfl (snapL_cons rfl (snapL_nil _))) (all2_cons (fle_refl _) (all2_cons (fle_refl _) all2_nil)) (law07_RanksAlgebra_1_s64b3_ok a2 a0) (fun _=>rfl) (fun _=>rfl) ?_
   intro x104 h104
   refine jr_callV (i:=13) rfl rfl rfl rfl (g:=9) (caps:=[]) (avs:=[.fsl 2 (List.map c_S_api_Span x103),.fsl 2 (List.map c_S_api_Span x104)]) (vs:=[.fsl 2 (List.map c_S_api_Span x103),.fsl 2 (List.map c_S_api_Span x104)]) (by kernel_rfl) (by kernel_rfl) rfl (snapL_cons rfl (snapL_cons rfl (snapL_nil _))) (all2_cons (fle_refl _) (all2_cons (fle_refl _) all2_nil)) (ranks_Union_ok x103 x104) (fun _=>rfl) (fun _=>rfl) ?_
   intro x105 h105
   refine jK 14 (ref07_Same_ok x102 x105) ?_
   intro x106 h106
   refine jG 15 1 ⟨[V 1 (.fsl 2 (List.map c_S_api_Span a1)),V 2 (.fsl 2 (List.map c_S_api_Span a2)),V 4 (.fptr [iv a0] 0),V 10 (.fn 10 []),V 11 (.fn 11 [.fptr [iv a0] 0]),V 178 (bv x106)],[],0⟩ ?_
   refine jr_nil rfl ?_
   exact jx_mid rfl (wkR [] (fix_nil _) allp_nil)
  refine jG 0 16 ⟨[V 1 (.fsl 2 (List.map c_S_api_Span a1)),V 2 (.fsl 2 (List.map c_S_api_Span a2)),V 4 (.fptr [iv a0] 0),V 10 (.fn 10 []),V 11 (.fn 11 [.fptr [iv a0] 0]),V 178 (bv false)],[],0⟩ ?_
  refine jr_nil rfl ?_
  exact jx_mid rfl (wkR [] (fix_nil _) allp_nil)
 intro x100
 refine jG 149 1 ⟨[V 1 (.fsl 2 (List.map c_S_api_Span a1)),V 2 (.fsl 2 (List.map c_S_api_Span a2)),V 4 (.fptr [iv a0] 0),V 10 (.fn 10 []),V 11 (.fn 11 [.fptr [iv a0] 0]),V 179 (bv x100)],[],0⟩ ?_
 refine jr_bind 150 11 (fun x111=>⟨[V 1 (.fsl 2 (List.map c_S_api_Span a1)),V 4 (.fptr [iv a0] 0),V 11 (.fn 11 [.fptr [iv a0] 0]),V 190 (bv x111)],[],0⟩) ?_ ?_
 ·refine jSp 179 ?_ ?_
  ·refine jG 0 2 ⟨[V 1 (.fsl 2 (List.map c_S_api_Span a1)),V 2 (.fsl 2 (List.map c_S_api_Span a2)),V 4 (.fptr [iv a0] 0),V 10 (.fn 10 []),V 11 (.fn 11 [.fptr [iv a0] 0]),(179,.lit true),V 180 (.fsl 2 (List.map c_S_api_Span a1)),V 181 (.fsl 2 (List.map c_S_api_Span a2))],[],0⟩ ?_
   refine jK 2 (ranks_Minus_ok a1 a2) ?_
   intro x112 h112
   refine jG 3 4 ⟨[V 1 (.fsl 2 (List.map c_S_api_Span a1)),V 4 (.fptr [iv a0] 0),V 11 (.fn 11 [.fptr [iv a0] 0]),(179,.lit true),V 182 (.fsl 2 (List.map c_S_api_Span x112)),V 183 (.fn 10 []),V 184 (.fsl 2 (List.map c_S_api_Span a1)),V 185 (.fn 11 [.fptr [iv a0] 0]),V 186 (.fsl 2 (List.map c_S_api_Span a2))],[],0⟩ ?_
   refine jr_callV (i:=7) rfl rfl rfl rfl (g:=11) (caps:=[.fptr [iv a0] 0]) (avs:=[.fsl 2 (List.map c_S_api_Span a2)]) (vs:=[.fsl 2 (List.map c_S_api_Span a2),.fptr [iv a0] 0]) (by kernel_rfl) (by kernel_rfl) rfl (snapL_cons rfl (snapL_cons rfl (snapL_nil _))) (all2_cons (fle_refl _) (all2_cons (fle_refl _) all2_nil)) (law07_RanksAlgebra_1_s64b3_ok a2 a0) (fun _=>rfl) (fun _=>rfl) ?_
   intro x113 h113
   refine jr_callV (i:=8) rfl rfl rfl rfl (g:=10) (caps:=[]) (avs:=[.fsl 2 (List.map c_S_api_Span a1),.fsl 2 (List.map c_S_api_Span x113)]) (vs:=[.fsl 2 (List.map c_S_api_Span a1),.fsl 2 (List.map c_S_api_Span x113)]) (by kernel_rfl) (by kernel_rfl) rfl (snapL_cons rfl (snapL_cons rfl (snapL_nil _))) (all2_cons (fle_refl _) (all2_cons (fle_refl _) all2_nil)) (ranks_Meet_ok a1 x113) (fun _=>rfl) (fun _=>rfl) ?_
   intro x114 h114
   refine jK 9 (ref07_Same_ok x112 x114) ?_
   intro x115 h115
   refine jG 10 1 ⟨[V 1 (.fsl 2 (List.map c_S_api_Span a1)),V 4 (.fptr [iv a0] 0),V 11 (.fn 11 [.fptr [iv a0] 0]),V 190 (bv x115)],[],0⟩ ?_
   refine jr_nil rfl ?_
   exact jx_mid rfl (wkR [] (fix_nil _) allp_nil)
  refine jG 0 11 ⟨[V 1 (.fsl 2 (List.map c_S_api_Span a1)),V 4 (.fptr [iv a0] 0),V 11 (.fn 11 [.fptr [iv a0] 0]),V 190 (bv false)],[],0⟩ ?_
  refine jr_nil rfl ?_
  exact jx_mid rfl (wkR [] (fix_nil _) allp_nil)
 intro x111
 refine jG 161 1 ⟨[V 1 (.fsl 2 (List.map c_S_api_Span a1)),V 4 (.fptr [iv a0] 0),V 11 (.fn 11 [.fptr [iv a0] 0]),V 191 (bv x111)],[],0⟩ ?_
 refine jr_bind 162 8 (fun x119=>⟨[V 4 (.fptr [iv a0] 0),V 199 (bv x119)],[],0⟩) ?_ ?_
 ·refine jSp 191 ?_ ?_
  ·refine jG 0 3 ⟨[V 1 (.fsl 2 (List.map c_S_api_Span a1)),V 4 (.fptr [iv a0] 0),(191,.lit true),V 192 (.fn 11 [.fptr [iv a0] 0]),V 193 (.fn 11 [.fptr [iv a0] 0]),V 194 (.fsl 2 (List.map c_S_api_Span a1))],[],0⟩ ?_
   refine jr_callV (i:=3) rfl rfl rfl rfl (g:=11) (caps:=[.fptr [iv a0] 0]) (avs:=[.fsl 2 (List.map c_S_api_Span a1)]) (vs:=[.fsl 2 (List.map c_S_api_Span a1),.fptr [iv a0] 0]) (by kernel_rfl) (by kernel_rfl) rfl (snapL_cons rfl (snapL_cons rfl (snapL_nil _))) (all2_cons (fle_refl _) (all2_cons (fle_refl _) all2_nil)) (law07_RanksAlgebra_1_s64b3_ok a1 a0) (fun _=>rfl) (fun _=>rfl) ?_
   intro x120 h120
   refine jr_callV (i:=4) rfl rfl rfl rfl (g:=11) (caps:=[.fptr [iv a0] 0]) (avs:=[.fsl 2 (List.map c_S_api_Span x120)]) (vs:=[.fsl 2 (List.map c_S_api_Span x120),.fptr [iv a0] 0]) (by kernel_rfl) (by kernel_rfl) rfl (snapL_cons rfl (snapL_cons rfl (snapL_nil _))) (all2_cons (fle_refl _) (all2_cons (fle_refl _) all2_nil)) (law07_RanksAlgebra_1_s64b3_ok x120 a0) (fun _=>rfl) (fun _=>rfl) ?_
   intro x121 h121
   refine jG 5 1 ⟨[V 4 (.fptr [iv a0] 0),(191,.lit true),V 196 (.fsl 2 (List.map c_S_api_Span x121)),V 197 (.fsl 2 (List.map c_S_api_Span a1))],[],0⟩ ?_
   refine jK 6 (ref07_Same_ok x121 a1) ?_
   intro x122 h122
   refine jG 7 1 ⟨[V 4 (.fptr [iv a0] 0),V 199 (bv x122)],[],0⟩ ?_
   refine jr_nil rfl ?_
   exact jx_mid rfl (wkR [] (fix_nil _) allp_nil)
  refine jG 0 8 ⟨[V 4 (.fptr [iv a0] 0),V 199 (bv false)],[],0⟩ ?_
  refine jr_nil rfl ?_
  exact jx_mid rfl (wkR [] (fix_nil _) allp_nil)
 intro x119
 refine jG 170 1 ⟨[V 4 (.fptr [iv a0] 0),V 200 (bv x119)],[],0⟩ ?_
 refine jr_bind 171 2 (fun x124=>⟨[V 4 (.fptr [iv a0] 0),V 202 (bv x124)],[],0⟩) ?_ ?_
 ·refine jSp 200 ?_ ?_
  ·refine jK 0 (law07_awake_ok) ?_
   intro x125 h125
   refine jG 1 1 ⟨[V 4 (.fptr [iv a0] 0),V 202 (bv x125)],[],0⟩ ?_
   refine jr_nil rfl ?_
   exact jx_mid rfl (wkR [] (fix_nil _) allp_nil)
  refine jG 0 2 ⟨[V 4 (.fptr [iv a0] 0),V 202 (bv false)],[],0⟩ ?_
  refine jr_nil rfl ?_
  exact jx_mid rfl (wkR [] (fix_nil _) allp_nil)
 intro x124
 refine jG 173 1 ⟨[V 4 (.fptr [iv a0] 0),V 8 (bv x124)],[],0⟩ ?_
 refine jr_nil rfl ?_
 refine jx_fullF ?_
 refine jx_seqN ?_
 refine jc_ret ?_
 exact jx_retF (.inr rfl) (v:=bv x124) (by kernel_rfl) rfl (fle_refl _))
end Go.Vm

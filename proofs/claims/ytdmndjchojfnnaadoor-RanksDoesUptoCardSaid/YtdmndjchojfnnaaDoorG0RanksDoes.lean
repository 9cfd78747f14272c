/- The law RanksDoes, a part of its proof: what the functions that it reaches compute. -/
import Derived.Test.YtdmndjchojfnnaaDoorDxfbc45b43
set_option linter.unusedVariables false
namespace Go.Vm
open Go
structure S_api_Span where
  Lo:Int
  Hi:Int
  deriving DecidableEq,Inhabited
abbrev c_S_api_Span (x:S_api_Span):List AV:=[iv x.Lo,iv x.Hi]
theorem ni_S_api_Span (x:S_api_Span):NoIds (c_S_api_Span x):=noids_cons (noid_s _) (noids_cons (noid_s _) (noids_nil))
theorem fz_S_api_Span (x:S_api_Span):Frz (c_S_api_Span x):=frz_s (frz_s (frz_nil))
abbrev c_L45 (x:List S_api_Span):List AV:=[.fsl 2 (List.map c_S_api_Span x)]
theorem ni_L45 (x:List S_api_Span):NoIds (c_L45 x):=noids_cons (noid_fsl _ _) noids_nil
set_option maxRecDepth 100000
set_option maxHeartbeats 0
set_option linter.unusedSimpArgs false
abbrev ranks_All_r1:List LO:=[lo 2 (.assign (.const (.slice none 0 0))) 22]
abbrev ranks_All_r2:List LO:=[lm 3 0 3,lo 4 (.binOp .lss 3 (.tmp 3) (.const (.int .i64 1)) 3) 4]
abbrev ranks_All_r3:List LO:=[lo 2 (.assign (.const (.slice none 0 0))) 22]
abbrev ranks_All_r4:List LO:=[lm 5 0 3,lo 6 (.call ⟨.builtin .min,#[.tmp 5,.const (.int .i64 65536)],#[3,3]⟩) 3,lo 7 (.build 45 #[(1,.tmp 6)]) 45,lo 8 (.buildSlice 22 1 #[(0,.tmp 7)]) 22,lo 2 (.assign (.tmp 8)) 22]
abbrev ranks_All_c:LC:=.seq (.reg false ranks_All_r1) (.seq (.seq (.reg false ranks_All_r2) (.cond (.tmp 4) (.seq (.reg false ranks_All_r3) .ret) .skip)) (.seq (.reg false ranks_All_r4) .ret))
theorem ranks_All_k:FnOk E 14 9 [.tmp 2] ranks_All_c:=⟨⟨Go.Proofs.Tryd.f14,by kernel_rfl,by kernel_rfl,by kernel_rfl,by kernel_rfl,by kernel_rfl⟩,rfl,rfl⟩
noncomputable def ranks_All (a0:Int):Option ((List S_api_Span)):=(if (decide (a0 < 1))=true then some [] else some [(S_api_Span.mk 0 (if 65536 < a0 then 65536 else a0))])
theorem ranks_All_ok (a0:Int):Ct E 14 [iv a0] (ranks_All a0) (fun r:(List S_api_Span)=>.fsl 2 (List.map c_S_api_Span r)):=ct_intro (N:=9) (L:=ranks_All_c) ranks_All_k rfl (Nat.le_of_ble_eq_true rfl) (by kernel_rfl) (by
 unfold ranks_All
 refine jS ⟨[V 0 (iv a0)],[],0⟩ ?_
 refine jc_seq ?_
 refine jS ⟨[V 0 (iv a0),V 4 (bv (decide (a0 < 1)))],[],0⟩ ?_
 refine jIf ?_ ?_
 ·refine jS ⟨[V 2 (nilS)],[],0⟩ ?_
  refine jc_ret ?_
  refine jx_seqR ?_
  exact jx_retF (.inr rfl) (v:=nilS) (by kernel_rfl) rfl (fle_nil _)
 refine jc_skip ?_
 refine jx_seqN ?_
 refine jS ⟨[V 2 (.osl 0 0 (List.length [(S_api_Span.mk 0 (if 65536 < a0 then 65536 else a0))]) 2)],[(0,.rows 2 (List.map c_S_api_Span [(S_api_Span.mk 0 (if 65536 < a0 then 65536 else a0))]))],1⟩ ?_
 refine jc_ret ?_
 exact jx_retF (.inr rfl) (v:=.osl 0 0 (List.length [(S_api_Span.mk 0 (if 65536 < a0 then 65536 else a0))]) 2) (by kernel_rfl) (snapc_own fz_S_api_Span (by kernel_rfl)) (fle_refl _))
noncomputable def ranks_Fit_l1 (a0:Int) (a1:(List S_api_Span)):(Int × Int)→Option (Step (Int × Int) ((Unit) ⊕ (Unit))):=fun (x2,x3)=>(if (decide (x3 < (List.length a1:Int)))=true then Option.bind (ixl a1 x3) (fun x7=>(if ((((decide (x7.Lo≤x2)) || (decide (x7.Lo < 0))) || (decide (x7.Hi≤x7.Lo))) || (decide (x7.Hi > a0)))=true then some (Step.done (Sum.inl ())) else some (Step.next (x7.Hi,(w64 (x3 + 1)))))) else some (Step.done (Sum.inr ())))
abbrev ranks_add_maa59_r1:List LO:=[lo 3 (.box 45 (.tmp 1)) 0,lo 4 (.assign (.const (.slice none 0 0))) 22]
abbrev ranks_add_maa59_r2:List LO:=[lm 6 0 22,lo 7 (.call ⟨.builtin .len,#[.tmp 6],#[22]⟩) 3,lo 8 (.binOp .sub 3 (.tmp 7) (.const (.int .i64 1)) 3) 3,lo 5 (.assign (.tmp 8)) 3]
abbrev ranks_add_maa59_r3:List LO:=[lm 9 5 3,lo 10 (.binOp .geq 3 (.tmp 9) (.const (.int .i64 0)) 3) 4,lm 11 10 4,lmg 12 0 22 11 true,lmg 13 5 3 11 true,lg 14 (.indexAddr 22 (.tmp 12) (.tmp 13)) 0 11 true,lg 15 (.fieldAddr 45 (.tmp 14) 1) 0 11 true,lg 16 (.load 3 (.tmp 15)) 3 11 true,lg 17 (.fieldAddr 45 (.tmp 3) 0) 0 11 true,lg 18 (.load 3 (.tmp 17)) 3 11 true,lg 19 (.binOp .eql 3 (.tmp 16) (.tmp 18) 3) 4 11 true,lo 20 (.pick (.tmp 11) (.tmp 19) (.const (.bool false))) 4]
abbrev ranks_add_maa59_r4:List LO:=[lm 21 0 22,lm 22 5 3,lo 23 (.fieldAddr 45 (.tmp 3) 1) 0,lo 24 (.load 3 (.tmp 23)) 3,lo 25 (.indexAddr 22 (.tmp 21) (.tmp 22)) 0,lo 26 (.fieldAddr 45 (.tmp 25) 1) 0,ln (.store 3 (.tmp 26) (.tmp 24)) 0]
abbrev ranks_add_maa59_r5:List LO:=[lm 27 0 22,lo 4 (.assign (.tmp 27)) 22]
abbrev ranks_add_maa59_r6:List LO:=[lm 28 0 22,lo 29 (.load 45 (.tmp 3)) 45,lo 30 (.buildSlice 22 1 #[(0,.tmp 29)]) 22,lo 31 (.call ⟨.builtin .append,#[.tmp 28,.tmp 30],#[22,22]⟩) 22,lo 4 (.assign (.tmp 31)) 22]
abbrev ranks_add_maa59_c:LC:=.seq (.reg false ranks_add_maa59_r1) (.seq (.seq (.reg false ranks_add_maa59_r2) (.seq (.reg true ranks_add_maa59_r3) (.cond (.tmp 20) (.seq (.reg false ranks_add_maa59_r4) (.seq (.reg false ranks_add_maa59_r5) .ret)) .skip))) (.seq (.reg false ranks_add_maa59_r6) .ret))
theorem ranks_add_maa59_k:FnOk E 48 32 [.tmp 4] ranks_add_maa59_c:=⟨⟨Go.Proofs.Tryd.f48,by kernel_rfl,by kernel_rfl,by kernel_rfl,by kernel_rfl,by kernel_rfl⟩,rfl,rfl⟩
abbrev ranks_add_maa59_T (a0:List S_api_Span) (a1:Int) (a2:Int) (r:List S_api_Span):CS:=⟨[V 4 (.osl 1 0 (List.length r) 2)],[(1,.rows 2 (List.map c_S_api_Span r))],2⟩
noncomputable def ranks_add_maa59 (a0:List S_api_Span) (a1:Int) (a2:Int):Option (List S_api_Span):=Option.bind (if (decide ((w64 ((List.length a0:Int) - 1))≥0))=true then Option.bind (ixl a0 (w64 ((List.length a0:Int) - 1))) (fun x8=>some (x8.Hi == a1)) else some false:Option (Bool)) (fun x7=>(if x7=true then Option.bind (ixl a0 (w64 ((List.length a0:Int) - 1))) (fun x9=>some (List.set a0 (Int.toNat (w64 ((List.length a0:Int) - 1))) (S_api_Span.mk x9.Lo a2))) else Option.bind (app 16 a0 [(S_api_Span.mk a1 a2)]) (fun x10=>some x10)))
theorem ranks_add_maa59_ok (a0:List S_api_Span) (a1:Int) (a2:Int):CtM E 48 [.osl 0 0 (List.length a0) 2,.agg [iv a1,iv a2]] [(0,.rows 2 (List.map c_S_api_Span a0))] 1 (ranks_add_maa59 a0 a1 a2) (fun r:List S_api_Span=>.osl 1 0 (List.length r) 2) (fun r:List S_api_Span=>[(1,.rows 2 (List.map c_S_api_Span r))]) 2:=ctm_intro (N:=32) (L:=ranks_add_maa59_c) ranks_add_maa59_k rfl (Nat.le_of_ble_eq_true rfl) (fun F hF=>by
 unfold ranks_add_maa59
 refine jS ⟨[V 0 (.osl 0 0 (List.length a0) 2),V 3 (pt 1 2)],[(0,.rows 2 (List.map c_S_api_Span a0)),W 1 2 [iv a1,iv a2]],2⟩ ?_
 refine jc_seq ?_
 refine jS ⟨[V 0 (.osl 0 0 (List.length a0) 2),V 3 (pt 1 2),V 5 (iv (w64 ((List.length a0:Int) - 1)))],[(0,.rows 2 (List.map c_S_api_Span a0)),W 1 2 [iv a1,iv a2]],2⟩ ?_
 refine jR ?_
 refine jG 0 3 ⟨[V 0 (.osl 0 0 (List.length a0) 2),V 3 (pt 1 2),V 5 (iv (w64 ((List.length a0:Int) - 1))),V 11 (bv (decide ((w64 ((List.length a0:Int) - 1))≥0)))],[(0,.rows 2 (List.map c_S_api_Span a0)),W 1 2 [iv a1,iv a2]],2⟩ ?_
 refine jr_bind 3 9 (fun x7=>⟨[V 0 (.osl 0 0 (List.length a0) 2),V 3 (pt 1 2),V 5 (iv (w64 ((List.length a0:Int) - 1))),V 20 (bv x7)],[(0,.rows 2 (List.map c_S_api_Span a0)),W 1 2 [iv a1,iv a2]],2⟩) ?_ ?_
 ·refine jSp 11 ?_ ?_
  ·refine jG 0 2 ⟨[V 0 (.osl 0 0 (List.length a0) 2),V 3 (pt 1 2),V 5 (iv (w64 ((List.length a0:Int) - 1))),(11,.lit true),V 12 (.osl 0 0 (List.length a0) 2),V 13 (iv (w64 ((List.length a0:Int) - 1)))],[(0,.rows 2 (List.map c_S_api_Span a0)),W 1 2 [iv a1,iv a2]],2⟩ ?_
   refine jr_part (i:=2) (mo:=ixl a0 (w64 ((List.length a0:Int) - 1))) rfl rfl rfl rfl (fun _ hc=>aop_ixo0 (sz:=2) (e:=45) (kk:=.i64) (id:=0) (by kernel_rfl) (by kernel_rfl) (by kernel_rfl) (by kernel_rfl) hc) (fun _=>rfl) ?_
   intro x8 h8
   refine jG 3 1 ⟨[V 0 (.osl 0 0 (List.length a0) 2),V 3 (pt 1 2),V 5 (iv (w64 ((List.length a0:Int) - 1))),(11,.lit true),V 15 (.ptr 0 (Int.toNat (w64 ((List.length a0:Int) - 1))) 2 1)],[(0,.rows 2 (List.map c_S_api_Span a0)),W 1 2 [iv a1,iv a2]],2⟩ ?_
   refine jr_one (i:=4) (v:=iv x8.Hi) rfl rfl rfl rfl (aop_ldo (l:=a0) (c:=c_S_api_Span) (id:=0) (k:=(Int.toNat (w64 ((List.length a0:Int) - 1)))) (sz:=2) (off:=1) (a:=x8) (by kernel_rfl) (by kernel_rfl) (ixl_lt h8).2.2 (by kernel_rfl)) rfl ?_
   refine jG 5 4 ⟨[V 0 (.osl 0 0 (List.length a0) 2),V 3 (pt 1 2),V 5 (iv (w64 ((List.length a0:Int) - 1))),V 20 (bv (x8.Hi == a1))],[(0,.rows 2 (List.map c_S_api_Span a0)),W 1 2 [iv a1,iv a2]],2⟩ ?_
   refine jr_nil rfl ?_
   exact jx_mid rfl (wkR [(0,some 0),(1,some 1)] (fix_of hF (k:=1) rfl) (pc (hL 0 (noid_map ni_S_api_Span _)) (pc (hC 1) allp_nil)))
  refine jG 0 9 ⟨[V 0 (.osl 0 0 (List.length a0) 2),V 3 (pt 1 2),V 5 (iv (w64 ((List.length a0:Int) - 1))),V 20 (bv false)],[(0,.rows 2 (List.map c_S_api_Span a0)),W 1 2 [iv a1,iv a2]],2⟩ ?_
  refine jr_nil rfl ?_
  exact jx_mid rfl (wkR [(0,some 0),(1,some 1)] (fix_of hF (k:=1) rfl) (pc (hL 0 (noid_map ni_S_api_Span _)) (pc (hC 1) allp_nil)))
 intro x7
 refine jN ?_
 refine jIf ?_ ?_
 ·refine jR ?_
  refine jG 0 4 ⟨[V 0 (.osl 0 0 (List.length a0) 2),V 21 (.osl 0 0 (List.length a0) 2),V 22 (iv (w64 ((List.length a0:Int) - 1))),V 24 (iv a2)],[(0,.rows 2 (List.map c_S_api_Span a0))],2⟩ ?_
  refine jr_part (i:=4) (mo:=ixl a0 (w64 ((List.length a0:Int) - 1))) rfl rfl rfl rfl (fun _ hc=>aop_ixo0 (sz:=2) (e:=45) (kk:=.i64) (id:=0) (by kernel_rfl) (by kernel_rfl) (by kernel_rfl) (by kernel_rfl) hc) (fun _=>rfl) ?_
  intro x9 h9
  refine jG 5 1 ⟨[V 0 (.osl 0 0 (List.length a0) 2),V 24 (iv a2),V 26 (.ptr 0 (Int.toNat (w64 ((List.length a0:Int) - 1))) 2 1)],[(0,.rows 2 (List.map c_S_api_Span a0))],2⟩ ?_
  refine jr_sto (i:=6) [0] [0] (st1:=⟨[V 0 (.osl 0 0 (List.length (List.set a0 (Int.toNat (w64 ((List.length a0:Int) - 1))) (S_api_Span.mk x9.Lo a2))) 2)],[(0,.rows 2 (List.map c_S_api_Span (List.set a0 (Int.toNat (w64 ((List.length a0:Int) - 1))) (S_api_Span.mk x9.Lo a2))))],2⟩) rfl rfl rfl rfl (aop_sto (l:=a0) (c:=c_S_api_Span) (id:=0) (k:=(Int.toNat (w64 ((List.length a0:Int) - 1)))) (sz:=2) (off:=1) (a:=x9) (a':=(S_api_Span.mk x9.Lo a2)) (w:=iv a2) (cs:=[iv a2]) (by kernel_rfl) (by kernel_rfl) (by kernel_rfl) (by kernel_rfl) (by kernel_rfl) (ixl_lt h9).2.2 (Nat.le_of_ble_eq_true rfl) (by kernel_rfl)) (by simp only[List.length_set]; kernel_rfl) ?_
  refine jN ?_
  refine jS ⟨[V 4 (.osl 0 0 (List.length (List.set a0 (Int.toNat (w64 ((List.length a0:Int) - 1))) (S_api_Span.mk x9.Lo a2))) 2)],[(0,.rows 2 (List.map c_S_api_Span (List.set a0 (Int.toNat (w64 ((List.length a0:Int) - 1))) (S_api_Span.mk x9.Lo a2))))],2⟩ ?_
  refine jc_ret ?_
  refine jx_seqR ?_
  exact jx_retM (ranks_add_maa59_T a0 a1 a2 (List.set a0 (Int.toNat (w64 ((List.length a0:Int) - 1))) (S_api_Span.mk x9.Lo a2))) (.inr rfl) (wkR [(0,some 0),(1,some 0)] (fix_of hF (k:=1) rfl) (pc (hL 0 (noid_map ni_S_api_Span _)) allp_nil))
 refine jc_skip ?_
 refine jx_seqN ?_
 refine jR ?_
 refine jG 0 3 ⟨[V 28 (.osl 0 0 (List.length a0) 2),V 30 (.osl 2 0 (List.length [(S_api_Span.mk a1 a2)]) 2)],[(0,.rows 2 (List.map c_S_api_Span a0)),(2,.rows 2 (List.map c_S_api_Span [(S_api_Span.mk a1 a2)]))],3⟩ ?_
 refine jr_part (i:=3) (mo:=app 16 a0 [(S_api_Span.mk a1 a2)]) rfl rfl rfl rfl (fun _ hc=>aop_app (u:=.osl 0 0 (List.length a0) 2) (w:=.osl 2 0 (List.length [(S_api_Span.mk a1 a2)]) 2) (e:=45) (td:=.slice 45) (by kernel_rfl) (by kernel_rfl) (by kernel_rfl) (by kernel_rfl) (.inl ⟨_,rfl⟩) (appendOf_own (c:=c_S_api_Span) (sz:=2) (b:=16) (id:=0) (by kernel_rfl) (by kernel_rfl) (rows_own (by kernel_rfl)) (List.cons_ne_nil _ _) hc)) (fun _=>rfl) ?_
 intro x10 h10
 refine jG 4 1 ⟨[V 4 (.osl 3 0 (List.length x10) 2)],[(3,.rows 2 (List.map c_S_api_Span x10))],4⟩ ?_
 refine jN ?_
 refine jc_ret ?_
 exact jx_retM (ranks_add_maa59_T a0 a1 a2 x10) (.inr rfl) (wkR [(0,some 0),(1,some 3)] (fix_of hF (k:=1) rfl) (pc (hL 3 (noid_map ni_S_api_Span _)) allp_nil)))
abbrev ref07_bounded_r1:List LO:=[lo 2 (.assign (.const (.int .i64 0))) 3]
abbrev ref07_bounded_r2:List LO:=[lm 3 0 3,lo 4 (.call ⟨.builtin .max,#[.tmp 3,.const (.int .i64 0)],#[3,3]⟩) 3,lo 5 (.call ⟨.builtin .min,#[.tmp 4,.const (.int .i64 65536)],#[3,3]⟩) 3,lo 2 (.assign (.tmp 5)) 3]
abbrev ref07_bounded_c:LC:=.seq (.reg false ref07_bounded_r1) (.seq (.reg false ref07_bounded_r2) .ret)
theorem ref07_bounded_k:FnOk E 49 6 [.tmp 2] ref07_bounded_c:=⟨⟨Go.Proofs.Tryd.f49,by kernel_rfl,by kernel_rfl,by kernel_rfl,by kernel_rfl,by kernel_rfl⟩,rfl,rfl⟩
noncomputable def ref07_bounded (a0:Int):Option (Int):=some (if 65536 < (if 0 > a0 then 0 else a0) then 65536 else (if 0 > a0 then 0 else a0))
theorem ref07_bounded_ok (a0:Int):Ct E 49 [iv a0] (ref07_bounded a0) (fun r:Int=>iv r):=ct_intro (N:=6) (L:=ref07_bounded_c) ref07_bounded_k rfl (Nat.le_of_ble_eq_true rfl) (by kernel_rfl) (by
 unfold ref07_bounded
 refine jS ⟨[V 0 (iv a0)],[],0⟩ ?_
 refine jS ⟨[V 2 (iv (if 65536 < (if 0 > a0 then 0 else a0) then 65536 else (if 0 > a0 then 0 else a0)))],[],0⟩ ?_
 refine jc_ret ?_
 exact jx_retF (.inr rfl) (v:=iv (if 65536 < (if 0 > a0 then 0 else a0) then 65536 else (if 0 > a0 then 0 else a0))) (by kernel_rfl) rfl (fle_refl _))
abbrev ref07_All_r1:List LO:=[lo 2 (.assign (.const (.slice none 0 0))) 22]
abbrev ref07_All_r2:List LO:=[lm 3 0 3,lo 4 (.binOp .lss 3 (.tmp 3) (.const (.int .i64 1)) 3) 4]
abbrev ref07_All_r3:List LO:=[lo 2 (.assign (.const (.slice none 0 0))) 22]
abbrev ref07_All_r4:List LO:=[lm 5 0 3,lo 6 (.call ⟨.value (.func 49),#[.tmp 5],#[3]⟩) 3,lo 7 (.build 45 #[(0,.const (.int .i64 0)),(1,.tmp 6)]) 45,lo 8 (.buildSlice 22 1 #[(0,.tmp 7)]) 22,lo 2 (.assign (.tmp 8)) 22]
abbrev ref07_All_c:LC:=.seq (.reg false ref07_All_r1) (.seq (.seq (.reg false ref07_All_r2) (.cond (.tmp 4) (.seq (.reg false ref07_All_r3) .ret) .skip)) (.seq (.reg false ref07_All_r4) .ret))
theorem ref07_All_k:FnOk E 21 9 [.tmp 2] ref07_All_c:=⟨⟨Go.Proofs.Tryd.f21,by kernel_rfl,by kernel_rfl,by kernel_rfl,by kernel_rfl,by kernel_rfl⟩,rfl,rfl⟩
noncomputable def ref07_All (a0:Int):Option ((List S_api_Span)):=(if (decide (a0 < 1))=true then some [] else Option.bind (ref07_bounded a0) (fun x1=>some [(S_api_Span.mk 0 x1)]))
theorem ref07_All_ok (a0:Int):Ct E 21 [iv a0] (ref07_All a0) (fun r:(List S_api_Span)=>.fsl 2 (List.map c_S_api_Span r)):=ct_intro (N:=9) (L:=ref07_All_c) ref07_All_k rfl (Nat.le_of_ble_eq_true rfl) (by kernel_rfl) (by
 unfold ref07_All
 refine jS ⟨[V 0 (iv a0)],[],0⟩ ?_
 refine jc_seq ?_
 refine jS ⟨[V 0 (iv a0),V 4 (bv (decide (a0 < 1)))],[],0⟩ ?_
 refine jIf ?_ ?_
 ·refine jS ⟨[V 2 (nilS)],[],0⟩ ?_
  refine jc_ret ?_
  refine jx_seqR ?_
  exact jx_retF (.inr rfl) (v:=nilS) (by kernel_rfl) rfl (fle_nil _)
 refine jc_skip ?_
 refine jx_seqN ?_
 refine jR ?_
 refine jG 0 1 ⟨[V 5 (iv a0)],[],0⟩ ?_
 refine jK 1 (ref07_bounded_ok a0) ?_
 intro x1 h1
 refine jG 2 3 ⟨[V 2 (.osl 0 0 (List.length [(S_api_Span.mk 0 x1)]) 2)],[(0,.rows 2 (List.map c_S_api_Span [(S_api_Span.mk 0 x1)]))],1⟩ ?_
 refine jN ?_
 refine jc_ret ?_
 exact jx_retF (.inr rfl) (v:=.osl 0 0 (List.length [(S_api_Span.mk 0 x1)]) 2) (by kernel_rfl) (snapc_own fz_S_api_Span (by kernel_rfl)) (fle_refl _))
abbrev ref07_Fit_r1:List LO:=[lo 4 (.assign (.const (.bool false))) 4]
abbrev ref07_Fit_r2:List LO:=[lm 7 0 3,lo 8 (.binOp .lss 3 (.tmp 7) (.const (.int .i64 0)) 3) 4,lm 9 8 4,lmg 10 0 3 9 false,lg 11 (.binOp .gtr 3 (.tmp 10) (.const (.int .i64 65536)) 3) 4 9 false,lo 12 (.pick (.tmp 9) (.const (.bool true)) (.tmp 11)) 4]
abbrev ref07_Fit_r3:List LO:=[lo 4 (.assign (.const (.bool false))) 4]
abbrev ref07_Fit_r4:List LO:=[lo 5 (.assign (.const (.int .i64 (-1)))) 3]
abbrev ref07_Fit_r5:List LO:=[lo 6 (.assign (.const (.int .i64 0))) 3]
abbrev ref07_Fit_r6:List LO:=[lm 13 6 3,lm 14 1 22,lo 15 (.call ⟨.builtin .len,#[.tmp 14],#[22]⟩) 3,lo 16 (.binOp .lss 3 (.tmp 13) (.tmp 15) 3) 4]
abbrev ref07_Fit_r7:List LO:=[lm 19 1 22,lm 20 6 3,lo 21 (.indexAddr 22 (.tmp 19) (.tmp 20)) 0,lo 22 (.fieldAddr 45 (.tmp 21) 0) 0,lo 23 (.load 3 (.tmp 22)) 3,lo 24 (.binOp .lss 3 (.tmp 23) (.const (.int .i64 0)) 3) 4,lm 25 24 4,lmg 26 1 22 25 false,lmg 27 6 3 25 false,lg 28 (.indexAddr 22 (.tmp 26) (.tmp 27)) 0 25 false,lg 29 (.fieldAddr 45 (.tmp 28) 0) 0 25 false,lg 30 (.load 3 (.tmp 29)) 3 25 false,lmg 31 5 3 25 false,lg 32 (.binOp .leq 3 (.tmp 30) (.tmp 31) 3) 4 25 false,lo 33 (.pick (.tmp 25) (.const (.bool true)) (.tmp 32)) 4,lm 34 33 4,lmg 35 1 22 34 false,lmg 36 6 3 34 false,lg 37 (.indexAddr 22 (.tmp 35) (.tmp 36)) 0 34 false,lg 38 (.fieldAddr 45 (.tmp 37) 0) 0 34 false,lg 39 (.load 3 (.tmp 38)) 3 34 false,lmg 40 1 22 34 false,lmg 41 6 3 34 false,lg 42 (.indexAddr 22 (.tmp 40) (.tmp 41)) 0 34 false,lg 43 (.fieldAddr 45 (.tmp 42) 1) 0 34 false,lg 44 (.load 3 (.tmp 43)) 3 34 false,lg 45 (.binOp .geq 3 (.tmp 39) (.tmp 44) 3) 4 34 false,lo 46 (.pick (.tmp 34) (.const (.bool true)) (.tmp 45)) 4,lm 47 46 4,lmg 48 1 22 47 false,lmg 49 6 3 47 false,lg 50 (.indexAddr 22 (.tmp 48) (.tmp 49)) 0 47 false,lg 51 (.fieldAddr 45 (.tmp 50) 1) 0 47 false,lg 52 (.load 3 (.tmp 51)) 3 47 false,lmg 53 0 3 47 false,lg 54 (.binOp .gtr 3 (.tmp 52) (.tmp 53) 3) 4 47 false,lo 55 (.pick (.tmp 47) (.const (.bool true)) (.tmp 54)) 4]
abbrev ref07_Fit_r8:List LO:=[lo 4 (.assign (.const (.bool false))) 4]
abbrev ref07_Fit_r9:List LO:=[lm 56 1 22,lm 57 6 3,lo 58 (.indexAddr 22 (.tmp 56) (.tmp 57)) 0,lo 59 (.fieldAddr 45 (.tmp 58) 1) 0,lo 60 (.load 3 (.tmp 59)) 3,lo 5 (.assign (.tmp 60)) 3]
abbrev ref07_Fit_r10:List LO:=[lm 17 6 3,lo 18 (.binOp .add 3 (.tmp 17) (.const (.int .i64 1)) 3) 3,lo 6 (.assign (.tmp 18)) 3]
abbrev ref07_Fit_r11:List LO:=[lo 4 (.assign (.const (.bool true))) 4]
abbrev ref07_Fit_c:LC:=.seq (.reg false ref07_Fit_r1) (.seq (.seq (.reg false ref07_Fit_r2) (.cond (.tmp 12) (.seq (.reg false ref07_Fit_r3) .ret) .skip)) (.seq (.reg false ref07_Fit_r4) (.seq (.seq (.reg false ref07_Fit_r5) (.block 0 (.loop (.seq (.seq (.reg false ref07_Fit_r6) (.cond (.tmp 16) .skip (.exit 0))) (.seq (.block 1 (.seq (.seq (.reg true ref07_Fit_r7) (.cond (.tmp 55) (.seq (.reg false ref07_Fit_r8) .ret) .skip)) (.reg false ref07_Fit_r9))) (.reg false ref07_Fit_r10)))))) (.seq (.reg false ref07_Fit_r11) .ret))))
theorem ref07_Fit_k:FnOk E 7 61 [.tmp 4] ref07_Fit_c:=⟨⟨Go.Proofs.Tryd.f7,by kernel_rfl,by kernel_rfl,by kernel_rfl,by kernel_rfl,by kernel_rfl⟩,rfl,rfl⟩
noncomputable def ref07_Fit_l1 (a0:Int) (a1:(List S_api_Span)):(Int × Int)→Option (Step (Int × Int) ((Unit) ⊕ (Unit))):=fun (x10,x11)=>(if (decide (x11 < (List.length a1:Int)))=true then Option.bind (ixl a1 x11) (fun x23=>Option.bind (if (decide (x23.Lo < 0))=true then some true else Option.bind (ixl a1 x11) (fun x26=>some (decide (x26.Lo≤x10))):Option (Bool)) (fun x25=>Option.bind (if x25=true then some true else Option.bind (ixl a1 x11) (fun x30=>Option.bind (ixl a1 x11) (fun x31=>some (decide (x30.Lo≥x31.Hi)))):Option (Bool)) (fun x29=>Option.bind (if x29=true then some true else Option.bind (ixl a1 x11) (fun x34=>some (decide (x34.Hi > a0))):Option (Bool)) (fun x33=>(if x33=true then some (Step.done (Sum.inl ())) else Option.bind (ixl a1 x11) (fun x35=>some (Step.next (x35.Hi,(w64 (x11 + 1)))))))))) else some (Step.done (Sum.inr ())))
noncomputable def ref07_Fit (a0:Int) (a1:(List S_api_Span)):Option (Bool):=(if ((decide (a0 < 0)) || (decide (a0 > 65536)))=true then some false else Option.bind (loopC (ref07_Fit_l1 a0 a1) ((-1),0)) (fun y=>match y with | Sum.inl _=>some false | Sum.inr _=>some true))
theorem ref07_Fit_ok (a0:Int) (a1:(List S_api_Span)):Ct E 7 [iv a0,.fsl 2 (List.map c_S_api_Span a1)] (ref07_Fit a0 a1) (fun r:Bool=>bv r):=ct_intro (N:=61) (L:=ref07_Fit_c) ref07_Fit_k rfl (Nat.le_of_ble_eq_true rfl) (by kernel_rfl) (by
 unfold ref07_Fit
 refine jS ⟨[V 0 (iv a0),V 1 (.fsl 2 (List.map c_S_api_Span a1))],[],0⟩ ?_
 refine jc_seq ?_
 refine jS ⟨[V 0 (iv a0),V 1 (.fsl 2 (List.map c_S_api_Span a1)),V 12 (bv ((decide (a0 < 0)) || (decide (a0 > 65536))))],[],0⟩ ?_
 refine jIf ?_ ?_
 ·refine jS ⟨[V 4 (bv false)],[],0⟩ ?_
  refine jc_ret ?_
  refine jx_seqR ?_
  exact jx_retF (.inr rfl) (v:=bv false) (by kernel_rfl) rfl (fle_refl _)
 refine jc_skip ?_
 refine jx_seqN ?_
 refine jS ⟨[V 0 (iv a0),V 1 (.fsl 2 (List.map c_S_api_Span a1)),V 5 (iv (-1))],[],0⟩ ?_
 refine jc_seq ?_
 refine jS ⟨[V 0 (iv a0),V 1 (.fsl 2 (List.map c_S_api_Span a1)),V 5 (iv (-1)),V 6 (iv 0)],[],0⟩ ?_
 refine jc_block ?_
 refine jc_bind (fun y=>match y with | Sum.inl _=>⟨[V 4 (bv false)],[],0⟩ | Sum.inr _=>⟨[],[],0⟩) (fun y=>match y with | Sum.inl _=>.ret | Sum.inr _=>(.exit 0)) (jc_loop (fun (x10,x11)=>⟨[V 0 (iv a0),V 1 (.fsl 2 (List.map c_S_api_Span a1)),V 5 (iv x10),V 6 (iv x11)],[],0⟩) (wkR [] (fix_nil _) allp_nil) ?_) ?_
 ·rintro⟨x10,x11⟩
  unfold ref07_Fit_l1
  refine jc_seq ?_
  refine jR ?_
  refine jG 0 4 ⟨[V 0 (iv a0),V 1 (.fsl 2 (List.map c_S_api_Span a1)),V 5 (iv x10),V 6 (iv x11),V 16 (bv (decide (x11 < (List.length (List.map c_S_api_Span a1):Int))))],[],0⟩ ?_
  simp only[List.length_map]
  refine jN ?_
  refine jIf ?_ ?_
  ·refine jc_skip ?_
   refine jx_seqN ?_
   refine jc_seq ?_
   refine jc_block ?_
   refine jc_seq ?_
   refine jR ?_
   refine jG 0 2 ⟨[V 0 (iv a0),V 1 (.fsl 2 (List.map c_S_api_Span a1)),V 5 (iv x10),V 6 (iv x11),V 19 (.fsl 2 (List.map c_S_api_Span a1)),V 20 (iv x11)],[],0⟩ ?_
   refine jr_part (i:=2) (mo:=ixl a1 x11) rfl rfl rfl rfl (fun _ hc=>aop_ixf (c:=c_S_api_Span) (sz:=2) (e:=45) (kk:=.i64) (by kernel_rfl) (by kernel_rfl) (by kernel_rfl) (by kernel_rfl) hc) (fun _=>rfl) ?_
   intro x23 h23
   refine jG 3 4 ⟨[V 0 (iv a0),V 1 (.fsl 2 (List.map c_S_api_Span a1)),V 5 (iv x10),V 6 (iv x11),V 25 (bv (decide (x23.Lo < 0)))],[],0⟩ ?_
   refine jr_bind 7 8 (fun x25=>⟨[V 0 (iv a0),V 1 (.fsl 2 (List.map c_S_api_Span a1)),V 6 (iv x11),V 33 (bv x25)],[],0⟩) ?_ ?_
   ·refine jSp 25 ?_ ?_
    ·refine jG 0 8 ⟨[V 0 (iv a0),V 1 (.fsl 2 (List.map c_S_api_Span a1)),V 6 (iv x11),V 33 (bv true)],[],0⟩ ?_
     refine jr_nil rfl ?_
     exact jx_mid rfl (wkR [] (fix_nil _) allp_nil)
    refine jG 0 2 ⟨[V 0 (iv a0),V 1 (.fsl 2 (List.map c_S_api_Span a1)),V 5 (iv x10),V 6 (iv x11),(25,.lit false),V 26 (.fsl 2 (List.map c_S_api_Span a1)),V 27 (iv x11)],[],0⟩ ?_
    refine jr_part (i:=2) (mo:=ixl a1 x11) rfl rfl rfl rfl (fun _ hc=>aop_ixf (c:=c_S_api_Span) (sz:=2) (e:=45) (kk:=.i64) (by kernel_rfl) (by kernel_rfl) (by kernel_rfl) (by kernel_rfl) hc) (fun _=>rfl) ?_
    intro x26 h26
    refine jG 3 5 ⟨[V 0 (iv a0),V 1 (.fsl 2 (List.map c_S_api_Span a1)),V 6 (iv x11),V 33 (bv (decide (x26.Lo≤x10)))],[],0⟩ ?_
    refine jr_nil rfl ?_
    exact jx_mid rfl (wkR [] (fix_nil _) allp_nil)
   intro x25
   refine jG 15 1 ⟨[V 0 (iv a0),V 1 (.fsl 2 (List.map c_S_api_Span a1)),V 6 (iv x11),V 34 (bv x25)],[],0⟩ ?_
   refine jr_bind 16 12 (fun x29=>⟨[V 0 (iv a0),V 1 (.fsl 2 (List.map c_S_api_Span a1)),V 6 (iv x11),V 46 (bv x29)],[],0⟩) ?_ ?_
   ·refine jSp 34 ?_ ?_
    ·refine jG 0 12 ⟨[V 0 (iv a0),V 1 (.fsl 2 (List.map c_S_api_Span a1)),V 6 (iv x11),V 46 (bv true)],[],0⟩ ?_
     refine jr_nil rfl ?_
     exact jx_mid rfl (wkR [] (fix_nil _) allp_nil)
    refine jG 0 2 ⟨[V 0 (iv a0),V 1 (.fsl 2 (List.map c_S_api_Span a1)),V 6 (iv x11),(34,.lit false),V 35 (.fsl 2 (List.map c_S_api_Span a1)),V 36 (iv x11)],[],0⟩ ?_
    refine jr_part (i:=2) (mo:=ixl a1 x11) rfl rfl rfl rfl (fun _ hc=>aop_ixf (c:=c_S_api_Span) (sz:=2) (e:=45) (kk:=.i64) (by kernel_rfl) (by kernel_rfl) (by kernel_rfl) (by kernel_rfl) hc) (fun _=>rfl) ?_
    intro x30 h30
    refine jG 3 4 ⟨[V 0 (iv a0),V 1 (.fsl 2 (List.map c_S_api_Span a1)),V 6 (iv x11),(34,.lit false),V 39 (iv x30.Lo),V 40 (.fsl 2 (List.map c_S_api_Span a1)),V 41 (iv x11)],[],0⟩ ?_
    refine jr_part (i:=7) (mo:=ixl a1 x11) rfl rfl rfl rfl (fun _ hc=>aop_ixf (c:=c_S_api_Span) (sz:=2) (e:=45) (kk:=.i64) (by kernel_rfl) (by kernel_rfl) (by kernel_rfl) (by kernel_rfl) hc) (fun _=>rfl) ?_
    intro x31 h31
    refine jG 8 4 ⟨[V 0 (iv a0),V 1 (.fsl 2 (List.map c_S_api_Span a1)),V 6 (iv x11),V 46 (bv (decide (x30.Lo≥x31.Hi)))],[],0⟩ ?_
    refine jr_nil rfl ?_
    exact jx_mid rfl (wkR [] (fix_nil _) allp_nil)
   intro x29
   refine jG 28 1 ⟨[V 0 (iv a0),V 1 (.fsl 2 (List.map c_S_api_Span a1)),V 6 (iv x11),V 47 (bv x29)],[],0⟩ ?_
   refine jr_bind 29 8 (fun x33=>⟨[V 0 (iv a0),V 1 (.fsl 2 (List.map c_S_api_Span a1)),V 6 (iv x11),V 55 (bv x33)],[],0⟩) ?_ ?_
   ·refine jSp 47 ?_ ?_
    ·refine jG 0 8 ⟨[V 0 (iv a0),V 1 (.fsl 2 (List.map c_S_api_Span a1)),V 6 (iv x11),V 55 (bv true)],[],0⟩ ?_
     refine jr_nil rfl ?_
     exact jx_mid rfl (wkR [] (fix_nil _) allp_nil)
    refine jG 0 2 ⟨[V 0 (iv a0),V 1 (.fsl 2 (List.map c_S_api_Span a1)),V 6 (iv x11),(47,.lit false),V 48 (.fsl 2 (List.map c_S_api_Span a1)),V 49 (iv x11)],[],0⟩ ?_
    refine jr_part (i:=2) (mo:=ixl a1 x11) rfl rfl rfl rfl (fun _ hc=>aop_ixf (c:=c_S_api_Span) (sz:=2) (e:=45) (kk:=.i64) (by kernel_rfl) (by kernel_rfl) (by kernel_rfl) (by kernel_rfl) hc) (fun _=>rfl) ?_
    intro x34 h34
    refine jG 3 5 ⟨[V 0 (iv a0),V 1 (.fsl 2 (List.map c_S_api_Span a1)),V 6 (iv x11),V 55 (bv (decide (x34.Hi > a0)))],[],0⟩ ?_
    refine jr_nil rfl ?_
    exact jx_mid rfl (wkR [] (fix_nil _) allp_nil)
   intro x33
   refine jN ?_
   refine jIf ?_ ?_
   ·refine jS ⟨[V 4 (bv false)],[],0⟩ ?_
    refine jc_ret ?_
    refine jx_seqR ?_
    refine jx_blkR ?_
    refine jx_seqR ?_
    exact jx_done rfl nofun (wkR [] (fix_nil _) allp_nil)
   refine jc_skip ?_
   refine jx_seqN ?_
   refine jc_reg ?_
   refine jG 0 2 ⟨[V 0 (iv a0),V 1 (.fsl 2 (List.map c_S_api_Span a1)),V 6 (iv x11),V 56 (.fsl 2 (List.map c_S_api_Span a1)),V 57 (iv x11)],[],0⟩ ?_
   refine jr_part (i:=2) (mo:=ixl a1 x11) rfl rfl rfl rfl (fun _ hc=>aop_ixf (c:=c_S_api_Span) (sz:=2) (e:=45) (kk:=.i64) (by kernel_rfl) (by kernel_rfl) (by kernel_rfl) (by kernel_rfl) hc) (fun _=>rfl) ?_
   intro x35 h35
   refine jG 3 3 ⟨[V 0 (iv a0),V 1 (.fsl 2 (List.map c_S_api_Span a1)),V 5 (iv x35.Hi),V 6 (iv x11)],[],0⟩ ?_
   refine jr_nil rfl ?_
   refine jx_blkN ?_
   refine jx_seqN ?_
   refine jT ⟨[V 0 (iv a0),V 1 (.fsl 2 (List.map c_S_api_Span a1)),V 5 (iv x35.Hi),V 6 (iv (w64 (x11 + 1)))],[],0⟩ ?_
   exact jx_next (wkR [] (fix_nil _) allp_nil)
  refine jc_exit ?_
  refine jx_seqE ?_
  exact jx_done rfl nofun (wkR [] (fix_nil _) allp_nil)
 rintro (_ | _)
 ·refine jx_blkR ?_
  refine jx_seqR ?_
  exact jx_retF (.inr rfl) (v:=bv false) (by kernel_rfl) rfl (fle_refl _)
 refine jx_blkE ?_
 refine jx_seqN ?_
 refine jS ⟨[V 4 (bv true)],[],0⟩ ?_
 refine jc_ret ?_
 exact jx_retF (.inr rfl) (v:=bv true) (by kernel_rfl) rfl (fle_refl _))
abbrev ref07_Where_r1:List LO:=[lo 2 (.assign (.const (.slice none 0 0))) 22]
abbrev ref07_Where_r2:List LO:=[lo 3 (.assign (.const (.slice none 0 0))) 22]
abbrev ref07_Where_r3:List LO:=[lo 4 (.assign (.const (.int .i64 0))) 3]
abbrev ref07_Where_r4:List LO:=[lm 6 4 3,lm 7 0 32,lo 8 (.call ⟨.builtin .len,#[.tmp 7],#[32]⟩) 3,lo 9 (.binOp .lss 3 (.tmp 6) (.tmp 8) 3) 4,lm 10 9 4,lmg 11 4 3 10 true,lg 12 (.binOp .lss 3 (.tmp 11) (.const (.int .i64 65536)) 3) 4 10 true,lo 13 (.pick (.tmp 10) (.tmp 12) (.const (.bool false))) 4]
abbrev ref07_Where_r5:List LO:=[lm 16 0 32,lm 17 4 3,lo 18 (.indexAddr 32 (.tmp 16) (.tmp 17)) 0,lo 19 (.load 4 (.tmp 18)) 4,lo 20 (.unOp .not 4 (.tmp 19)) 4]
abbrev ref07_Where_r6:List LO:=[lm 21 3 22,lo 22 (.call ⟨.builtin .len,#[.tmp 21],#[22]⟩) 3,lo 23 (.binOp .sub 3 (.tmp 22) (.const (.int .i64 1)) 3) 3,lo 5 (.assign (.tmp 23)) 3]
abbrev ref07_Where_r7:List LO:=[lm 24 5 3,lo 25 (.binOp .geq 3 (.tmp 24) (.const (.int .i64 0)) 3) 4,lm 26 25 4,lmg 27 3 22 26 true,lmg 28 5 3 26 true,lg 29 (.indexAddr 22 (.tmp 27) (.tmp 28)) 0 26 true,lg 30 (.fieldAddr 45 (.tmp 29) 1) 0 26 true,lg 31 (.load 3 (.tmp 30)) 3 26 true,lmg 32 4 3 26 true,lg 33 (.binOp .eql 3 (.tmp 31) (.tmp 32) 3) 4 26 true,lo 34 (.pick (.tmp 26) (.tmp 33) (.const (.bool false))) 4]
abbrev ref07_Where_r8:List LO:=[lm 35 3 22,lm 36 5 3,lm 37 4 3,lo 38 (.binOp .add 3 (.tmp 37) (.const (.int .i64 1)) 3) 3,lo 39 (.indexAddr 22 (.tmp 35) (.tmp 36)) 0,lo 40 (.fieldAddr 45 (.tmp 39) 1) 0,ln (.store 3 (.tmp 40) (.tmp 38)) 0]
abbrev ref07_Where_r9:List LO:=[lm 41 3 22,lm 42 4 3,lm 43 4 3,lo 44 (.binOp .add 3 (.tmp 43) (.const (.int .i64 1)) 3) 3,lo 45 (.build 45 #[(0,.tmp 42),(1,.tmp 44)]) 45,lo 46 (.buildSlice 22 1 #[(0,.tmp 45)]) 22,lo 47 (.call ⟨.builtin .append,#[.tmp 41,.tmp 46],#[22,22]⟩) 22,lo 3 (.assign (.tmp 47)) 22]
abbrev ref07_Where_r10:List LO:=[lm 14 4 3,lo 15 (.binOp .add 3 (.tmp 14) (.const (.int .i64 1)) 3) 3,lo 4 (.assign (.tmp 15)) 3]
abbrev ref07_Where_r11:List LO:=[lm 48 3 22,lo 2 (.assign (.tmp 48)) 22]
abbrev ref07_Where_c:LC:=.seq (.reg false ref07_Where_r1) (.seq (.reg false ref07_Where_r2) (.seq (.seq (.reg false ref07_Where_r3) (.block 0 (.loop (.seq (.seq (.reg false ref07_Where_r4) (.cond (.tmp 13) .skip (.exit 0))) (.seq (.block 1 (.seq (.seq (.reg false ref07_Where_r5) (.cond (.tmp 20) (.exit 1) .skip)) (.seq (.reg false ref07_Where_r6) (.seq (.reg false ref07_Where_r7) (.cond (.tmp 34) (.reg false ref07_Where_r8) (.reg false ref07_Where_r9)))))) (.reg false ref07_Where_r10)))))) (.seq (.reg false ref07_Where_r11) .ret)))
theorem ref07_Where_k:FnOk E 20 49 [.tmp 2] ref07_Where_c:=⟨⟨Go.Proofs.Tryd.f20,by kernel_rfl,by kernel_rfl,by kernel_rfl,by kernel_rfl,by kernel_rfl⟩,rfl,rfl⟩
noncomputable def ref07_Where_l1 (a0:List Bool):(List S_api_Span × Int)→Option (Step (List S_api_Span × Int) (List S_api_Span)):=fun (x19,x20)=>(if ((decide (x20 < (List.length a0:Int))) && (decide (x20 < 65536)))=true then Option.bind (Option.bind (ixl a0 x20) (fun x36=>(if (!x36)=true then some x19 else Option.bind (if (decide ((w64 ((List.length x19:Int) - 1))≥0))=true then Option.bind (ixl x19 (w64 ((List.length x19:Int) - 1))) (fun x39=>some (x39.Hi == x20)) else some false:Option (Bool)) (fun x38=>(if x38=true then Option.bind (ixl x19 (w64 ((List.length x19:Int) - 1))) (fun x40=>some (List.set x19 (Int.toNat (w64 ((List.length x19:Int) - 1))) (S_api_Span.mk x40.Lo (w64 (x20 + 1))))) else Option.bind (app 16 x19 [(S_api_Span.mk x20 (w64 (x20 + 1)))]) (fun x41=>some x41))))):Option (List S_api_Span)) (fun x35=>some (Step.next (x35,(w64 (x20 + 1))))) else some (Step.done x19))
abbrev ref07_Where_T (a0:List Bool) (r:List S_api_Span):CS:=⟨[V 2 (.osl 1 0 (List.length r) 2)],[(0,.rows 1 (List.map cT a0)),(1,.rows 2 (List.map c_S_api_Span r))],2⟩
noncomputable def ref07_Where (a0:List Bool):Option (List S_api_Span):=Option.bind (loopC (ref07_Where_l1 a0) ([],0)) (fun x29=>some x29)
theorem ref07_Where_ok (a0:List Bool):CtM E 20 [.osl 0 0 (List.length a0) 1] [(0,.rows 1 (List.map cT a0))] 1 (ref07_Where a0) (fun r:List S_api_Span=>.osl 1 0 (List.length r) 2) (fun r:List S_api_Span=>[(0,.rows 1 (List.map cT a0)),(1,.rows 2 (List.map c_S_api_Span r))]) 2:=ctm_intro (N:=49) (L:=ref07_Where_c) ref07_Where_k rfl (Nat.le_of_ble_eq_true rfl) (fun F hF=>by
 unfold ref07_Where
 refine jS ⟨[V 0 (.osl 0 0 (List.length a0) 1)],[(0,.rows 1 (List.map cT a0))],1⟩ ?_
 refine jS ⟨[V 0 (.osl 0 0 (List.length a0) 1),V 3 (nilS)],[(0,.rows 1 (List.map cT a0))],1⟩ ?_
 refine jc_seq ?_
 refine jS ⟨[V 0 (.osl 0 0 (List.length a0) 1),V 3 (nilS),V 4 (iv 0)],[(0,.rows 1 (List.map cT a0))],1⟩ ?_
 refine jc_block ?_
 refine jc_bind (fun x29=>⟨[V 3 (.osl 1 0 (List.length x29) 2)],[(0,.rows 1 (List.map cT a0)),(1,.rows 2 (List.map c_S_api_Span x29))],2⟩) (fun x29=>(.exit 0)) (jc_loop (fun (x19,x20)=>⟨[V 0 (.osl 0 0 (List.length a0) 1),V 3 (.osl 1 0 (List.length x19) 2),V 4 (iv x20)],[(0,.rows 1 (List.map cT a0)),(1,.rows 2 (List.map c_S_api_Span x19))],2⟩) (wkR [(0,some 0),(1,none)] (fix_of hF (k:=1) rfl) (pc (hL 0 (noid_map ni_T _)) (pc hZ allp_nil))) ?_) ?_
 ·rintro⟨x19,x20⟩
  unfold ref07_Where_l1
  refine jc_seq ?_
  refine jS ⟨[V 0 (.osl 0 0 (List.length a0) 1),V 3 (.osl 1 0 (List.length x19) 2),V 4 (iv x20),V 13 (bv ((decide (x20 < (List.length a0:Int))) && (decide (x20 < 65536))))],[(0,.rows 1 (List.map cT a0)),(1,.rows 2 (List.map c_S_api_Span x19))],2⟩ ?_
  refine jIf ?_ ?_
  ·refine jc_skip ?_
   refine jx_seqN ?_
   refine jc_seq ?_
   refine jc_bind (fun x35=>⟨[V 0 (.osl 0 0 (List.length a0) 1),V 3 (.osl 1 0 (List.length x35) 2),V 4 (iv x20)],[(0,.rows 1 (List.map cT a0)),(1,.rows 2 (List.map c_S_api_Span x35))],2⟩) (fun x35=>.normal) ?_ ?_
   ·refine jc_block ?_
    refine jc_seq ?_
    refine jR ?_
    refine jG 0 2 ⟨[V 0 (.osl 0 0 (List.length a0) 1),V 3 (.osl 1 0 (List.length x19) 2),V 4 (iv x20),V 16 (.osl 0 0 (List.length a0) 1),V 17 (iv x20)],[(0,.rows 1 (List.map cT a0)),(1,.rows 2 (List.map c_S_api_Span x19))],2⟩ ?_
    refine jr_part (i:=2) (mo:=ixl a0 x20) rfl rfl rfl rfl (fun _ hc=>aop_ixo0 (sz:=1) (e:=4) (kk:=.i64) (id:=0) (by kernel_rfl) (by kernel_rfl) (by kernel_rfl) (by kernel_rfl) hc) (fun _=>rfl) ?_
    intro x36 h36
    refine jr_one (i:=3) (v:=bv x36) rfl rfl rfl rfl (aop_ldo (l:=a0) (c:=cT) (id:=0) (k:=(Int.toNat x20)) (sz:=1) (off:=0) (a:=x36) (by kernel_rfl) (by kernel_rfl) (ixl_lt h36).2.2 (by kernel_rfl)) rfl ?_
    refine jG 4 1 ⟨[V 0 (.osl 0 0 (List.length a0) 1),V 3 (.osl 1 0 (List.length x19) 2),V 4 (iv x20),V 20 (bv (!x36))],[(0,.rows 1 (List.map cT a0)),(1,.rows 2 (List.map c_S_api_Span x19))],2⟩ ?_
    refine jN ?_
    refine jIf ?_ ?_
    ·refine jc_exit ?_
     refine jx_seqE ?_
     refine jx_blkE ?_
     exact jx_mid rfl (wkR [(0,some 0),(1,some 1)] (fix_of hF (k:=1) rfl) (pc (hL 0 (noid_map ni_T _)) (pc (hL 1 (noid_map ni_S_api_Span _)) allp_nil)))
    refine jc_skip ?_
    refine jx_seqN ?_
    refine jS ⟨[V 0 (.osl 0 0 (List.length a0) 1),V 3 (.osl 1 0 (List.length x19) 2),V 4 (iv x20),V 5 (iv (w64 ((List.length x19:Int) - 1)))],[(0,.rows 1 (List.map cT a0)),(1,.rows 2 (List.map c_S_api_Span x19))],2⟩ ?_
    refine jR ?_
    refine jG 0 3 ⟨[V 0 (.osl 0 0 (List.length a0) 1),V 3 (.osl 1 0 (List.length x19) 2),V 4 (iv x20),V 5 (iv (w64 ((List.length x19:Int) - 1))),V 26 (bv (decide ((w64 ((List.length x19:Int) - 1))≥0)))],[(0,.rows 1 (List.map cT a0)),(1,.rows 2 (List.map c_S_api_Span x19))],2⟩ ?_
    refine jr_bind 3 8 (fun x38=>⟨[V 0 (.osl 0 0 (List.length a0) 1),V 3 (.osl 1 0 (List.length x19) 2),V 4 (iv x20),V 5 (iv (w64 ((List.length x19:Int) - 1))),V 34 (bv x38)],[(0,.rows 1 (List.map cT a0)),(1,.rows 2 (List.map c_S_api_Span x19))],2⟩) ?_ ?_
    ·refine jSp 26 ?_ ?_
     ·refine jG 0 2 ⟨[V 0 (.osl 0 0 (List.length a0) 1),V 3 (.osl 1 0 (List.length x19) 2),V 4 (iv x20),V 5 (iv (w64 ((List.length x19:Int) - 1))),(26,.lit true),V 27 (.osl 1 0 (List.length x19) 2),V 28 (iv (w64 ((List.length x19:Int) - 1)))],[(0,.rows 1 (List.map cT a0)),(1,.rows 2 (List.map c_S_api_Span x19))],2⟩ ?_
      refine jr_part (i:=2) (mo:=ixl x19 (w64 ((List.length x19:Int) - 1))) rfl rfl rfl rfl (fun _ hc=>aop_ixo0 (sz:=2) (e:=45) (kk:=.i64) (id:=1) (by kernel_rfl) (by kernel_rfl) (by kernel_rfl) (by kernel_rfl) hc) (fun _=>rfl) ?_
      intro x39 h39
      refine jG 3 1 ⟨[V 0 (.osl 0 0 (List.length a0) 1),V 3 (.osl 1 0 (List.length x19) 2),V 4 (iv x20),V 5 (iv (w64 ((List.length x19:Int) - 1))),(26,.lit true),V 30 (.ptr 1 (Int.toNat (w64 ((List.length x19:Int) - 1))) 2 1)],[(0,.rows 1 (List.map cT a0)),(1,.rows 2 (List.map c_S_api_Span x19))],2⟩ ?_
      refine jr_one (i:=4) (v:=iv x39.Hi) rfl rfl rfl rfl (aop_ldo (l:=x19) (c:=c_S_api_Span) (id:=1) (k:=(Int.toNat (w64 ((List.length x19:Int) - 1)))) (sz:=2) (off:=1) (a:=x39) (by kernel_rfl) (by kernel_rfl) (ixl_lt h39).2.2 (by kernel_rfl)) rfl ?_
      refine jG 5 3 ⟨[V 0 (.osl 0 0 (List.length a0) 1),V 3 (.osl 1 0 (List.length x19) 2),V 4 (iv x20),V 5 (iv (w64 ((List.length x19:Int) - 1))),V 34 (bv (x39.Hi == x20))],[(0,.rows 1 (List.map cT a0)),(1,.rows 2 (List.map c_S_api_Span x19))],2⟩ ?_
      refine jr_nil rfl ?_
      exact jx_mid rfl (wkR [(0,some 0),(1,some 1)] (fix_of hF (k:=1) rfl) (pc (hL 0 (noid_map ni_T _)) (pc (hL 1 (noid_map ni_S_api_Span _)) allp_nil)))
     refine jG 0 8 ⟨[V 0 (.osl 0 0 (List.length a0) 1),V 3 (.osl 1 0 (List.length x19) 2),V 4 (iv x20),V 5 (iv (w64 ((List.length x19:Int) - 1))),V 34 (bv false)],[(0,.rows 1 (List.map cT a0)),(1,.rows 2 (List.map c_S_api_Span x19))],2⟩ ?_
     refine jr_nil rfl ?_
     exact jx_mid rfl (wkR [(0,some 0),(1,some 1)] (fix_of hF (k:=1) rfl) (pc (hL 0 (noid_map ni_T _)) (pc (hL 1 (noid_map ni_S_api_Span _)) allp_nil)))
    intro x38
    refine jN ?_
    refine jIf ?_ ?_
    ·refine jc_reg ?_
     refine jG 0 4 ⟨[V 0 (.osl 0 0 (List.length a0) 1),V 3 (.osl 1 0 (List.length x19) 2),V 4 (iv x20),V 35 (.osl 1 0 (List.length x19) 2),V 36 (iv (w64 ((List.length x19:Int) - 1))),V 38 (iv (w64 (x20 + 1)))],[(0,.rows 1 (List.map cT a0)),(1,.rows 2 (List.map c_S_api_Span x19))],2⟩ ?_
     refine jr_part (i:=4) (mo:=ixl x19 (w64 ((List.length x19:Int) - 1))) rfl rfl rfl rfl (fun _ hc=>aop_ixo0 (sz:=2) (e:=45) (kk:=.i64) (id:=1) (by kernel_rfl) (by kernel_rfl) (by kernel_rfl) (by kernel_rfl) hc) (fun _=>rfl) ?_
     intro x40 h40
     refine jG 5 1 ⟨[V 0 (.osl 0 0 (List.length a0) 1),V 3 (.osl 1 0 (List.length x19) 2),V 4 (iv x20),V 38 (iv (w64 (x20 + 1))),V 40 (.ptr 1 (Int.toNat (w64 ((List.length x19:Int) - 1))) 2 1)],[(0,.rows 1 (List.map cT a0)),(1,.rows 2 (List.map c_S_api_Span x19))],2⟩ ?_
     refine jr_sto (i:=6) [0,3,4] [0,1] (st1:=⟨[V 0 (.osl 0 0 (List.length a0) 1),V 3 (.osl 1 0 (List.length (List.set x19 (Int.toNat (w64 ((List.length x19:Int) - 1))) (S_api_Span.mk x40.Lo (w64 (x20 + 1))))) 2),V 4 (iv x20)],[(0,.rows 1 (List.map cT a0)),(1,.rows 2 (List.map c_S_api_Span (List.set x19 (Int.toNat (w64 ((List.length x19:Int) - 1))) (S_api_Span.mk x40.Lo (w64 (x20 + 1))))))],2⟩) rfl rfl rfl rfl (aop_sto (l:=x19) (c:=c_S_api_Span) (id:=1) (k:=(Int.toNat (w64 ((List.length x19:Int) - 1)))) (sz:=2) (off:=1) (a:=x40) (a':=(S_api_Span.mk x40.Lo (w64 (x20 + 1)))) (w:=iv (w64 (x20 + 1))) (cs:=[iv (w64 (x20 + 1))]) (by kernel_rfl) (by kernel_rfl) (by kernel_rfl) (by kernel_rfl) (by kernel_rfl) (ixl_lt h40).2.2 (Nat.le_of_ble_eq_true rfl) (by kernel_rfl)) (by simp only[List.length_set]; kernel_rfl) ?_
     refine jr_nil rfl ?_
     refine jx_blkN ?_
     exact jx_mid rfl (wkR [(0,some 0),(1,some 1)] (fix_of hF (k:=1) rfl) (pc (hL 0 (noid_map ni_T _)) (pc (hL 1 (noid_map ni_S_api_Span _)) allp_nil)))
    refine jc_reg ?_
    refine jG 0 6 ⟨[V 0 (.osl 0 0 (List.length a0) 1),V 4 (iv x20),V 41 (.osl 1 0 (List.length x19) 2),V 46 (.osl 2 0 (List.length [(S_api_Span.mk x20 (w64 (x20 + 1)))]) 2)],[(0,.rows 1 (List.map cT a0)),(1,.rows 2 (List.map c_S_api_Span x19)),(2,.rows 2 (List.map c_S_api_Span [(S_api_Span.mk x20 (w64 (x20 + 1)))]))],3⟩ ?_
    refine jr_part (i:=6) (mo:=app 16 x19 [(S_api_Span.mk x20 (w64 (x20 + 1)))]) rfl rfl rfl rfl (fun _ hc=>aop_app (u:=.osl 1 0 (List.length x19) 2) (w:=.osl 2 0 (List.length [(S_api_Span.mk x20 (w64 (x20 + 1)))]) 2) (e:=45) (td:=.slice 45) (by kernel_rfl) (by kernel_rfl) (by kernel_rfl) (by kernel_rfl) (.inl ⟨_,rfl⟩) (appendOf_own (c:=c_S_api_Span) (sz:=2) (b:=16) (id:=1) (by kernel_rfl) (by kernel_rfl) (rows_own (by kernel_rfl)) (List.cons_ne_nil _ _) hc)) (fun _=>rfl) ?_
    intro x41 h41
    refine jG 7 1 ⟨[V 0 (.osl 0 0 (List.length a0) 1),V 3 (.osl 3 0 (List.length x41) 2),V 4 (iv x20)],[(0,.rows 1 (List.map cT a0)),(3,.rows 2 (List.map c_S_api_Span x41))],4⟩ ?_
    refine jr_nil rfl ?_
    refine jx_blkN ?_
    exact jx_mid rfl (wkR [(0,some 0),(1,some 3)] (fix_of hF (k:=1) rfl) (pc (hL 0 (noid_map ni_T _)) (pc (hL 3 (noid_map ni_S_api_Span _)) allp_nil)))
   intro x35
   refine jx_seqN ?_
   refine jT ⟨[V 0 (.osl 0 0 (List.length a0) 1),V 3 (.osl 1 0 (List.length x35) 2),V 4 (iv (w64 (x20 + 1)))],[(0,.rows 1 (List.map cT a0)),(1,.rows 2 (List.map c_S_api_Span x35))],2⟩ ?_
   exact jx_next (wkR [(0,some 0),(1,some 1)] (fix_of hF (k:=1) rfl) (pc (hL 0 (noid_map ni_T _)) (pc (hL 1 (noid_map ni_S_api_Span _)) allp_nil)))
  refine jc_exit ?_
  refine jx_seqE ?_
  exact jx_done rfl nofun (wkR [(0,some 0),(1,some 1)] (fix_of hF (k:=1) rfl) (pc (hL 0 (noid_map ni_T _)) (pc (hL 1 (noid_map ni_S_api_Span _)) allp_nil)))
 intro x29
 refine jx_blkE ?_
 refine jx_seqN ?_
 refine jS ⟨[V 2 (.osl 1 0 (List.length x29) 2)],[(0,.rows 1 (List.map cT a0)),(1,.rows 2 (List.map c_S_api_Span x29))],2⟩ ?_
 refine jc_ret ?_
 exact jx_retM (ref07_Where_T a0 x29) (.inr rfl) (wkR [(0,some 0),(1,some 1)] (fix_of hF (k:=1) rfl) (pc (hL 0 (noid_map ni_T _)) (pc (hL 1 (noid_map ni_S_api_Span _)) allp_nil))))
abbrev ref07_Same_r1:List LO:=[lo 4 (.assign (.const (.bool false))) 4]
abbrev ref07_Same_r2:List LO:=[lm 6 0 22,lo 7 (.call ⟨.builtin .len,#[.tmp 6],#[22]⟩) 3,lm 8 1 22,lo 9 (.call ⟨.builtin .len,#[.tmp 8],#[22]⟩) 3,lo 10 (.binOp .neq 3 (.tmp 7) (.tmp 9) 3) 4]
abbrev ref07_Same_r3:List LO:=[lo 4 (.assign (.const (.bool false))) 4]
abbrev ref07_Same_r4:List LO:=[lo 5 (.assign (.const (.int .i64 0))) 3]
abbrev ref07_Same_r5:List LO:=[lm 11 5 3,lm 12 0 22,lo 13 (.call ⟨.builtin .len,#[.tmp 12],#[22]⟩) 3,lo 14 (.binOp .lss 3 (.tmp 11) (.tmp 13) 3) 4]
abbrev ref07_Same_r6:List LO:=[lm 17 0 22,lm 18 5 3,lo 19 (.indexAddr 22 (.tmp 17) (.tmp 18)) 0,lo 20 (.load 45 (.tmp 19)) 45,lm 21 1 22,lm 22 5 3,lo 23 (.indexAddr 22 (.tmp 21) (.tmp 22)) 0,lo 24 (.load 45 (.tmp 23)) 45,lo 25 (.binOp .neq 45 (.tmp 20) (.tmp 24) 45) 4]
abbrev ref07_Same_r7:List LO:=[lo 4 (.assign (.const (.bool false))) 4]
abbrev ref07_Same_r8:List LO:=[lm 15 5 3,lo 16 (.binOp .add 3 (.tmp 15) (.const (.int .i64 1)) 3) 3,lo 5 (.assign (.tmp 16)) 3]
abbrev ref07_Same_r9:List LO:=[lo 4 (.assign (.const (.bool true))) 4]
abbrev ref07_Same_c:LC:=.seq (.reg false ref07_Same_r1) (.seq (.seq (.reg false ref07_Same_r2) (.cond (.tmp 10) (.seq (.reg false ref07_Same_r3) .ret) .skip)) (.seq (.seq (.reg false ref07_Same_r4) (.block 0 (.loop (.seq (.seq (.reg false ref07_Same_r5) (.cond (.tmp 14) .skip (.exit 0))) (.seq (.block 1 (.seq (.reg true ref07_Same_r6) (.cond (.tmp 25) (.seq (.reg false ref07_Same_r7) .ret) .skip))) (.reg false ref07_Same_r8)))))) (.seq (.reg false ref07_Same_r9) .ret)))
theorem ref07_Same_k:FnOk E 13 26 [.tmp 4] ref07_Same_c:=⟨⟨Go.Proofs.Tryd.f13,by kernel_rfl,by kernel_rfl,by kernel_rfl,by kernel_rfl,by kernel_rfl⟩,rfl,rfl⟩
noncomputable def ref07_Same_l1 (a0:(List S_api_Span)) (a1:(List S_api_Span)):Int→Option (Step (Int) ((Unit) ⊕ (Unit))):=fun x3=>(if (decide (x3 < (List.length a0:Int)))=true then Option.bind (ixl a0 x3) (fun x7=>Option.bind (ixl a1 x3) (fun x8=>(if (!((x7.Lo == x8.Lo) && (x7.Hi == x8.Hi)))=true then some (Step.done (Sum.inl ())) else some (Step.next (w64 (x3 + 1)))))) else some (Step.done (Sum.inr ())))
noncomputable def ref07_Same (a0:(List S_api_Span)) (a1:(List S_api_Span)):Option (Bool):=(if ((List.length a0:Int) != (List.length a1:Int))=true then some false else Option.bind (loopC (ref07_Same_l1 a0 a1) 0) (fun y=>match y with | Sum.inl _=>some false | Sum.inr _=>some true))
theorem ref07_Same_ok (a0:(List S_api_Span)) (a1:(List S_api_Span)):Ct E 13 [.fsl 2 (List.map c_S_api_Span a0),.fsl 2 (List.map c_S_api_Span a1)] (ref07_Same a0 a1) (fun r:Bool=>bv r):=ct_intro (N:=26) (L:=ref07_Same_c) ref07_Same_k rfl (Nat.le_of_ble_eq_true rfl) (by kernel_rfl) (by
 unfold ref07_Same
 refine jS ⟨[V 0 (.fsl 2 (List.map c_S_api_Span a0)),V 1 (.fsl 2 (List.map c_S_api_Span a1))],[],0⟩ ?_
 refine jc_seq ?_
 refine jR ?_
 refine jG 0 5 ⟨[V 0 (.fsl 2 (List.map c_S_api_Span a0)),V 1 (.fsl 2 (List.map c_S_api_Span a1)),V 10 (bv ((List.length (List.map c_S_api_Span a0):Int) != (List.length (List.map c_S_api_Span a1):Int)))],[],0⟩ ?_
 simp only[List.length_map]
 refine jN ?_
 refine jIf ?_ ?_
 ·refine jS ⟨[V 4 (bv false)],[],0⟩ ?_
  refine jc_ret ?_
  refine jx_seqR ?_
  exact jx_retF (.inr rfl) (v:=bv false) (by kernel_rfl) rfl (fle_refl _)
 refine jc_skip ?_
 refine jx_seqN ?_
 refine jc_seq ?_
 refine jS ⟨[V 0 (.fsl 2 (List.map c_S_api_Span a0)),V 1 (.fsl 2 (List.map c_S_api_Span a1)),V 5 (iv 0)],[],0⟩ ?_
 refine jc_block ?_
 refine jc_bind (fun y=>match y with | Sum.inl _=>⟨[V 4 (bv false)],[],0⟩ | Sum.inr _=>⟨[],[],0⟩) (fun y=>match y with | Sum.inl _=>.ret | Sum.inr _=>(.exit 0)) (jc_loop (fun x3=>⟨[V 0 (.fsl 2 (List.map c_S_api_Span a0)),V 1 (.fsl 2 (List.map c_S_api_Span a1)),V 5 (iv x3)],[],0⟩) (wkR [] (fix_nil _) allp_nil) ?_) ?_
 ·intro x3
  unfold ref07_Same_l1
  refine jc_seq ?_
  refine jR ?_
  refine jG 0 4 ⟨[V 0 (.fsl 2 (List.map c_S_api_Span a0)),V 1 (.fsl 2 (List.map c_S_api_Span a1)),V 5 (iv x3),V 14 (bv (decide (x3 < (List.length (List.map c_S_api_Span a0):Int))))],[],0⟩ ?_
  simp only[List.length_map]
  refine jN ?_
  refine jIf ?_ ?_
  ·refine jc_skip ?_
   refine jx_seqN ?_
   refine jc_seq ?_
   refine jc_block ?_
   refine jR ?_
   refine jG 0 2 ⟨[V 0 (.fsl 2 (List.map c_S_api_Span a0)),V 1 (.fsl 2 (List.map c_S_api_Span a1)),V 5 (iv x3),V 17 (.fsl 2 (List.map c_S_api_Span a0)),V 18 (iv x3)],[],0⟩ ?_
   refine jr_part (i:=2) (mo:=ixl a0 x3) rfl rfl rfl rfl (fun _ hc=>aop_ixf (c:=c_S_api_Span) (sz:=2) (e:=45) (kk:=.i64) (by kernel_rfl) (by kernel_rfl) (by kernel_rfl) (by kernel_rfl) hc) (fun _=>rfl) ?_
   intro x7 h7
   refine jG 3 3 ⟨[V 0 (.fsl 2 (List.map c_S_api_Span a0)),V 1 (.fsl 2 (List.map c_S_api_Span a1)),V 5 (iv x3),V 20 (.agg [iv x7.Lo,iv x7.Hi]),V 21 (.fsl 2 (List.map c_S_api_Span a1)),V 22 (iv x3)],[],0⟩ ?_
   refine jr_part (i:=6) (mo:=ixl a1 x3) rfl rfl rfl rfl (fun _ hc=>aop_ixf (c:=c_S_api_Span) (sz:=2) (e:=45) (kk:=.i64) (by kernel_rfl) (by kernel_rfl) (by kernel_rfl) (by kernel_rfl) hc) (fun _=>rfl) ?_
   intro x8 h8
   refine jG 7 2 ⟨[V 0 (.fsl 2 (List.map c_S_api_Span a0)),V 1 (.fsl 2 (List.map c_S_api_Span a1)),V 5 (iv x3),V 25 (bv (!((x7.Lo == x8.Lo) && (x7.Hi == x8.Hi))))],[],0⟩ ?_
   refine jN ?_
   refine jIf ?_ ?_
   ·refine jS ⟨[V 4 (bv false)],[],0⟩ ?_
    refine jc_ret ?_
    refine jx_blkR ?_
    refine jx_seqR ?_
    exact jx_done rfl nofun (wkR [] (fix_nil _) allp_nil)
   refine jc_skip ?_
   refine jx_blkN ?_
   refine jx_seqN ?_
   refine jT ⟨[V 0 (.fsl 2 (List.map c_S_api_Span a0)),V 1 (.fsl 2 (List.map c_S_api_Span a1)),V 5 (iv (w64 (x3 + 1)))],[],0⟩ ?_
   exact jx_next (wkR [] (fix_nil _) allp_nil)
  refine jc_exit ?_
  refine jx_seqE ?_
  exact jx_done rfl nofun (wkR [] (fix_nil _) allp_nil)
 rintro (_ | _)
 ·refine jx_blkR ?_
  refine jx_seqR ?_
  exact jx_retF (.inr rfl) (v:=bv false) (by kernel_rfl) rfl (fle_refl _)
 refine jx_blkE ?_
 refine jx_seqN ?_
 refine jS ⟨[V 4 (bv true)],[],0⟩ ?_
 refine jc_ret ?_
 exact jx_retF (.inr rfl) (v:=bv true) (by kernel_rfl) rfl (fle_refl _))
abbrev ranks_Has_1_s64b3_r1:List LO:=[lo 2 (.box 45 (.tmp 0)) 0,lo 3 (.assign (.const (.bool false))) 4]
abbrev ranks_Has_1_s64b3_r2:List LO:=[lo 4 (.fieldAddr 45 (.tmp 2) 0) 0,lo 5 (.load 3 (.tmp 4)) 3,lo 6 (.load 3 (.tmp 1)) 3,lo 7 (.binOp .leq 3 (.tmp 5) (.tmp 6) 3) 4,lm 8 7 4,lg 9 (.load 3 (.tmp 1)) 3 8 true,lg 10 (.fieldAddr 45 (.tmp 2) 1) 0 8 true,lg 11 (.load 3 (.tmp 10)) 3 8 true,lg 12 (.binOp .lss 3 (.tmp 9) (.tmp 11) 3) 4 8 true,lo 13 (.pick (.tmp 8) (.tmp 12) (.const (.bool false))) 4,lo 3 (.assign (.tmp 13)) 4]
abbrev ranks_Has_1_s64b3_c:LC:=.seq (.reg false ranks_Has_1_s64b3_r1) (.seq (.reg false ranks_Has_1_s64b3_r2) .ret)
theorem ranks_Has_1_s64b3_k:FnOk E 53 14 [.tmp 3] ranks_Has_1_s64b3_c:=⟨⟨Go.Proofs.Tryd.f53,by kernel_rfl,by kernel_rfl,by kernel_rfl,by kernel_rfl,by kernel_rfl⟩,rfl,rfl⟩
noncomputable def ranks_Has_1_s64b3 (a0:S_api_Span) (a1:Int):Option (Bool):=some ((decide (a0.Lo≤a1)) && (decide (a1 < a0.Hi)))
theorem ranks_Has_1_s64b3_ok (a0:S_api_Span) (a1:Int):Ct E 53 [.agg [iv a0.Lo,iv a0.Hi],.fptr [iv a1] 0] (ranks_Has_1_s64b3 a0 a1) (fun r:Bool=>bv r):=ct_intro (N:=14) (L:=ranks_Has_1_s64b3_c) ranks_Has_1_s64b3_k rfl (Nat.le_of_ble_eq_true rfl) (by kernel_rfl) (by
 unfold ranks_Has_1_s64b3
 refine jS ⟨[V 1 (.fptr [iv a1] 0),V 2 (pt 0 2)],[W 0 2 [iv a0.Lo,iv a0.Hi]],1⟩ ?_
 refine jS ⟨[V 3 (bv ((decide (a0.Lo≤a1)) && (decide (a1 < a0.Hi))))],[],1⟩ ?_
 refine jc_ret ?_
 exact jx_retF (.inr rfl) (v:=bv ((decide (a0.Lo≤a1)) && (decide (a1 < a0.Hi)))) (by kernel_rfl) rfl (fle_refl _))
abbrev slices_IndexFunc_api_Span_api_Span_s6956_r1:List LO:=[lo 4 (.assign (.const (.int .i64 0))) 3]
abbrev slices_IndexFunc_api_Span_api_Span_s6956_r2:List LO:=[lm 6 0 22,lo 7 (.call ⟨.builtin .len,#[.tmp 6],#[22]⟩) 3,lo 8 (.move (.const (.int .i64 0))) 3]
abbrev slices_IndexFunc_api_Span_api_Span_s6956_r3:List LO:=[lo 9 (.binOp .lss 3 (.tmp 8) (.tmp 7) 3) 0]
abbrev slices_IndexFunc_api_Span_api_Span_s6956_r4:List LO:=[lm 10 8 3,lo 5 (.assign (.tmp 10)) 3]
abbrev slices_IndexFunc_api_Span_api_Span_s6956_r5:List LO:=[lm 11 1 56,lm 12 0 22,lm 13 5 3,lo 14 (.indexAddr 22 (.tmp 12) (.tmp 13)) 0,lo 15 (.load 45 (.tmp 14)) 45,lo 16 (.call ⟨.value (.tmp 11),#[.tmp 15],#[45]⟩) 4]
abbrev slices_IndexFunc_api_Span_api_Span_s6956_r6:List LO:=[lm 17 5 3,lo 4 (.assign (.tmp 17)) 3]
abbrev slices_IndexFunc_api_Span_api_Span_s6956_r7:List LO:=[lo 18 (.binOp .add 3 (.tmp 8) (.const (.int .i64 1)) 3) 3,lm 8 18 3]
abbrev slices_IndexFunc_api_Span_api_Span_s6956_r8:List LO:=[lo 4 (.assign (.const (.int .i64 (-1)))) 3]
abbrev slices_IndexFunc_api_Span_api_Span_s6956_c:LC:=.seq (.reg false slices_IndexFunc_api_Span_api_Span_s6956_r1) (.seq (.seq (.reg false slices_IndexFunc_api_Span_api_Span_s6956_r2) (.block 0 (.loop (.seq (.reg false slices_IndexFunc_api_Span_api_Span_s6956_r3) (.seq (.cond (.tmp 9) .skip (.exit 0)) (.seq (.block 1 (.seq (.reg false slices_IndexFunc_api_Span_api_Span_s6956_r4) (.seq (.reg false slices_IndexFunc_api_Span_api_Span_s6956_r5) (.cond (.tmp 16) (.seq (.reg false slices_IndexFunc_api_Span_api_Span_s6956_r6) .ret) .skip)))) (.reg false slices_IndexFunc_api_Span_api_Span_s6956_r7))))))) (.seq (.reg false slices_IndexFunc_api_Span_api_Span_s6956_r8) .ret))
theorem slices_IndexFunc_api_Span_api_Span_s6956_k:FnOk E 62 19 [.tmp 4] slices_IndexFunc_api_Span_api_Span_s6956_c:=⟨⟨Go.Proofs.Tryd.f62,by kernel_rfl,by kernel_rfl,by kernel_rfl,by kernel_rfl,by kernel_rfl⟩,rfl,rfl⟩
noncomputable def slices_IndexFunc_api_Span_api_Span_s6956_l1 (a0:(List S_api_Span)) (a1:Int):Int→Option (Step (Int) ((Int) ⊕ (Unit))):=fun x3=>(if (decide (x3 < (List.length a0:Int)))=true then Option.bind (ixl a0 x3) (fun x8=>Option.bind (ranks_Has_1_s64b3 x8 a1) (fun x9=>(if x9=true then some (Step.done (Sum.inl x3)) else some (Step.next (w64 (x3 + 1)))))) else some (Step.done (Sum.inr ())))
noncomputable def slices_IndexFunc_api_Span_api_Span_s6956 (a0:(List S_api_Span)) (a1:Int):Option (Int):=Option.bind (loopC (slices_IndexFunc_api_Span_api_Span_s6956_l1 a0 a1) 0) (fun y=>match y with | Sum.inl x7=>some x7 | Sum.inr _=>some (-1))
theorem slices_IndexFunc_api_Span_api_Span_s6956_ok (a0:(List S_api_Span)) (a1:Int):Ct E 62 [.fsl 2 (List.map c_S_api_Span a0),.fn 53 [.fptr [iv a1] 0]] (slices_IndexFunc_api_Span_api_Span_s6956 a0 a1) (fun r:Int=>iv r):=ct_intro (N:=19) (L:=slices_IndexFunc_api_Span_api_Span_s6956_c) slices_IndexFunc_api_Span_api_Span_s6956_k rfl (Nat.le_of_ble_eq_true rfl) (by kernel_rfl) (by
 unfold slices_IndexFunc_api_Span_api_Span_s6956
 refine jS ⟨[V 0 (.fsl 2 (List.map c_S_api_Span a0)),V 1 (.fn 53 [.fptr [iv a1] 0])],[],0⟩ ?_
 refine jc_seq ?_
 refine jR ?_
 refine jG 0 3 ⟨[V 0 (.fsl 2 (List.map c_S_api_Span a0)),V 1 (.fn 53 [.fptr [iv a1] 0]),V 7 (iv (List.length (List.map c_S_api_Span a0):Int)),V 8 (iv 0)],[],0⟩ ?_
 simp only[List.length_map]
 refine jN ?_
 refine jc_block ?_
 refine jc_bind (fun y=>match y with | Sum.inl x7=>⟨[V 4 (iv x7)],[],0⟩ | Sum.inr _=>⟨[],[],0⟩) (fun y=>match y with | Sum.inl x7=>.ret | Sum.inr _=>(.exit 0)) (jc_loop (fun x3=>⟨[V 0 (.fsl 2 (List.map c_S_api_Span a0)),V 1 (.fn 53 [.fptr [iv a1] 0]),V 7 (iv (List.length a0:Int)),V 8 (iv x3)],[],0⟩) (wkR [] (fix_nil _) allp_nil) ?_) ?_
 ·intro x3
  unfold slices_IndexFunc_api_Span_api_Span_s6956_l1
  refine jS ⟨[V 0 (.fsl 2 (List.map c_S_api_Span a0)),V 1 (.fn 53 [.fptr [iv a1] 0]),V 7 (iv (List.length a0:Int)),V 8 (iv x3),V 9 (bv (decide (x3 < (List.length a0:Int))))],[],0⟩ ?_
  refine jc_seq ?_
  refine jIf ?_ ?_
  ·refine jc_skip ?_
   refine jx_seqN ?_
   refine jc_seq ?_
   refine jc_block ?_
   refine jS ⟨[V 0 (.fsl 2 (List.map c_S_api_Span a0)),V 1 (.fn 53 [.fptr [iv a1] 0]),V 5 (iv x3),V 7 (iv (List.length a0:Int)),V 8 (iv x3)],[],0⟩ ?_
   refine jR ?_
   refine jG 0 3 ⟨[V 0 (.fsl 2 (List.map c_S_api_Span a0)),V 1 (.fn 53 [.fptr [iv a1] 0]),V 5 (iv x3),V 7 (iv (List.length a0:Int)),V 8 (iv x3),V 11 (.fn 53 [.fptr [iv a1] 0]),V 12 (.fsl 2 (List.map c_S_api_Span a0)),V 13 (iv x3)],[],0⟩ ?_
   refine jr_part (i:=3) (mo:=ixl a0 x3) rfl rfl rfl rfl (fun _ hc=>aop_ixf (c:=c_S_api_Span) (sz:=2) (e:=45) (kk:=.i64) (by kernel_rfl) (by kernel_rfl) (by kernel_rfl) (by kernel_rfl) hc) (fun _=>rfl) ?_
   intro x8 h8
   refine jG 4 1 ⟨[V 0 (.fsl 2 (List.map c_S_api_Span a0)),V 1 (.fn 53 [.fptr [iv a1] 0]),V 5 (iv x3),V 7 (iv (List.length a0:Int)),V 8 (iv x3),V 11 (.fn 53 [.fptr [iv a1] 0]),V 15 (.agg [iv x8.Lo,iv x8.Hi])],[],0⟩ ?_
   refine jr_callV (i:=5) rfl rfl rfl rfl (g:=53) (caps:=[.fptr [iv a1] 0]) (avs:=[.agg [iv x8.Lo,iv x8.Hi]]) (vs:=[.agg [iv x8.Lo,iv x8.Hi],.fptr [iv a1] 0]) (by kernel_rfl) (by kernel_rfl) rfl (snapL_cons rfl (snapL_cons rfl (snapL_nil _))) (all2_cons (fle_refl _) (all2_cons (fle_refl _) all2_nil)) (ranks_Has_1_s64b3_ok x8 a1) (fun _=>rfl) (fun _=>rfl) ?_
   intro x9 h9
   refine jN ?_
   refine jIf ?_ ?_
   ·refine jS ⟨[V 4 (iv x3)],[],0⟩ ?_
    refine jc_ret ?_
    refine jx_blkR ?_
    refine jx_seqR ?_
    exact jx_done rfl nofun (wkR [] (fix_nil _) allp_nil)
   refine jc_skip ?_
   refine jx_blkN ?_
   refine jx_seqN ?_
   refine jT ⟨[V 0 (.fsl 2 (List.map c_S_api_Span a0)),V 1 (.fn 53 [.fptr [iv a1] 0]),V 7 (iv (List.length a0:Int)),V 8 (iv (w64 (x3 + 1)))],[],0⟩ ?_
   exact jx_next (wkR [] (fix_nil _) allp_nil)
  refine jc_exit ?_
  refine jx_seqE ?_
  exact jx_done rfl nofun (wkR [] (fix_nil _) allp_nil)
 rintro (x7 | _)
 ·refine jx_blkR ?_
  refine jx_seqR ?_
  exact jx_retF (.inr rfl) (v:=iv x7) (by kernel_rfl) rfl (fle_refl _)
 refine jx_blkE ?_
 refine jx_seqN ?_
 refine jS ⟨[V 4 (iv (-1))],[],0⟩ ?_
 refine jc_ret ?_
 exact jx_retF (.inr rfl) (v:=iv (-1)) (by kernel_rfl) rfl (fle_refl _))
abbrev slices_ContainsFunc_api_Span_api_Span_s6956_r1:List LO:=[lo 4 (.assign (.const (.bool false))) 4]
abbrev slices_ContainsFunc_api_Span_api_Span_s6956_r2:List LO:=[lm 5 0 22,lm 6 1 56,lo 7 (.call ⟨.value (.func 62),#[.tmp 5,.tmp 6],#[22,56]⟩) 3,lo 8 (.binOp .geq 3 (.tmp 7) (.const (.int .i64 0)) 3) 4,lo 4 (.assign (.tmp 8)) 4]
abbrev slices_ContainsFunc_api_Span_api_Span_s6956_c:LC:=.seq (.reg false slices_ContainsFunc_api_Span_api_Span_s6956_r1) (.seq (.reg false slices_ContainsFunc_api_Span_api_Span_s6956_r2) .ret)
theorem slices_ContainsFunc_api_Span_api_Span_s6956_k:FnOk E 52 9 [.tmp 4] slices_ContainsFunc_api_Span_api_Span_s6956_c:=⟨⟨Go.Proofs.Tryd.f52,by kernel_rfl,by kernel_rfl,by kernel_rfl,by kernel_rfl,by kernel_rfl⟩,rfl,rfl⟩
noncomputable def slices_ContainsFunc_api_Span_api_Span_s6956 (a0:(List S_api_Span)) (a1:Int):Option (Bool):=Option.bind (slices_IndexFunc_api_Span_api_Span_s6956 a0 a1) (fun x1=>some (decide (x1≥0)))
theorem slices_ContainsFunc_api_Span_api_Span_s6956_ok (a0:(List S_api_Span)) (a1:Int):Ct E 52 [.fsl 2 (List.map c_S_api_Span a0),.fn 53 [.fptr [iv a1] 0]] (slices_ContainsFunc_api_Span_api_Span_s6956 a0 a1) (fun r:Bool=>bv r):=ct_intro (N:=9) (L:=slices_ContainsFunc_api_Span_api_Span_s6956_c) slices_ContainsFunc_api_Span_api_Span_s6956_k rfl (Nat.le_of_ble_eq_true rfl) (by kernel_rfl) (by
 unfold slices_ContainsFunc_api_Span_api_Span_s6956
 refine jS ⟨[V 0 (.fsl 2 (List.map c_S_api_Span a0)),V 1 (.fn 53 [.fptr [iv a1] 0])],[],0⟩ ?_
 refine jR ?_
 refine jG 0 2 ⟨[V 5 (.fsl 2 (List.map c_S_api_Span a0)),V 6 (.fn 53 [.fptr [iv a1] 0])],[],0⟩ ?_
 refine jK 2 (slices_IndexFunc_api_Span_api_Span_s6956_ok a0 a1) ?_
 intro x1 h1
 refine jG 3 2 ⟨[V 4 (bv (decide (x1≥0)))],[],0⟩ ?_
 refine jN ?_
 refine jc_ret ?_
 exact jx_retF (.inr rfl) (v:=bv (decide (x1≥0))) (by kernel_rfl) rfl (fle_refl _))
abbrev ranks_Has_r1:List LO:=[lo 3 (.box 3 (.tmp 1)) 0,lo 4 (.assign (.const (.bool false))) 4]
abbrev ranks_Has_r2:List LO:=[lm 5 0 22,lo 6 (.makeFunc (Fn.func 53) #[] #[.tmp 3]) 56,lo 7 (.call ⟨.value (.func 52),#[.tmp 5,.tmp 6],#[22,56]⟩) 4,lo 4 (.assign (.tmp 7)) 4]
abbrev ranks_Has_c:LC:=.seq (.reg false ranks_Has_r1) (.seq (.reg false ranks_Has_r2) .ret)
theorem ranks_Has_k:FnOk E 28 8 [.tmp 4] ranks_Has_c:=⟨⟨Go.Proofs.Tryd.f28,by kernel_rfl,by kernel_rfl,by kernel_rfl,by kernel_rfl,by kernel_rfl⟩,rfl,rfl⟩
noncomputable def ranks_Has (a0:(List S_api_Span)) (a1:Int):Option (Bool):=Option.bind (slices_ContainsFunc_api_Span_api_Span_s6956 a0 a1) (fun x1=>some x1)
theorem ranks_Has_ok (a0:(List S_api_Span)) (a1:Int):Ct E 28 [.fsl 2 (List.map c_S_api_Span a0),iv a1] (ranks_Has a0 a1) (fun r:Bool=>bv r):=ct_intro (N:=8) (L:=ranks_Has_c) ranks_Has_k rfl (Nat.le_of_ble_eq_true rfl) (by kernel_rfl) (by
 unfold ranks_Has
 refine jS ⟨[V 0 (.fsl 2 (List.map c_S_api_Span a0)),V 3 (pt 0 1)],[W 0 1 [iv a1]],1⟩ ?_
 refine jR ?_
 refine jG 0 2 ⟨[V 5 (.fsl 2 (List.map c_S_api_Span a0)),V 6 (.fn 53 [pt 0 1])],[W 0 1 [iv a1]],1⟩ ?_
 refine jr_callF (i:=2) rfl rfl rfl rfl (vs:=[.fsl 2 (List.map c_S_api_Span a0),.fn 53 [pt 0 1]]) (vs0:=[.fsl 2 (List.map c_S_api_Span a0),.fn 53 [.fptr [iv a1] 0]]) (b:=true) (by kernel_rfl) (by kernel_rfl) (all2_cons (fle_refl _) (all2_cons (fle_refl _) all2_nil)) (slices_ContainsFunc_api_Span_api_Span_s6956_ok a0 a1) (fun _=>rfl) (fun _=>rfl) ?_
 intro x1 h1
 refine jG 3 1 ⟨[V 4 (bv x1)],[],1⟩ ?_
 refine jN ?_
 refine jc_ret ?_
 exact jx_retF (.inr rfl) (v:=bv x1) (by kernel_rfl) rfl (fle_refl _))
abbrev slices_Equal_api_Span_api_Span_r1:List LO:=[lo 4 (.assign (.const (.bool false))) 4]
abbrev slices_Equal_api_Span_api_Span_r2:List LO:=[lm 6 0 22,lo 7 (.call ⟨.builtin .len,#[.tmp 6],#[22]⟩) 3,lm 8 1 22,lo 9 (.call ⟨.builtin .len,#[.tmp 8],#[22]⟩) 3,lo 10 (.binOp .neq 3 (.tmp 7) (.tmp 9) 3) 4]
abbrev slices_Equal_api_Span_api_Span_r3:List LO:=[lo 4 (.assign (.const (.bool false))) 4]
abbrev slices_Equal_api_Span_api_Span_r4:List LO:=[lm 11 0 22,lo 12 (.call ⟨.builtin .len,#[.tmp 11],#[22]⟩) 3,lo 13 (.move (.const (.int .i64 0))) 3]
abbrev slices_Equal_api_Span_api_Span_r5:List LO:=[lo 14 (.binOp .lss 3 (.tmp 13) (.tmp 12) 3) 0]
abbrev slices_Equal_api_Span_api_Span_r6:List LO:=[lm 15 13 3,lo 5 (.assign (.tmp 15)) 3]
abbrev slices_Equal_api_Span_api_Span_r7:List LO:=[lm 16 0 22,lm 17 5 3,lo 18 (.indexAddr 22 (.tmp 16) (.tmp 17)) 0,lo 19 (.load 45 (.tmp 18)) 45,lm 20 1 22,lm 21 5 3,lo 22 (.indexAddr 22 (.tmp 20) (.tmp 21)) 0,lo 23 (.load 45 (.tmp 22)) 45,lo 24 (.binOp .neq 45 (.tmp 19) (.tmp 23) 45) 4]
abbrev slices_Equal_api_Span_api_Span_r8:List LO:=[lo 4 (.assign (.const (.bool false))) 4]
abbrev slices_Equal_api_Span_api_Span_r9:List LO:=[lo 25 (.binOp .add 3 (.tmp 13) (.const (.int .i64 1)) 3) 3,lm 13 25 3]
abbrev slices_Equal_api_Span_api_Span_r10:List LO:=[lo 4 (.assign (.const (.bool true))) 4]
abbrev slices_Equal_api_Span_api_Span_c:LC:=.seq (.reg false slices_Equal_api_Span_api_Span_r1) (.seq (.seq (.reg false slices_Equal_api_Span_api_Span_r2) (.cond (.tmp 10) (.seq (.reg false slices_Equal_api_Span_api_Span_r3) .ret) .skip)) (.seq (.seq (.reg false slices_Equal_api_Span_api_Span_r4) (.block 0 (.loop (.seq (.reg false slices_Equal_api_Span_api_Span_r5) (.seq (.cond (.tmp 14) .skip (.exit 0)) (.seq (.block 1 (.seq (.reg false slices_Equal_api_Span_api_Span_r6) (.seq (.reg true slices_Equal_api_Span_api_Span_r7) (.cond (.tmp 24) (.seq (.reg false slices_Equal_api_Span_api_Span_r8) .ret) .skip)))) (.reg false slices_Equal_api_Span_api_Span_r9))))))) (.seq (.reg false slices_Equal_api_Span_api_Span_r10) .ret)))
theorem slices_Equal_api_Span_api_Span_k:FnOk E 50 26 [.tmp 4] slices_Equal_api_Span_api_Span_c:=⟨⟨Go.Proofs.Tryd.f50,by kernel_rfl,by kernel_rfl,by kernel_rfl,by kernel_rfl,by kernel_rfl⟩,rfl,rfl⟩
noncomputable def slices_Equal_api_Span_api_Span_l1 (a0:(List S_api_Span)) (a1:(List S_api_Span)):Int→Option (Step (Int) ((Unit) ⊕ (Unit))):=fun x3=>(if (decide (x3 < (List.length a0:Int)))=true then Option.bind (ixl a0 x3) (fun x7=>Option.bind (ixl a1 x3) (fun x8=>(if (!((x7.Lo == x8.Lo) && (x7.Hi == x8.Hi)))=true then some (Step.done (Sum.inl ())) else some (Step.next (w64 (x3 + 1)))))) else some (Step.done (Sum.inr ())))
noncomputable def slices_Equal_api_Span_api_Span (a0:(List S_api_Span)) (a1:(List S_api_Span)):Option (Bool):=(if ((List.length a0:Int) != (List.length a1:Int))=true then some false else Option.bind (loopC (slices_Equal_api_Span_api_Span_l1 a0 a1) 0) (fun y=>match y with | Sum.inl _=>some false | Sum.inr _=>some true))
theorem slices_Equal_api_Span_api_Span_ok (a0:(List S_api_Span)) (a1:(List S_api_Span)):Ct E 50 [.fsl 2 (List.map c_S_api_Span a0),.fsl 2 (List.map c_S_api_Span a1)] (slices_Equal_api_Span_api_Span a0 a1) (fun r:Bool=>bv r):=ct_intro (N:=26) (L:=slices_Equal_api_Span_api_Span_c) slices_Equal_api_Span_api_Span_k rfl (Nat.le_of_ble_eq_true rfl) (by kernel_rfl) (by
 unfold slices_Equal_api_Span_api_Span
 refine jS ⟨[V 0 (.fsl 2 (List.map c_S_api_Span a0)),V 1 (.fsl 2 (List.map c_S_api_Span a1))],[],0⟩ ?_
 refine jc_seq ?_
 refine jR ?_
 refine jG 0 5 ⟨[V 0 (.fsl 2 (List.map c_S_api_Span a0)),V 1 (.fsl 2 (List.map c_S_api_Span a1)),V 10 (bv ((List.length (List.map c_S_api_Span a0):Int) != (List.length (List.map c_S_api_Span a1):Int)))],[],0⟩ ?_
 simp only[List.length_map]
 refine jN ?_
 refine jIf ?_ ?_
 ·refine jS ⟨[V 4 (bv false)],[],0⟩ ?_
  refine jc_ret ?_
  refine jx_seqR ?_
  exact jx_retF (.inr rfl) (v:=bv false) (by kernel_rfl) rfl (fle_refl _)
 refine jc_skip ?_
 refine jx_seqN ?_
 refine jc_seq ?_
 refine jR ?_
 refine jG 0 3 ⟨[V 0 (.fsl 2 (List.map c_S_api_Span a0)),V 1 (.fsl 2 (List.map c_S_api_Span a1)),V 12 (iv (List.length (List.map c_S_api_Span a0):Int)),V 13 (iv 0)],[],0⟩ ?_
 simp only[List.length_map]
 refine jN ?_
 refine jc_block ?_
 refine jc_bind (fun y=>match y with | Sum.inl _=>⟨[V 4 (bv false)],[],0⟩ | Sum.inr _=>⟨[],[],0⟩) (fun y=>match y with | Sum.inl _=>.ret | Sum.inr _=>(.exit 0)) (jc_loop (fun x3=>⟨[V 0 (.fsl 2 (List.map c_S_api_Span a0)),V 1 (.fsl 2 (List.map c_S_api_Span a1)),V 12 (iv (List.length a0:Int)),V 13 (iv x3)],[],0⟩) (wkR [] (fix_nil _) allp_nil) ?_) ?_
 ·intro x3
  unfold slices_Equal_api_Span_api_Span_l1
  refine jS ⟨[V 0 (.fsl 2 (List.map c_S_api_Span a0)),V 1 (.fsl 2 (List.map c_S_api_Span a1)),V 12 (iv (List.length a0:Int)),V 13 (iv x3),V 14 (bv (decide (x3 < (List.length a0:Int))))],[],0⟩ ?_
  refine jc_seq ?_
  refine jIf ?_ ?_
  ·refine jc_skip ?_
   refine jx_seqN ?_
   refine jc_seq ?_
   refine jc_block ?_
   refine jS ⟨[V 0 (.fsl 2 (List.map c_S_api_Span a0)),V 1 (.fsl 2 (List.map c_S_api_Span a1)),V 5 (iv x3),V 12 (iv (List.length a0:Int)),V 13 (iv x3)],[],0⟩ ?_
   refine jR ?_
   refine jG 0 2 ⟨[V 0 (.fsl 2 (List.map c_S_api_Span a0)),V 1 (.fsl 2 (List.map c_S_api_Span a1)),V 5 (iv x3),V 12 (iv (List.length a0:Int)),V 13 (iv x3),V 16 (.fsl 2 (List.map c_S_api_Span a0)),V 17 (iv x3)],[],0⟩ ?_
   refine jr_part (i:=2) (mo:=ixl a0 x3) rfl rfl rfl rfl (fun _ hc=>aop_ixf (c:=c_S_api_Span) (sz:=2) (e:=45) (kk:=.i64) (by kernel_rfl) (by kernel_rfl) (by kernel_rfl) (by kernel_rfl) hc) (fun _=>rfl) ?_
   intro x7 h7
   refine jG 3 3 ⟨[V 0 (.fsl 2 (List.map c_S_api_Span a0)),V 1 (.fsl 2 (List.map c_S_api_Span a1)),V 12 (iv (List.length a0:Int)),V 13 (iv x3),V 19 (.agg [iv x7.Lo,iv x7.Hi]),V 20 (.fsl 2 (List.map c_S_api_Span a1)),V 21 (iv x3)],[],0⟩ ?_
   refine jr_part (i:=6) (mo:=ixl a1 x3) rfl rfl rfl rfl (fun _ hc=>aop_ixf (c:=c_S_api_Span) (sz:=2) (e:=45) (kk:=.i64) (by kernel_rfl) (by kernel_rfl) (by kernel_rfl) (by kernel_rfl) hc) (fun _=>rfl) ?_
   intro x8 h8
   refine jG 7 2 ⟨[V 0 (.fsl 2 (List.map c_S_api_Span a0)),V 1 (.fsl 2 (List.map c_S_api_Span a1)),V 12 (iv (List.length a0:Int)),V 13 (iv x3),V 24 (bv (!((x7.Lo == x8.Lo) && (x7.Hi == x8.Hi))))],[],0⟩ ?_
   refine jN ?_
   refine jIf ?_ ?_
   ·refine jS ⟨[V 4 (bv false)],[],0⟩ ?_
    refine jc_ret ?_
    refine jx_blkR ?_
    refine jx_seqR ?_
    exact jx_done rfl nofun (wkR [] (fix_nil _) allp_nil)
   refine jc_skip ?_
   refine jx_blkN ?_
   refine jx_seqN ?_
   refine jT ⟨[V 0 (.fsl 2 (List.map c_S_api_Span a0)),V 1 (.fsl 2 (List.map c_S_api_Span a1)),V 12 (iv (List.length a0:Int)),V 13 (iv (w64 (x3 + 1)))],[],0⟩ ?_
   exact jx_next (wkR [] (fix_nil _) allp_nil)
  refine jc_exit ?_
  refine jx_seqE ?_
  exact jx_done rfl nofun (wkR [] (fix_nil _) allp_nil)
 rintro (_ | _)
 ·refine jx_blkR ?_
  refine jx_seqR ?_
  exact jx_retF (.inr rfl) (v:=bv false) (by kernel_rfl) rfl (fle_refl _)
 refine jx_blkE ?_
 refine jx_seqN ?_
 refine jS ⟨[V 4 (bv true)],[],0⟩ ?_
 refine jc_ret ?_
 exact jx_retF (.inr rfl) (v:=bv true) (by kernel_rfl) rfl (fle_refl _))
abbrev ranks_Same_r1:List LO:=[lo 4 (.assign (.const (.bool false))) 4]
abbrev ranks_Same_r2:List LO:=[lm 5 0 22,lm 6 1 22,lo 7 (.call ⟨.value (.func 50),#[.tmp 5,.tmp 6],#[22,22]⟩) 4,lo 4 (.assign (.tmp 7)) 4]
abbrev ranks_Same_c:LC:=.seq (.reg false ranks_Same_r1) (.seq (.reg false ranks_Same_r2) .ret)
theorem ranks_Same_k:FnOk E 22 8 [.tmp 4] ranks_Same_c:=⟨⟨Go.Proofs.Tryd.f22,by kernel_rfl,by kernel_rfl,by kernel_rfl,by kernel_rfl,by kernel_rfl⟩,rfl,rfl⟩
noncomputable def ranks_Same (a0:(List S_api_Span)) (a1:(List S_api_Span)):Option (Bool):=Option.bind (slices_Equal_api_Span_api_Span a0 a1) (fun x1=>some x1)
theorem ranks_Same_ok (a0:(List S_api_Span)) (a1:(List S_api_Span)):Ct E 22 [.fsl 2 (List.map c_S_api_Span a0),.fsl 2 (List.map c_S_api_Span a1)] (ranks_Same a0 a1) (fun r:Bool=>bv r):=ct_intro (N:=8) (L:=ranks_Same_c) ranks_Same_k rfl (Nat.le_of_ble_eq_true rfl) (by kernel_rfl) (by
 unfold ranks_Same
 refine jS ⟨[V 0 (.fsl 2 (List.map c_S_api_Span a0)),V 1 (.fsl 2 (List.map c_S_api_Span a1))],[],0⟩ ?_
 refine jR ?_
 refine jG 0 2 ⟨[V 5 (.fsl 2 (List.map c_S_api_Span a0)),V 6 (.fsl 2 (List.map c_S_api_Span a1))],[],0⟩ ?_
 refine jK 2 (slices_Equal_api_Span_api_Span_ok a0 a1) ?_
 intro x1 h1
 refine jG 3 1 ⟨[V 4 (bv x1)],[],0⟩ ?_
 refine jN ?_
 refine jc_ret ?_
 exact jx_retF (.inr rfl) (v:=bv x1) (by kernel_rfl) rfl (fle_refl _))
abbrev ranks_stretches_1_it_r1:List LO:=[lo 4 (.assign (.const (.slice none 0 0))) 31]
abbrev ranks_stretches_1_it_r2:List LO:=[lo 9 (.load 22 (.tmp 1)) 22,lo 10 (.load 22 (.tmp 2)) 22,lo 11 (.buildSlice 42 2 #[(0,.tmp 9),(1,.tmp 10)]) 42,lo 12 (.call ⟨.value (.func 68),#[.tmp 11],#[42]⟩) 22,lo 13 (.call ⟨.builtin .len,#[.tmp 12],#[22]⟩) 3,lo 14 (.move (.const (.int .i64 0))) 3]
abbrev ranks_stretches_1_it_r3:List LO:=[lo 15 (.binOp .lss 3 (.tmp 14) (.tmp 13) 3) 0]
abbrev ranks_stretches_1_it_r4:List LO:=[lo 16 (.indexAddr 22 (.tmp 12) (.tmp 14)) 0,lo 17 (.load 45 (.tmp 16)) 45,lo 6 (.alloc 45) 0,ln (.store 45 (.tmp 6) (.tmp 17)) 0]
abbrev ranks_stretches_1_it_r5:List LO:=[lm 18 4 31,lo 19 (.fieldAddr 45 (.tmp 6) 0) 0,lo 20 (.load 3 (.tmp 19)) 3,lo 21 (.fieldAddr 45 (.tmp 6) 1) 0,lo 22 (.load 3 (.tmp 21)) 3,lo 23 (.buildSlice 31 2 #[(0,.tmp 20),(1,.tmp 22)]) 31,lo 24 (.call ⟨.builtin .append,#[.tmp 18,.tmp 23],#[31,31]⟩) 31,lo 4 (.assign (.tmp 24)) 31]
abbrev ranks_stretches_1_it_r6:List LO:=[lo 25 (.binOp .add 3 (.tmp 14) (.const (.int .i64 1)) 3) 3,lm 14 25 3]
abbrev ranks_stretches_1_it_r7:List LO:=[lm 26 4 31,lo 27 (.call ⟨.value (.func 46),#[.tmp 26],#[31]⟩) 0]
abbrev ranks_stretches_1_it_r8:List LO:=[lm 28 4 31,lo 29 (.call ⟨.value (.func 47),#[.tmp 28],#[31]⟩) 31,lo 4 (.assign (.tmp 29)) 31]
abbrev ranks_stretches_1_it_r9:List LO:=[lo 7 (.assign (.const (.int .i64 1))) 3]
abbrev ranks_stretches_1_it_r10:List LO:=[lm 30 7 3,lm 31 4 31,lo 32 (.call ⟨.builtin .len,#[.tmp 31],#[31]⟩) 3,lo 33 (.binOp .lss 3 (.tmp 30) (.tmp 32) 3) 4]
abbrev ranks_stretches_1_it_r11:List LO:=[lm 36 4 31,lm 37 7 3,lo 38 (.binOp .sub 3 (.tmp 37) (.const (.int .i64 1)) 3) 3,lo 39 (.indexAddr 31 (.tmp 36) (.tmp 38)) 0,lo 40 (.load 3 (.tmp 39)) 3,lm 41 4 31,lm 42 7 3,lo 43 (.indexAddr 31 (.tmp 41) (.tmp 42)) 0,lo 44 (.load 3 (.tmp 43)) 3,lo 45 (.build 45 #[(0,.tmp 40),(1,.tmp 44)]) 45,lo 8 (.alloc 45) 0,ln (.store 45 (.tmp 8) (.tmp 45)) 0]
abbrev ranks_stretches_1_it_r12:List LO:=[lm 46 0 81,lo 47 (.load 45 (.tmp 8)) 45,lo 48 (.load 22 (.tmp 1)) 22,lo 49 (.fieldAddr 45 (.tmp 8) 0) 0,lo 50 (.load 3 (.tmp 49)) 3,lo 51 (.call ⟨.value (.func 28),#[.tmp 48,.tmp 50],#[22,3]⟩) 4,lo 52 (.load 22 (.tmp 2)) 22,lo 53 (.fieldAddr 45 (.tmp 8) 0) 0,lo 54 (.load 3 (.tmp 53)) 3,lo 55 (.call ⟨.value (.func 28),#[.tmp 52,.tmp 54],#[22,3]⟩) 4,lo 56 (.build 64 #[(0,.tmp 47),(1,.tmp 51),(2,.tmp 55)]) 64,lo 57 (.call ⟨.value (.tmp 46),#[.tmp 56],#[64]⟩) 4,lo 58 (.unOp .not 4 (.tmp 57)) 4]
abbrev ranks_stretches_1_it_r13:List LO:=[lm 34 7 3,lo 35 (.binOp .add 3 (.tmp 34) (.const (.int .i64 1)) 3) 3,lo 7 (.assign (.tmp 35)) 3]
noncomputable abbrev ranks_stretches_1_it_c:LC:=.seq (.reg false ranks_stretches_1_it_r1) (.seq (.seq (.reg false ranks_stretches_1_it_r2) (.block 0 (.loop (.seq (.reg false ranks_stretches_1_it_r3) (.seq (.cond (.tmp 15) .skip (.exit 0)) (.seq (.block 1 (.seq (.reg false ranks_stretches_1_it_r4) (.reg false ranks_stretches_1_it_r5))) (.reg false ranks_stretches_1_it_r6))))))) (.seq (.reg false ranks_stretches_1_it_r7) (.seq (.reg false ranks_stretches_1_it_r8) (.seq (.reg false ranks_stretches_1_it_r9) (.block 2 (.loop (.seq (.seq (.reg false ranks_stretches_1_it_r10) (.cond (.tmp 33) .skip (.exit 2))) (.seq (.block 3 (.seq (.full (regOps (codeSub (bodyOf Go.Proofs.Tryd.f67) [1,1,1,1,1,0,0,1,0,0,0]))) (.seq (.reg true ranks_stretches_1_it_r12) (.cond (.tmp 58) .ret .skip)))) (.reg false ranks_stretches_1_it_r13)))))))))
theorem ranks_stretches_1_it_k:FnOk E 67 59 [] ranks_stretches_1_it_c:=⟨⟨Go.Proofs.Tryd.f67,by kernel_rfl,by kernel_rfl,by kernel_rfl,by kernel_rfl,by kernel_rfl⟩,rfl,rfl⟩
abbrev ranks_Meet_1_r1:List LO:=[lo 4 (.assign (.const (.bool false))) 4]
abbrev ranks_Meet_1_r2:List LO:=[lm 5 0 4,lm 6 5 4,lmg 7 1 4 6 true,lo 8 (.pick (.tmp 6) (.tmp 7) (.const (.bool false))) 4,lo 4 (.assign (.tmp 8)) 4]
abbrev ranks_Meet_1_c:LC:=.seq (.reg false ranks_Meet_1_r1) (.seq (.reg false ranks_Meet_1_r2) .ret)
theorem ranks_Meet_1_k:FnOk E 41 9 [.tmp 4] ranks_Meet_1_c:=⟨⟨Go.Proofs.Tryd.f41,by kernel_rfl,by kernel_rfl,by kernel_rfl,by kernel_rfl,by kernel_rfl⟩,rfl,rfl⟩
noncomputable def ranks_Meet_1 (a0:Bool) (a1:Bool):Option (Bool):=some (a0 && a1)
theorem ranks_Meet_1_ok (a0:Bool) (a1:Bool):Ct E 41 [bv a0,bv a1] (ranks_Meet_1 a0 a1) (fun r:Bool=>bv r):=ct_intro (N:=9) (L:=ranks_Meet_1_c) ranks_Meet_1_k rfl (Nat.le_of_ble_eq_true rfl) (by kernel_rfl) (by
 unfold ranks_Meet_1
 refine jS ⟨[V 0 (bv a0),V 1 (bv a1)],[],0⟩ ?_
 refine jS ⟨[V 4 (bv (a0 && a1))],[],0⟩ ?_
 refine jc_ret ?_
 exact jx_retF (.inr rfl) (v:=bv (a0 && a1)) (by kernel_rfl) rfl (fle_refl _))
abbrev ranks_stretches_r1:List LO:=[lo 2 (.box 22 (.tmp 0)) 0,lo 3 (.box 22 (.tmp 1)) 0,lo 4 (.assign (.const .nilFunc)) 61]
abbrev ranks_stretches_r2:List LO:=[lo 5 (.makeFunc (Fn.func 67) #[] #[.tmp 2,.tmp 3]) 60,lo 4 (.assign (.tmp 5)) 61]
abbrev ranks_stretches_c:LC:=.seq (.reg false ranks_stretches_r1) (.seq (.reg false ranks_stretches_r2) .ret)
theorem ranks_stretches_k:FnOk E 56 6 [.tmp 4] ranks_stretches_c:=⟨⟨Go.Proofs.Tryd.f56,by kernel_rfl,by kernel_rfl,by kernel_rfl,by kernel_rfl,by kernel_rfl⟩,rfl,rfl⟩
noncomputable def ranks_stretches (a0:(List S_api_Span)) (a1:(List S_api_Span)):Option (List S_api_Span × List S_api_Span):=some (a0,a1)
theorem ranks_stretches_ok (a0:(List S_api_Span)) (a1:(List S_api_Span)):Ct E 56 [.fsl 2 (List.map c_S_api_Span a0),.fsl 2 (List.map c_S_api_Span a1)] (ranks_stretches a0 a1) (fun r:List S_api_Span × List S_api_Span=>.fn 67 [.fptr [.fsl 2 (List.map c_S_api_Span r.1)] 0,.fptr [.fsl 2 (List.map c_S_api_Span r.2)] 0]):=ct_intro (N:=6) (L:=ranks_stretches_c) ranks_stretches_k rfl (Nat.le_of_ble_eq_true rfl) (by kernel_rfl) (by
 unfold ranks_stretches
 refine jS ⟨[V 2 (pt 0 1),V 3 (pt 1 1)],[W 0 1 [.fsl 2 (List.map c_S_api_Span a0)],W 1 1 [.fsl 2 (List.map c_S_api_Span a1)]],2⟩ ?_
 refine jS ⟨[V 4 (.fn 67 [pt 0 1,pt 1 1])],[W 0 1 [.fsl 2 (List.map c_S_api_Span a0)],W 1 1 [.fsl 2 (List.map c_S_api_Span a1)]],2⟩ ?_
 refine jc_ret ?_
 exact jx_retF (.inr rfl) (v:=.fn 67 [pt 0 1,pt 1 1]) (u:=.fn 67 [.fptr [.fsl 2 (List.map c_S_api_Span a0)] 0,.fptr [.fsl 2 (List.map c_S_api_Span a1)] 0]) (q:=true) (by kernel_rfl) (by kernel_rfl) (fle_refl _))
abbrev slices_Grow_api_Span_api_Span_r1:List LO:=[lo 4 (.assign (.const (.slice none 0 0))) 22]
abbrev slices_Grow_api_Span_api_Span_r2:List LO:=[lm 5 1 3,lo 6 (.binOp .lss 3 (.tmp 5) (.const (.int .i64 0)) 3) 4]
abbrev slices_Grow_api_Span_api_Span_r3:List LO:=[lo 7 (.makeInterface 9 (.const (.string ⟨#[99,97,110,110,111,116,32,98,101,32,110,101,103,97,116,105,118,101]⟩))) 20,ln (.panic (.tmp 7)) 0]
abbrev slices_Grow_api_Span_api_Span_r4:List LO:=[lm 8 1 3,lm 9 0 22,lo 10 (.call ⟨.builtin .cap,#[.tmp 9],#[22]⟩) 3,lm 11 0 22,lo 12 (.call ⟨.builtin .len,#[.tmp 11],#[22]⟩) 3,lo 13 (.binOp .sub 3 (.tmp 10) (.tmp 12) 3) 3,lo 14 (.binOp .sub 3 (.tmp 8) (.tmp 13) 3) 3,lo 1 (.assign (.tmp 14)) 3]
abbrev slices_Grow_api_Span_api_Span_r5:List LO:=[lm 15 1 3,lo 16 (.binOp .gtr 3 (.tmp 15) (.const (.int .i64 0)) 3) 4]
abbrev slices_Grow_api_Span_api_Span_r6:List LO:=[lm 17 0 22,lm 18 0 22,lo 19 (.call ⟨.builtin .cap,#[.tmp 18],#[22]⟩) 3,lo 20 (.slice 22 (.tmp 17) none (some (.tmp 19)) none) 22,lm 21 1 3,lo 22 (.call ⟨.builtin .append,#[.tmp 20,.tmp 21],#[22,3]⟩) 22,lm 23 0 22,lo 24 (.call ⟨.builtin .len,#[.tmp 23],#[22]⟩) 3,lo 25 (.slice 22 (.tmp 22) none (some (.tmp 24)) none) 22,lo 0 (.assign (.tmp 25)) 22]
abbrev slices_Grow_api_Span_api_Span_r7:List LO:=[lm 26 0 22,lo 4 (.assign (.tmp 26)) 22]
abbrev slices_Grow_api_Span_api_Span_c:LC:=.seq (.reg false slices_Grow_api_Span_api_Span_r1) (.seq (.seq (.reg false slices_Grow_api_Span_api_Span_r2) (.cond (.tmp 6) (.reg false slices_Grow_api_Span_api_Span_r3) .skip)) (.seq (.seq (.reg false slices_Grow_api_Span_api_Span_r4) (.seq (.reg false slices_Grow_api_Span_api_Span_r5) (.cond (.tmp 16) (.reg false slices_Grow_api_Span_api_Span_r6) .skip))) (.seq (.reg false slices_Grow_api_Span_api_Span_r7) .ret)))
theorem slices_Grow_api_Span_api_Span_k:FnOk E 83 27 [.tmp 4] slices_Grow_api_Span_api_Span_c:=⟨⟨Go.Proofs.Tryd.f83,by kernel_rfl,by kernel_rfl,by kernel_rfl,by kernel_rfl,by kernel_rfl⟩,rfl,rfl⟩
abbrev slices_Grow_api_Span_api_Span_T (a0:Int) (r:List S_api_Span):CS:=⟨[V 4 (.osl 0 0 (List.length r) 2)],[(0,.rows 2 (List.map c_S_api_Span r))],1⟩
noncomputable def slices_Grow_api_Span_api_Span (a0:Int):Option (List S_api_Span):=Option.bind ((if (decide (a0 < 0))=true then none else some ()):Option (Unit)) (fun _=>Option.bind ((if (decide ((w64 (a0 - (w64 (0 - 0)))) > 0))=true then Option.bind (growO 16 (S_api_Span.mk 0 0) (w64 (a0 - (w64 (0 - 0))))) (fun x8=>Option.bind (subl x8 0 0) (fun x9=>some x9)) else some []):Option (List S_api_Span)) (fun x7=>some x7))
theorem slices_Grow_api_Span_api_Span_ok (a0:Int):CtM E 83 [nilS,iv a0] [] 0 (slices_Grow_api_Span_api_Span a0) (fun r:List S_api_Span=>.osl 0 0 (List.length r) 2) (fun r:List S_api_Span=>[(0,.rows 2 (List.map c_S_api_Span r))]) 1:=ctm_intro (N:=27) (L:=slices_Grow_api_Span_api_Span_c) slices_Grow_api_Span_api_Span_k rfl (Nat.le_of_ble_eq_true rfl) (fun F hF=>by
 unfold slices_Grow_api_Span_api_Span
 refine jS ⟨[V 0 (nilS),V 1 (iv a0)],[],0⟩ ?_
 refine jc_seq ?_
 refine jc_bind (fun _=>⟨[V 0 (nilS),V 1 (iv a0)],[],0⟩) (fun _=>.normal) ?_ ?_
 ·refine jS ⟨[V 0 (nilS),V 1 (iv a0),V 6 (bv (decide (a0 < 0)))],[],0⟩ ?_
  refine jIf ?_ ?_
  ·refine jc_reg ?_
   exact jr_none
  refine jc_skip ?_
  exact jx_mid rfl (wkR [] (fix_of hF (k:=0) rfl) allp_nil)
 intro _
 refine jx_seqN ?_
 refine jc_seq ?_
 refine jc_bind (fun x7=>⟨[V 0 (.osl 0 0 (List.length x7) 2)],[(0,.rows 2 (List.map c_S_api_Span x7))],1⟩) (fun x7=>.normal) ?_ ?_
 ·refine jS ⟨[V 0 (nilS),V 1 (iv (w64 (a0 - (w64 (0 - 0)))))],[],0⟩ ?_
  refine jS ⟨[V 0 (nilS),V 1 (iv (w64 (a0 - (w64 (0 - 0))))),V 16 (bv (decide ((w64 (a0 - (w64 (0 - 0)))) > 0)))],[],0⟩ ?_
  refine jIf ?_ ?_
  ·refine jc_reg ?_
   refine jG 0 5 ⟨[V 0 (nilS),V 20 (nilS),V 21 (iv (w64 (a0 - (w64 (0 - 0)))))],[],0⟩ ?_
   refine jr_part (i:=5) (mo:=growO 16 (S_api_Span.mk 0 0) (w64 (a0 - (w64 (0 - 0))))) rfl rfl rfl rfl (fun _ hc=>aop_grow (c:=c_S_api_Span) (zv:=(S_api_Span.mk 0 0)) (e:=45) (sz:=2) (b:=16) (k:=.i64) (kk:=.i64) (by kernel_rfl) (by kernel_rfl) (by kernel_rfl) (by kernel_rfl) (by kernel_rfl) (by kernel_rfl) (by kernel_rfl) (by kernel_rfl) hc) (fun _=>rfl) ?_
   intro x8 h8
   refine jG 6 2 ⟨[V 22 (.osl 0 0 (List.length x8) 2),V 24 (iv 0)],[(0,.rows 2 (List.map c_S_api_Span x8))],1⟩ ?_
   refine jr_part (i:=8) (mo:=subl x8 0 0) rfl rfl rfl rfl (fun _ hc=>aop_subo (l:=x8) (e:=45) (id:=0) (off:=0) (sz:=2) (by kernel_rfl) (by kernel_rfl) (by kernel_rfl) (by kernel_rfl) (by kernel_rfl) hc) (fun _=>rfl) ?_
   intro x9 h9
   refine jr_root (d:=25) (j:=0) (k:=0 + Int.toNat 0) (len:=List.length x9) (sz:=2) (rows:=List.map c_S_api_Span x8) (rows':=List.map c_S_api_Span x9) (by kernel_rfl) (by kernel_rfl) (subl_kle h9) (subl_rows0 h9) ?_
   refine jG 9 1 ⟨[V 0 (.osl 1 0 (List.length x9) 2)],[(1,.rows 2 (List.map c_S_api_Span x9))],2⟩ ?_
   refine jr_nil rfl ?_
   exact jx_mid rfl (wkR [(0,some 1)] (fix_of hF (k:=0) rfl) (pc (hL 1 (noid_map ni_S_api_Span _)) allp_nil))
  refine jc_skip ?_
  exact jx_mid rfl (wkR [(0,none)] (fix_of hF (k:=0) rfl) (pc hZ allp_nil))
 intro x7
 refine jx_seqN ?_
 refine jS ⟨[V 4 (.osl 0 0 (List.length x7) 2)],[(0,.rows 2 (List.map c_S_api_Span x7))],1⟩ ?_
 refine jc_ret ?_
 exact jx_retM (slices_Grow_api_Span_api_Span_T a0 x7) (.inr rfl) (wkR [(0,some 0)] (fix_of hF (k:=0) rfl) (pc (hL 0 (noid_map ni_S_api_Span _)) allp_nil)))
abbrev slices_Concat_api_Span_api_Span_r1:List LO:=[lo 2 (.assign (.const (.slice none 0 0))) 22]
abbrev slices_Concat_api_Span_api_Span_r2:List LO:=[lo 3 (.assign (.const (.int .i64 0))) 3]
abbrev slices_Concat_api_Span_api_Span_r3:List LO:=[lm 9 0 42,lo 10 (.call ⟨.builtin .len,#[.tmp 9],#[42]⟩) 3,lo 11 (.move (.const (.int .i64 0))) 3]
abbrev slices_Concat_api_Span_api_Span_r4:List LO:=[lo 12 (.binOp .lss 3 (.tmp 11) (.tmp 10) 3) 0]
abbrev slices_Concat_api_Span_api_Span_r5:List LO:=[lo 13 (.indexAddr 42 (.tmp 9) (.tmp 11)) 0,lo 14 (.load 22 (.tmp 13)) 22,lo 5 (.assign (.tmp 14)) 22]
abbrev slices_Concat_api_Span_api_Span_r6:List LO:=[lm 15 3 3,lm 16 5 22,lo 17 (.call ⟨.builtin .len,#[.tmp 16],#[22]⟩) 3,lo 18 (.binOp .add 3 (.tmp 15) (.tmp 17) 3) 3,lo 3 (.assign (.tmp 18)) 3]
abbrev slices_Concat_api_Span_api_Span_r7:List LO:=[lm 19 3 3,lo 20 (.binOp .lss 3 (.tmp 19) (.const (.int .i64 0)) 3) 4]
abbrev slices_Concat_api_Span_api_Span_r8:List LO:=[lo 21 (.makeInterface 9 (.const (.string ⟨#[108,101,110,32,111,117,116,32,111,102,32,114,97,110,103,101]⟩))) 20,ln (.panic (.tmp 21)) 0]
abbrev slices_Concat_api_Span_api_Span_r9:List LO:=[lo 22 (.binOp .add 3 (.tmp 11) (.const (.int .i64 1)) 3) 3,lm 11 22 3]
abbrev slices_Concat_api_Span_api_Span_r10:List LO:=[lm 23 3 3,lo 24 (.call ⟨.value (.func 83),#[.const (.slice none 0 0),.tmp 23],#[22,3]⟩) 22,lo 6 (.assign (.tmp 24)) 22]
abbrev slices_Concat_api_Span_api_Span_r11:List LO:=[lm 25 0 42,lo 26 (.call ⟨.builtin .len,#[.tmp 25],#[42]⟩) 3,lo 27 (.move (.const (.int .i64 0))) 3]
abbrev slices_Concat_api_Span_api_Span_r12:List LO:=[lo 28 (.binOp .lss 3 (.tmp 27) (.tmp 26) 3) 0]
abbrev slices_Concat_api_Span_api_Span_r13:List LO:=[lo 29 (.indexAddr 42 (.tmp 25) (.tmp 27)) 0,lo 30 (.load 22 (.tmp 29)) 22,lo 8 (.assign (.tmp 30)) 22]
abbrev slices_Concat_api_Span_api_Span_r14:List LO:=[lm 31 6 22,lm 32 8 22,lo 33 (.call ⟨.builtin .append,#[.tmp 31,.tmp 32],#[22,22]⟩) 22,lo 6 (.assign (.tmp 33)) 22]
abbrev slices_Concat_api_Span_api_Span_r15:List LO:=[lo 34 (.binOp .add 3 (.tmp 27) (.const (.int .i64 1)) 3) 3,lm 27 34 3]
abbrev slices_Concat_api_Span_api_Span_r16:List LO:=[lm 35 6 22,lo 2 (.assign (.tmp 35)) 22]
abbrev slices_Concat_api_Span_api_Span_c:LC:=.seq (.reg false slices_Concat_api_Span_api_Span_r1) (.seq (.reg false slices_Concat_api_Span_api_Span_r2) (.seq (.seq (.reg false slices_Concat_api_Span_api_Span_r3) (.block 0 (.loop (.seq (.reg false slices_Concat_api_Span_api_Span_r4) (.seq (.cond (.tmp 12) .skip (.exit 0)) (.seq (.block 1 (.seq (.reg false slices_Concat_api_Span_api_Span_r5) (.seq (.reg false slices_Concat_api_Span_api_Span_r6) (.seq (.reg false slices_Concat_api_Span_api_Span_r7) (.cond (.tmp 20) (.reg false slices_Concat_api_Span_api_Span_r8) .skip))))) (.reg false slices_Concat_api_Span_api_Span_r9))))))) (.seq (.reg false slices_Concat_api_Span_api_Span_r10) (.seq (.seq (.reg false slices_Concat_api_Span_api_Span_r11) (.block 2 (.loop (.seq (.reg false slices_Concat_api_Span_api_Span_r12) (.seq (.cond (.tmp 28) .skip (.exit 2)) (.seq (.block 3 (.seq (.reg false slices_Concat_api_Span_api_Span_r13) (.reg false slices_Concat_api_Span_api_Span_r14))) (.reg false slices_Concat_api_Span_api_Span_r15))))))) (.seq (.reg false slices_Concat_api_Span_api_Span_r16) .ret)))))
theorem slices_Concat_api_Span_api_Span_k:FnOk E 68 36 [.tmp 2] slices_Concat_api_Span_api_Span_c:=⟨⟨Go.Proofs.Tryd.f68,by kernel_rfl,by kernel_rfl,by kernel_rfl,by kernel_rfl,by kernel_rfl⟩,rfl,rfl⟩
noncomputable def slices_Concat_api_Span_api_Span_l1 (a0:List (List S_api_Span)):(Int × Int)→Option (Step (Int × Int) (Int)):=fun (x23,x24)=>(if (decide (x24 < (List.length a0:Int)))=true then Option.bind (Option.bind (ixl a0 x24) (fun x32=>(if (decide ((w64 (x23 + (List.length x32:Int))) < 0))=true then none else some (w64 (x23 + (List.length x32:Int))))):Option (Int)) (fun x31=>some (Step.next (x31,(w64 (x24 + 1))))) else some (Step.done x23))
noncomputable def slices_Concat_api_Span_api_Span_l2 (a0:List (List S_api_Span)):(List S_api_Span × Int)→Option (Step (List S_api_Span × Int) (List S_api_Span)):=fun (x36,x37)=>(if (decide (x37 < (List.length a0:Int)))=true then Option.bind (ixl a0 x37) (fun x43=>Option.bind (app 16 x36 x43) (fun x44=>some (Step.next (x44,(w64 (x37 + 1)))))) else some (Step.done x36))
abbrev slices_Concat_api_Span_api_Span_T (a0:List (List S_api_Span)) (r:List S_api_Span):CS:=⟨[V 2 (.osl 1 0 (List.length r) 2)],[(0,.rows 1 (List.map c_L45 a0)),(1,.rows 2 (List.map c_S_api_Span r))],2⟩
noncomputable def slices_Concat_api_Span_api_Span (a0:List (List S_api_Span)):Option (List S_api_Span):=Option.bind (loopC (slices_Concat_api_Span_api_Span_l1 a0) (0,0)) (fun x29=>Option.bind (slices_Grow_api_Span_api_Span x29) (fun x33=>Option.bind (loopC (slices_Concat_api_Span_api_Span_l2 a0) (x33,0)) (fun x42=>some x42)))
theorem slices_Concat_api_Span_api_Span_ok (a0:List (List S_api_Span)):CtM E 68 [.osl 0 0 (List.length a0) 1] [(0,.rows 1 (List.map c_L45 a0))] 1 (slices_Concat_api_Span_api_Span a0) (fun r:List S_api_Span=>.osl 1 0 (List.length r) 2) (fun r:List S_api_Span=>[(0,.rows 1 (List.map c_L45 a0)),(1,.rows 2 (List.map c_S_api_Span r))]) 2:=ctm_intro (N:=36) (L:=slices_Concat_api_Span_api_Span_c) slices_Concat_api_Span_api_Span_k rfl (Nat.le_of_ble_eq_true rfl) (fun F hF=>by
 unfold slices_Concat_api_Span_api_Span
 refine jS ⟨[V 0 (.osl 0 0 (List.length a0) 1)],[(0,.rows 1 (List.map c_L45 a0))],1⟩ ?_
 refine jS ⟨[V 0 (.osl 0 0 (List.length a0) 1),V 3 (iv 0)],[(0,.rows 1 (List.map c_L45 a0))],1⟩ ?_
 refine jc_seq ?_
 refine jS ⟨[V 0 (.osl 0 0 (List.length a0) 1),V 3 (iv 0),V 9 (.osl 0 0 (List.length a0) 1),V 10 (iv (List.length a0:Int)),V 11 (iv 0)],[(0,.rows 1 (List.map c_L45 a0))],1⟩ ?_
 refine jc_block ?_
 refine jc_bind (fun x29=>⟨[V 0 (.osl 0 0 (List.length a0) 1),V 3 (iv x29)],[(0,.rows 1 (List.map c_L45 a0))],1⟩) (fun x29=>(.exit 0)) (jc_loop (fun (x23,x24)=>⟨[V 0 (.osl 0 0 (List.length a0) 1),V 3 (iv x23),V 9 (.osl 0 0 (List.length a0) 1),V 10 (iv (List.length a0:Int)),V 11 (iv x24)],[(0,.rows 1 (List.map c_L45 a0))],1⟩) (wkR [(0,some 0)] (fix_of hF (k:=1) rfl) (pc (hL 0 (noid_map ni_L45 _)) allp_nil)) ?_) ?_
 ·rintro⟨x23,x24⟩
  unfold slices_Concat_api_Span_api_Span_l1
  refine jS ⟨[V 0 (.osl 0 0 (List.length a0) 1),V 3 (iv x23),V 9 (.osl 0 0 (List.length a0) 1),V 10 (iv (List.length a0:Int)),V 11 (iv x24),V 12 (bv (decide (x24 < (List.length a0:Int))))],[(0,.rows 1 (List.map c_L45 a0))],1⟩ ?_
  refine jc_seq ?_
  refine jIf ?_ ?_
  ·refine jc_skip ?_
   refine jx_seqN ?_
   refine jc_seq ?_
   refine jc_bind (fun x31=>⟨[V 0 (.osl 0 0 (List.length a0) 1),V 3 (iv x31),V 9 (.osl 0 0 (List.length a0) 1),V 10 (iv (List.length a0:Int)),V 11 (iv x24)],[(0,.rows 1 (List.map c_L45 a0))],1⟩) (fun x31=>.normal) ?_ ?_
   ·refine jc_block ?_
    refine jR ?_
    refine jr_part (i:=0) (mo:=ixl a0 x24) rfl rfl rfl rfl (fun _ hc=>aop_ixo0 (sz:=1) (e:=22) (kk:=.i64) (id:=0) (by kernel_rfl) (by kernel_rfl) (by kernel_rfl) (by kernel_rfl) hc) (fun _=>rfl) ?_
    intro x32 h32
    refine jr_one (i:=1) (v:=.fsl 2 (List.map c_S_api_Span x32)) rfl rfl rfl rfl (aop_ldo (l:=a0) (c:=c_L45) (id:=0) (k:=(Int.toNat x24)) (sz:=1) (off:=0) (a:=x32) (by kernel_rfl) (by kernel_rfl) (ixl_lt h32).2.2 (by kernel_rfl)) rfl ?_
    refine jG 2 1 ⟨[V 0 (.osl 0 0 (List.length a0) 1),V 3 (iv x23),V 5 (.fsl 2 (List.map c_S_api_Span x32)),V 9 (.osl 0 0 (List.length a0) 1),V 10 (iv (List.length a0:Int)),V 11 (iv x24)],[(0,.rows 1 (List.map c_L45 a0))],1⟩ ?_
    refine jN ?_
    refine jR ?_
    refine jG 0 5 ⟨[V 0 (.osl 0 0 (List.length a0) 1),V 3 (iv (w64 (x23 + (List.length (List.map c_S_api_Span x32):Int)))),V 9 (.osl 0 0 (List.length a0) 1),V 10 (iv (List.length a0:Int)),V 11 (iv x24)],[(0,.rows 1 (List.map c_L45 a0))],1⟩ ?_
    simp only[List.length_map]
    refine jN ?_
    refine jS ⟨[V 0 (.osl 0 0 (List.length a0) 1),V 3 (iv (w64 (x23 + (List.length x32:Int)))),V 9 (.osl 0 0 (List.length a0) 1),V 10 (iv (List.length a0:Int)),V 11 (iv x24),V 20 (bv (decide ((w64 (x23 + (List.length x32:Int))) < 0)))],[(0,.rows 1 (List.map c_L45 a0))],1⟩ ?_
    refine jIf ?_ ?_
    ·refine jc_reg ?_
     exact jr_none
    refine jc_skip ?_
    refine jx_blkN ?_
    exact jx_mid rfl (wkR [(0,some 0)] (fix_of hF (k:=1) rfl) (pc (hL 0 (noid_map ni_L45 _)) allp_nil))
   intro x31
   refine jx_seqN ?_
   refine jT ⟨[V 0 (.osl 0 0 (List.length a0) 1),V 3 (iv x31),V 9 (.osl 0 0 (List.length a0) 1),V 10 (iv (List.length a0:Int)),V 11 (iv (w64 (x24 + 1)))],[(0,.rows 1 (List.map c_L45 a0))],1⟩ ?_
   exact jx_next (wkR [(0,some 0)] (fix_of hF (k:=1) rfl) (pc (hL 0 (noid_map ni_L45 _)) allp_nil))
  refine jc_exit ?_
  refine jx_seqE ?_
  exact jx_done rfl nofun (wkR [(0,some 0)] (fix_of hF (k:=1) rfl) (pc (hL 0 (noid_map ni_L45 _)) allp_nil))
 intro x29
 refine jx_blkE ?_
 refine jx_seqN ?_
 refine jR ?_
 refine jG 0 1 ⟨[V 0 (.osl 0 0 (List.length a0) 1),V 23 (iv x29)],[(0,.rows 1 (List.map c_L45 a0))],1⟩ ?_
 refine jr_callM 1 [] [(1,some 0)] (fun r:List S_api_Span=>[(0,.rows 1 (List.map c_L45 a0)),(1,.rows 2 (List.map c_S_api_Span r))]) (fun r:List S_api_Span=>.osl 1 0 (List.length r) 2) 2 (slices_Grow_api_Span_api_Span_ok x29) allp_nil (fun r=>(pc (.inl ⟨rfl,rfl⟩) (pc (.inr (hL 0 (noid_map ni_S_api_Span _))) allp_nil))) ?_
 rintro x33 hm2
 refine jG 2 1 ⟨[V 0 (.osl 0 0 (List.length a0) 1),V 6 (.osl 1 0 (List.length x33) 2)],[(0,.rows 1 (List.map c_L45 a0)),(1,.rows 2 (List.map c_S_api_Span x33))],2⟩ ?_
 refine jN ?_
 refine jc_seq ?_
 refine jS ⟨[V 6 (.osl 1 0 (List.length x33) 2),V 25 (.osl 0 0 (List.length a0) 1),V 26 (iv (List.length a0:Int)),V 27 (iv 0)],[(0,.rows 1 (List.map c_L45 a0)),(1,.rows 2 (List.map c_S_api_Span x33))],2⟩ ?_
 refine jc_block ?_
 refine jc_bind (fun x42=>⟨[V 6 (.osl 1 0 (List.length x42) 2)],[(0,.rows 1 (List.map c_L45 a0)),(1,.rows 2 (List.map c_S_api_Span x42))],2⟩) (fun x42=>(.exit 2)) (jc_loop (fun (x36,x37)=>⟨[V 6 (.osl 1 0 (List.length x36) 2),V 25 (.osl 0 0 (List.length a0) 1),V 26 (iv (List.length a0:Int)),V 27 (iv x37)],[(0,.rows 1 (List.map c_L45 a0)),(1,.rows 2 (List.map c_S_api_Span x36))],2⟩) (wkR [(0,some 0),(1,some 1)] (fix_of hF (k:=1) rfl) (pc (hL 0 (noid_map ni_L45 _)) (pc (hL 1 (noid_map ni_S_api_Span _)) allp_nil))) ?_) ?_
 ·rintro⟨x36,x37⟩
  unfold slices_Concat_api_Span_api_Span_l2
  refine jS ⟨[V 6 (.osl 1 0 (List.length x36) 2),V 25 (.osl 0 0 (List.length a0) 1),V 26 (iv (List.length a0:Int)),V 27 (iv x37),V 28 (bv (decide (x37 < (List.length a0:Int))))],[(0,.rows 1 (List.map c_L45 a0)),(1,.rows 2 (List.map c_S_api_Span x36))],2⟩ ?_
  refine jc_seq ?_
  refine jIf ?_ ?_
  ·refine jc_skip ?_
   refine jx_seqN ?_
   refine jc_seq ?_
   refine jc_block ?_
   refine jR ?_
   refine jr_part (i:=0) (mo:=ixl a0 x37) rfl rfl rfl rfl (fun _ hc=>aop_ixo0 (sz:=1) (e:=22) (kk:=.i64) (id:=0) (by kernel_rfl) (by kernel_rfl) (by kernel_rfl) (by kernel_rfl) hc) (fun _=>rfl) ?_
   intro x43 h43
   refine jr_one (i:=1) (v:=.fsl 2 (List.map c_S_api_Span x43)) rfl rfl rfl rfl (aop_ldo (l:=a0) (c:=c_L45) (id:=0) (k:=(Int.toNat x37)) (sz:=1) (off:=0) (a:=x43) (by kernel_rfl) (by kernel_rfl) (ixl_lt h43).2.2 (by kernel_rfl)) rfl ?_
   refine jG 2 1 ⟨[V 6 (.osl 1 0 (List.length x36) 2),V 8 (.fsl 2 (List.map c_S_api_Span x43)),V 25 (.osl 0 0 (List.length a0) 1),V 26 (iv (List.length a0:Int)),V 27 (iv x37)],[(0,.rows 1 (List.map c_L45 a0)),(1,.rows 2 (List.map c_S_api_Span x36))],2⟩ ?_
   refine jN ?_
   refine jc_reg ?_
   refine jG 0 2 ⟨[V 25 (.osl 0 0 (List.length a0) 1),V 26 (iv (List.length a0:Int)),V 27 (iv x37),V 31 (.osl 1 0 (List.length x36) 2),V 32 (.fsl 2 (List.map c_S_api_Span x43))],[(0,.rows 1 (List.map c_L45 a0)),(1,.rows 2 (List.map c_S_api_Span x36))],2⟩ ?_
   refine jr_two (i:=2) (C:=x43=[]) (st1:=fun x44=>⟨[V 25 (.osl 0 0 (List.length a0) 1),V 26 (iv (List.length a0:Int)),V 27 (iv x37),V 33 (.osl 2 0 (List.length x44) 2)],[(0,.rows 1 (List.map c_L45 a0)),(2,.rows 2 (List.map c_S_api_Span x44))],3⟩) rfl rfl rfl rfl (fun q _ hc=>aop_app (u:=.osl 1 0 (List.length x36) 2) (w:=.fsl 2 (List.map c_S_api_Span x43)) (e:=45) (td:=.slice 45) (by kernel_rfl) (by kernel_rfl) (by kernel_rfl) (by kernel_rfl) (.inl ⟨_,rfl⟩) (appendOf_own (c:=c_S_api_Span) (sz:=2) (b:=16) (id:=1) (by kernel_rfl) (by kernel_rfl) rows_fsl q hc)) (fun q _ hc=>aop_app (u:=.osl 1 0 (List.length x36) 2) (w:=.fsl 2 (List.map c_S_api_Span x43)) (e:=45) (td:=.slice 45) (by kernel_rfl) (by kernel_rfl) (by kernel_rfl) (by kernel_rfl) (.inl ⟨_,rfl⟩) (appendOf_same (c:=c_S_api_Span) (sz:=2) (b:=16) (m:=x43) (by kernel_rfl) (.inr (.inr ⟨_,_,_,_,rfl⟩)) rows_fsl q)) (fun _=>rfl) (fun _=>rfl) (fun _=>wkR [(0,some 0),(2,some 2)] (fix_of hF (k:=1) rfl) (pc (hL 0 (noid_map ni_L45 _)) (pc (hL 2 (noid_map ni_S_api_Span _)) allp_nil))) (fun q _ hc=>by cases app_same q hc; exact wkR [(0,some 0),(2,some 1)] (fix_of hF (k:=1) rfl) (pc (hL 0 (noid_map ni_L45 _)) (pc (hL 1 (noid_map ni_S_api_Span _)) allp_nil))) ?_
   intro x44 h44
   refine jG 3 1 ⟨[V 6 (.osl 2 0 (List.length x44) 2),V 25 (.osl 0 0 (List.length a0) 1),V 26 (iv (List.length a0:Int)),V 27 (iv x37)],[(0,.rows 1 (List.map c_L45 a0)),(2,.rows 2 (List.map c_S_api_Span x44))],3⟩ ?_
   refine jr_nil rfl ?_
   refine jx_blkN ?_
   refine jx_seqN ?_
   refine jT ⟨[V 6 (.osl 2 0 (List.length x44) 2),V 25 (.osl 0 0 (List.length a0) 1),V 26 (iv (List.length a0:Int)),V 27 (iv (w64 (x37 + 1)))],[(0,.rows 1 (List.map c_L45 a0)),(2,.rows 2 (List.map c_S_api_Span x44))],3⟩ ?_
   exact jx_next (wkR [(0,some 0),(1,some 2)] (fix_of hF (k:=1) rfl) (pc (hL 0 (noid_map ni_L45 _)) (pc (hL 2 (noid_map ni_S_api_Span _)) allp_nil)))
  refine jc_exit ?_
  refine jx_seqE ?_
  exact jx_done rfl nofun (wkR [(0,some 0),(1,some 1)] (fix_of hF (k:=1) rfl) (pc (hL 0 (noid_map ni_L45 _)) (pc (hL 1 (noid_map ni_S_api_Span _)) allp_nil)))
 intro x42
 refine jx_blkE ?_
 refine jx_seqN ?_
 refine jS ⟨[V 2 (.osl 1 0 (List.length x42) 2)],[(0,.rows 1 (List.map c_L45 a0)),(1,.rows 2 (List.map c_S_api_Span x42))],2⟩ ?_
 refine jc_ret ?_
 exact jx_retM (slices_Concat_api_Span_api_Span_T a0 x42) (.inr rfl) (wkR [(0,some 0),(1,some 1)] (fix_of hF (k:=1) rfl) (pc (hL 0 (noid_map ni_L45 _)) (pc (hL 1 (noid_map ni_S_api_Span _)) allp_nil))))
abbrev ranks_kept_sda67_r1:List LO:=[lo 5 (.box 47 (.tmp 2)) 0,lo 6 (.assign (.const (.slice none 0 0))) 22]
abbrev ranks_kept_sda67_r2:List LO:=[lo 7 (.alloc 22) 0]
abbrev ranks_kept_sda67_r3:List LO:=[lm 9 0 22,lm 10 1 22,lo 11 (.call ⟨.value (.func 56),#[.tmp 9,.tmp 10],#[22,22]⟩) 61]
abbrev ranks_kept_sda67_r4:List LO:=[lo 8 (.alloc 64) 0,ln (.store 64 (.tmp 8) (.tmp 12)) 0]
abbrev ranks_kept_sda67_r5:List LO:=[lo 13 (.load 47 (.tmp 5)) 47,lo 14 (.fieldAddr 64 (.tmp 8) 1) 0,lo 15 (.load 4 (.tmp 14)) 4,lo 16 (.fieldAddr 64 (.tmp 8) 2) 0,lo 17 (.load 4 (.tmp 16)) 4,lo 18 (.call ⟨.value (.tmp 13),#[.tmp 15,.tmp 17],#[4,4]⟩) 4]
abbrev ranks_kept_sda67_r6:List LO:=[lo 19 (.load 22 (.tmp 7)) 22,lo 20 (.fieldAddr 64 (.tmp 8) 0) 0,lo 21 (.load 45 (.tmp 20)) 45,lo 22 (.call ⟨.value (.func 48),#[.tmp 19,.tmp 21],#[22,45]⟩) 22,ln (.store 22 (.tmp 7) (.tmp 22)) 0]
noncomputable def ranks_kept_sda67_y7_a0:Code:=codeSub (bodyOf Go.Proofs.Tryd.f39) [1,1,0,1,0,0]
theorem ranks_kept_sda67_y7_aw:lower E ranks_kept_sda67_y7_a0=some (.reg false ranks_kept_sda67_r4):=by kernel_rfl
noncomputable def ranks_kept_sda67_y7_b0:Code:=codeSub (bodyOf Go.Proofs.Tryd.f39) [1,1,0,1,0,1]
theorem ranks_kept_sda67_y7_bw:lower E ranks_kept_sda67_y7_b0=some (.block 1 (.seq (.reg false ranks_kept_sda67_r5) (.cond (.tmp 18) (.reg false ranks_kept_sda67_r6) .skip))):=by kernel_rfl
abbrev ranks_kept_sda67_r8:List LO:=[lo 23 (.load 22 (.tmp 7)) 22,lo 6 (.assign (.tmp 23)) 22]
noncomputable abbrev ranks_kept_sda67_c:LC:=.seq (.reg false ranks_kept_sda67_r1) (.seq (.reg false ranks_kept_sda67_r2) (.seq (.seq (.reg false ranks_kept_sda67_r3) (.block 0 (.rng (.tmp 11) [12] ranks_kept_sda67_y7_a0 ranks_kept_sda67_y7_b0))) (.seq (.reg false ranks_kept_sda67_r8) .ret)))
theorem ranks_kept_sda67_k:FnOk E 39 24 [.tmp 6] ranks_kept_sda67_c:=⟨⟨Go.Proofs.Tryd.f39,by kernel_rfl,by kernel_rfl,by kernel_rfl,by kernel_rfl,by kernel_rfl⟩,rfl,rfl⟩
noncomputable abbrev ranks_kept_sda67_lp1 (x1:List S_api_Span × List S_api_Span) (q:LoopState) (p:Option Code):AObj:=.loop { state:=q,pending:=p,tmps:=tl 24 [V 5 (pt 0 1),V 7 (pt 1 1),V 11 (.fn 67 [.fptr [.fsl 2 (List.map c_S_api_Span x1.1)] 0,.fptr [.fsl 2 (List.map c_S_api_Span x1.2)] 0])] none,params:=[12],assign:=ranks_kept_sda67_y7_a0,body:=ranks_kept_sda67_y7_b0 }
noncomputable def ranks_kept_sda67_l1 (x2:List S_api_Span):(List Int × Int)→Option (Step (List Int × Int) (List Int)):=fun (x5,x6)=>(if (decide (x6 < (List.length x2:Int)))=true then Option.bind (ixl x2 x6) (fun x12=>Option.bind (app 8 x5 [x12.Lo,x12.Hi]) (fun x13=>some (Step.next (x13,(w64 (x6 + 1)))))) else some (Step.done x5))
noncomputable def ranks_kept_sda67_l2 (x1:List S_api_Span × List S_api_Span) (x15:List Int):(Int × List S_api_Span)→Option (Step (Int × List S_api_Span) (List S_api_Span)):=fun (x23,x24)=>(if (decide (x23 < (List.length x15:Int)))=true then Option.bind (ixl x15 (w64 (x23 - 1))) (fun x35=>Option.bind (ixl x15 x23) (fun x36=>Option.bind (ranks_Has x1.1 x35) (fun x37=>Option.bind (ranks_Has x1.2 x35) (fun x38=>Option.bind (Option.bind (ranks_Meet_1 x37 x38) (fun x42=>(if x42=true then Option.bind (ranks_add_maa59 x24 x35 x36) (fun x43=>some x43) else some x24)):Option (List S_api_Span)) (fun x41=>some (Step.next ((w64 (x23 + 1)),x41))))))) else some (Step.done x24))
noncomputable def ranks_kept_sda67 (a0:(List S_api_Span)) (a1:(List S_api_Span)):Option ((List S_api_Span)):=Option.bind (ranks_stretches a0 a1) (fun x1=>Option.bind (slices_Concat_api_Span_api_Span [x1.1,x1.2]) (fun x2=>Option.bind (loopC (ranks_kept_sda67_l1 x2) ([],0)) (fun x11=>Option.bind (slices_SortI x11) (fun x14=>Option.bind (slices_CompactI x14) (fun x15=>Option.bind (loopC (ranks_kept_sda67_l2 x1 x15) (1,[])) (fun x34=>some x34))))))
theorem ranks_kept_sda67_ok (a0:(List S_api_Span)) (a1:(List S_api_Span)):Ct E 39 [.fsl 2 (List.map c_S_api_Span a0),.fsl 2 (List.map c_S_api_Span a1),.fn 41 []] (ranks_kept_sda67 a0 a1) (fun r:(List S_api_Span)=>.fsl 2 (List.map c_S_api_Span r)):=ct_intro (N:=24) (L:=ranks_kept_sda67_c) ranks_kept_sda67_k rfl (Nat.le_of_ble_eq_true rfl) (by kernel_rfl) (by
 unfold ranks_kept_sda67
 refine jS ⟨[V 0 (.fsl 2 (List.map c_S_api_Span a0)),V 1 (.fsl 2 (List.map c_S_api_Span a1)),V 5 (pt 0 1)],[W 0 1 [.fn 41 []]],1⟩ ?_
 refine jS ⟨[V 0 (.fsl 2 (List.map c_S_api_Span a0)),V 1 (.fsl 2 (List.map c_S_api_Span a1)),V 5 (pt 0 1),V 7 (pt 1 1)],[W 0 1 [.fn 41 []],W 1 1 [nilS]],2⟩ ?_
 refine jc_seq ?_
 refine jR ?_
 refine jG 0 2 ⟨[V 5 (pt 0 1),V 7 (pt 1 1),V 9 (.fsl 2 (List.map c_S_api_Span a0)),V 10 (.fsl 2 (List.map c_S_api_Span a1))],[W 0 1 [.fn 41 []],W 1 1 [nilS]],2⟩ ?_
 refine jK 2 (ranks_stretches_ok a0 a1) ?_
 intro x1 h1
 refine jN ?_
 refine jc_block ?_
 refine jc_keep [5,7,11] [0,1] (st1:=⟨[V 5 (pt 0 1),V 7 (pt 1 1),V 11 (.fn 67 [.fptr [.fsl 2 (List.map c_S_api_Span x1.1)] 0,.fptr [.fsl 2 (List.map c_S_api_Span x1.2)] 0])],[W 0 1 [.fn 41 []],W 1 1 [nilS]],2⟩) (by kernel_rfl) ?_
 refine jc_rng (g:=67) (caps:=[.fptr [.fsl 2 (List.map c_S_api_Span x1.1)] 0,.fptr [.fsl 2 (List.map c_S_api_Span x1.2)] 0]) (by kernel_rfl) ranks_stretches_1_it_k (Nat.le_of_ble_eq_true rfl) ?_
 intro F1 hc1
 refine jS ⟨[V 0 (.yld 2),V 1 (.fptr [.fsl 2 (List.map c_S_api_Span x1.1)] 0),V 2 (.fptr [.fsl 2 (List.map c_S_api_Span x1.2)] 0),V 4 (nilS)],[W 0 1 [.fn 41 []],W 1 1 [nilS],(2,ranks_kept_sda67_lp1 x1 .ready none)],3⟩ ?_
 refine jc_seq ?_
 refine jR ?_
 refine jG 0 3 ⟨[V 0 (.yld 2),V 1 (.fptr [.fsl 2 (List.map c_S_api_Span x1.1)] 0),V 2 (.fptr [.fsl 2 (List.map c_S_api_Span x1.2)] 0),V 4 (nilS),V 11 (.osl 3 0 (List.length [x1.1,x1.2]) 1)],[W 0 1 [.fn 41 []],W 1 1 [nilS],(2,ranks_kept_sda67_lp1 x1 .ready none),(3,.rows 1 (List.map c_L45 [x1.1,x1.2]))],4⟩ ?_
 refine jr_callM 3 [(0,some 3)] [(3,some 0),(4,some 1)] (fun r:List S_api_Span=>[W 0 1 [.fn 41 []],W 1 1 [nilS],(2,ranks_kept_sda67_lp1 x1 .ready none),(3,.rows 1 (List.map c_L45 [x1.1,x1.2])),(4,.rows 2 (List.map c_S_api_Span r))]) (fun r:List S_api_Span=>.osl 4 0 (List.length r) 2) 5 (slices_Concat_api_Span_api_Span_ok [x1.1,x1.2]) (pc (hL 3 (noid_map ni_L45 _)) allp_nil) (fun r=>(pc (.inl ⟨rfl,rfl⟩) (pc (.inl ⟨rfl,rfl⟩) (pc (.inl ⟨rfl,rfl⟩) (pc (.inr (hL 0 (noid_map ni_L45 _))) (pc (.inr (hL 1 (noid_map ni_S_api_Span _))) allp_nil)))))) ?_
 rintro x2 hm11
 refine jG 4 2 ⟨[V 0 (.yld 2),V 1 (.fptr [.fsl 2 (List.map c_S_api_Span x1.1)] 0),V 2 (.fptr [.fsl 2 (List.map c_S_api_Span x1.2)] 0),V 4 (nilS),V 12 (.osl 4 0 (List.length x2) 2),V 13 (iv (List.length x2:Int)),V 14 (iv 0)],[W 0 1 [.fn 41 []],W 1 1 [nilS],(2,ranks_kept_sda67_lp1 x1 .ready none),(4,.rows 2 (List.map c_S_api_Span x2))],5⟩ ?_
 refine jN ?_
 refine jc_block ?_
 refine jc_bind (fun x11=>⟨[V 0 (.yld 2),V 1 (.fptr [.fsl 2 (List.map c_S_api_Span x1.1)] 0),V 2 (.fptr [.fsl 2 (List.map c_S_api_Span x1.2)] 0),V 4 (.osl 3 0 (List.length x11) 1)],[W 0 1 [.fn 41 []],W 1 1 [nilS],(2,ranks_kept_sda67_lp1 x1 .ready none),(3,.rows 1 (List.map cI x11))],4⟩) (fun x11=>(.exit 0)) (jc_loop (fun (x5,x6)=>⟨[V 0 (.yld 2),V 1 (.fptr [.fsl 2 (List.map c_S_api_Span x1.1)] 0),V 2 (.fptr [.fsl 2 (List.map c_S_api_Span x1.2)] 0),V 4 (.osl 3 0 (List.length x5) 1),V 12 (.osl 4 0 (List.length x2) 2),V 13 (iv (List.length x2:Int)),V 14 (iv x6)],[W 0 1 [.fn 41 []],W 1 1 [nilS],(2,ranks_kept_sda67_lp1 x1 .ready none),(3,.rows 1 (List.map cI x5)),(4,.rows 2 (List.map c_S_api_Span x2))],5⟩) (wkR [(0,some 0),(1,some 1),(2,some 2),(3,none),(4,some 4)] (fix_of hc1.2.2 (k:=3) rfl) (pc (hC 0) (pc (hC 1) (pc (.inr (.inr ⟨2,_,_,rfl,rfl,rfl,by kernel_rfl⟩)) (pc hZ (pc (hL 4 (noid_map ni_S_api_Span _)) allp_nil)))))) ?_) ?_
 ·rintro⟨x5,x6⟩
  unfold ranks_kept_sda67_l1
  refine jS ⟨[V 0 (.yld 2),V 1 (.fptr [.fsl 2 (List.map c_S_api_Span x1.1)] 0),V 2 (.fptr [.fsl 2 (List.map c_S_api_Span x1.2)] 0),V 4 (.osl 3 0 (List.length x5) 1),V 12 (.osl 4 0 (List.length x2) 2),V 13 (iv (List.length x2:Int)),V 14 (iv x6),V 15 (bv (decide (x6 < (List.length x2:Int))))],[W 0 1 [.fn 41 []],W 1 1 [nilS],(2,ranks_kept_sda67_lp1 x1 .ready none),(3,.rows 1 (List.map cI x5)),(4,.rows 2 (List.map c_S_api_Span x2))],5⟩ ?_
  refine jc_seq ?_
  refine jIf ?_ ?_
  ·refine jc_skip ?_
   refine jx_seqN ?_
   refine jc_seq ?_
   refine jc_block ?_
   refine jR ?_
   refine jr_part (i:=0) (mo:=ixl x2 x6) rfl rfl rfl rfl (fun _ hc=>aop_ixo0 (sz:=2) (e:=45) (kk:=.i64) (id:=4) (by kernel_rfl) (by kernel_rfl) (by kernel_rfl) (by kernel_rfl) hc) (fun _=>rfl) ?_
   intro x12 h12
   refine jr_one (i:=1) (v:=.agg [iv x12.Lo,iv x12.Hi]) rfl rfl rfl rfl (aop_ldo (l:=x2) (c:=c_S_api_Span) (id:=4) (k:=(Int.toNat x6)) (sz:=2) (off:=0) (a:=x12) (by kernel_rfl) (by kernel_rfl) (ixl_lt h12).2.2 (by kernel_rfl)) rfl ?_
   refine jG 2 2 ⟨[V 0 (.yld 2),V 1 (.fptr [.fsl 2 (List.map c_S_api_Span x1.1)] 0),V 2 (.fptr [.fsl 2 (List.map c_S_api_Span x1.2)] 0),V 4 (.osl 3 0 (List.length x5) 1),V 6 (pt 5 2),V 12 (.osl 4 0 (List.length x2) 2),V 13 (iv (List.length x2:Int)),V 14 (iv x6)],[W 0 1 [.fn 41 []],W 1 1 [nilS],(2,ranks_kept_sda67_lp1 x1 .ready none),(3,.rows 1 (List.map cI x5)),(4,.rows 2 (List.map c_S_api_Span x2)),W 5 2 [iv x12.Lo,iv x12.Hi]],6⟩ ?_
   refine jN ?_
   refine jc_reg ?_
   refine jG 0 6 ⟨[V 0 (.yld 2),V 1 (.fptr [.fsl 2 (List.map c_S_api_Span x1.1)] 0),V 2 (.fptr [.fsl 2 (List.map c_S_api_Span x1.2)] 0),V 12 (.osl 4 0 (List.length x2) 2),V 13 (iv (List.length x2:Int)),V 14 (iv x6),V 18 (.osl 3 0 (List.length x5) 1),V 23 (.osl 6 0 (List.length [x12.Lo,x12.Hi]) 1)],[W 0 1 [.fn 41 []],W 1 1 [nilS],(2,ranks_kept_sda67_lp1 x1 .ready none),(3,.rows 1 (List.map cI x5)),(4,.rows 2 (List.map c_S_api_Span x2)),(6,.rows 1 (List.map cI [x12.Lo,x12.Hi]))],7⟩ ?_
   refine jr_part (i:=6) (mo:=app 8 x5 [x12.Lo,x12.Hi]) rfl rfl rfl rfl (fun _ hc=>aop_app (u:=.osl 3 0 (List.length x5) 1) (w:=.osl 6 0 (List.length [x12.Lo,x12.Hi]) 1) (e:=3) (td:=.slice 3) (by kernel_rfl) (by kernel_rfl) (by kernel_rfl) (by kernel_rfl) (.inl ⟨_,rfl⟩) (appendOf_own (c:=cI) (sz:=1) (b:=8) (id:=3) (by kernel_rfl) (by kernel_rfl) (rows_own (by kernel_rfl)) (List.cons_ne_nil _ _) hc)) (fun _=>rfl) ?_
   intro x13 h13
   refine jG 7 1 ⟨[V 0 (.yld 2),V 1 (.fptr [.fsl 2 (List.map c_S_api_Span x1.1)] 0),V 2 (.fptr [.fsl 2 (List.map c_S_api_Span x1.2)] 0),V 4 (.osl 7 0 (List.length x13) 1),V 12 (.osl 4 0 (List.length x2) 2),V 13 (iv (List.length x2:Int)),V 14 (iv x6)],[W 0 1 [.fn 41 []],W 1 1 [nilS],(2,ranks_kept_sda67_lp1 x1 .ready none),(4,.rows 2 (List.map c_S_api_Span x2)),(7,.rows 1 (List.map cI x13))],8⟩ ?_
   refine jr_nil rfl ?_
   refine jx_blkN ?_
   refine jx_seqN ?_
   refine jT ⟨[V 0 (.yld 2),V 1 (.fptr [.fsl 2 (List.map c_S_api_Span x1.1)] 0),V 2 (.fptr [.fsl 2 (List.map c_S_api_Span x1.2)] 0),V 4 (.osl 7 0 (List.length x13) 1),V 12 (.osl 4 0 (List.length x2) 2),V 13 (iv (List.length x2:Int)),V 14 (iv (w64 (x6 + 1)))],[W 0 1 [.fn 41 []],W 1 1 [nilS],(2,ranks_kept_sda67_lp1 x1 .ready none),(4,.rows 2 (List.map c_S_api_Span x2)),(7,.rows 1 (List.map cI x13))],8⟩ ?_
   exact jx_next (wkR [(0,some 0),(1,some 1),(2,some 2),(3,some 7),(4,some 4)] (fix_of hc1.2.2 (k:=3) rfl) (pc (hC 0) (pc (hC 1) (pc (.inr (.inr ⟨2,_,_,rfl,rfl,rfl,by kernel_rfl⟩)) (pc (hL 7 (noid_map ni_I _)) (pc (hL 4 (noid_map ni_S_api_Span _)) allp_nil))))))
  refine jc_exit ?_
  refine jx_seqE ?_
  exact jx_done rfl nofun (wkR [(0,some 0),(1,some 1),(2,some 2),(3,some 3)] (fix_of hc1.2.2 (k:=3) rfl) (pc (hC 0) (pc (hC 1) (pc (.inr (.inr ⟨2,_,_,rfl,rfl,rfl,by kernel_rfl⟩)) (pc (hL 3 (noid_map ni_I _)) allp_nil)))))
 intro x11
 refine jx_blkE ?_
 refine jx_seqN ?_
 refine jR ?_
 refine jG 0 1 ⟨[V 0 (.yld 2),V 1 (.fptr [.fsl 2 (List.map c_S_api_Span x1.1)] 0),V 2 (.fptr [.fsl 2 (List.map c_S_api_Span x1.2)] 0),V 4 (.osl 3 0 (List.length x11) 1),V 26 (.osl 3 0 (List.length x11) 1)],[W 0 1 [.fn 41 []],W 1 1 [nilS],(2,ranks_kept_sda67_lp1 x1 .ready none),(3,.rows 1 (List.map cI x11))],4⟩ ?_
 refine jr_callM 1 [(0,some 3)] [(3,some 0)] (fun r:List Int=>[W 0 1 [.fn 41 []],W 1 1 [nilS],(2,ranks_kept_sda67_lp1 x1 .ready none),(3,.rows 1 (List.map cI r))]) (fun r:List Int=>.tup []) 4 (slices_SortI_ok x11) (pc (hL 3 (noid_map ni_I _)) allp_nil) (fun r=>(pc (.inl ⟨rfl,rfl⟩) (pc (.inl ⟨rfl,rfl⟩) (pc (.inl ⟨rfl,rfl⟩) (pc (.inr (hL 0 (noid_map ni_I _))) allp_nil))))) ?_
 rintro x14 hm10
 try rw[← slices_SortI_len hm10]
 refine jN ?_
 refine jR ?_
 refine jG 0 1 ⟨[V 0 (.yld 2),V 1 (.fptr [.fsl 2 (List.map c_S_api_Span x1.1)] 0),V 2 (.fptr [.fsl 2 (List.map c_S_api_Span x1.2)] 0),V 28 (.osl 3 0 (List.length x14) 1)],[W 0 1 [.fn 41 []],W 1 1 [nilS],(2,ranks_kept_sda67_lp1 x1 .ready none),(3,.rows 1 (List.map cI x14))],4⟩ ?_
 refine jr_callM 1 [(0,some 3)] [(3,some 0)] (fun r:List Int=>[W 0 1 [.fn 41 []],W 1 1 [nilS],(2,ranks_kept_sda67_lp1 x1 .ready none),(3,.rows 1 (List.map cI r))]) (fun r:List Int=>.osl 3 0 (List.length r) 1) 4 (slices_CompactI_ok x14) (pc (hL 3 (noid_map ni_I _)) allp_nil) (fun r=>(pc (.inl ⟨rfl,rfl⟩) (pc (.inl ⟨rfl,rfl⟩) (pc (.inl ⟨rfl,rfl⟩) (pc (.inr (hL 0 (noid_map ni_I _))) allp_nil))))) ?_
 rintro x15 hm9
 refine jG 2 1 ⟨[V 0 (.yld 2),V 1 (.fptr [.fsl 2 (List.map c_S_api_Span x1.1)] 0),V 2 (.fptr [.fsl 2 (List.map c_S_api_Span x1.2)] 0),V 4 (.osl 3 0 (List.length x15) 1)],[W 0 1 [.fn 41 []],W 1 1 [nilS],(2,ranks_kept_sda67_lp1 x1 .ready none),(3,.rows 1 (List.map cI x15))],4⟩ ?_
 refine jN ?_
 refine jS ⟨[V 0 (.yld 2),V 1 (.fptr [.fsl 2 (List.map c_S_api_Span x1.1)] 0),V 2 (.fptr [.fsl 2 (List.map c_S_api_Span x1.2)] 0),V 4 (.osl 3 0 (List.length x15) 1),V 7 (iv 1)],[W 0 1 [.fn 41 []],W 1 1 [nilS],(2,ranks_kept_sda67_lp1 x1 .ready none),(3,.rows 1 (List.map cI x15))],4⟩ ?_
 refine jc_block ?_
 refine jc_bind (fun x34=>⟨[],[W 0 1 [.fn 41 []],W 1 1 [.osl 3 0 (List.length x34) 2],(2,ranks_kept_sda67_lp1 x1 .ready none),(3,.rows 2 (List.map c_S_api_Span x34))],4⟩) (fun x34=>(.exit 2)) (jc_loop (fun (x23,x24)=>⟨[V 0 (.yld 2),V 1 (.fptr [.fsl 2 (List.map c_S_api_Span x1.1)] 0),V 2 (.fptr [.fsl 2 (List.map c_S_api_Span x1.2)] 0),V 4 (.osl 3 0 (List.length x15) 1),V 7 (iv x23)],[W 0 1 [.fn 41 []],W 1 1 [.osl 4 0 (List.length x24) 2],(2,ranks_kept_sda67_lp1 x1 .ready none),(3,.rows 1 (List.map cI x15)),(4,.rows 2 (List.map c_S_api_Span x24))],5⟩) (wkR [(0,some 0),(1,some 1),(2,some 2),(3,some 3),(4,none)] (fix_of hc1.2.2 (k:=3) rfl) (pc (hC 0) (pc (hC 1) (pc (.inr (.inr ⟨2,_,_,rfl,rfl,rfl,by kernel_rfl⟩)) (pc (hL 3 (noid_map ni_I _)) (pc hZ allp_nil)))))) ?_) ?_
 ·rintro⟨x23,x24⟩
  unfold ranks_kept_sda67_l2
  refine jc_seq ?_
  refine jS ⟨[V 0 (.yld 2),V 1 (.fptr [.fsl 2 (List.map c_S_api_Span x1.1)] 0),V 2 (.fptr [.fsl 2 (List.map c_S_api_Span x1.2)] 0),V 4 (.osl 3 0 (List.length x15) 1),V 7 (iv x23),V 33 (bv (decide (x23 < (List.length x15:Int))))],[W 0 1 [.fn 41 []],W 1 1 [.osl 4 0 (List.length x24) 2],(2,ranks_kept_sda67_lp1 x1 .ready none),(3,.rows 1 (List.map cI x15)),(4,.rows 2 (List.map c_S_api_Span x24))],5⟩ ?_
  refine jIf ?_ ?_
  ·refine jc_skip ?_
   refine jx_seqN ?_
   refine jc_seq ?_
   refine jc_block ?_
   refine jc_seq ?_
   refine jc_full ranks_stretches_1_it_r11 [(39,8),(43,8)] ?_
   refine jG 0 3 ⟨[V 0 (.yld 2),V 1 (.fptr [.fsl 2 (List.map c_S_api_Span x1.1)] 0),V 2 (.fptr [.fsl 2 (List.map c_S_api_Span x1.2)] 0),V 4 (.osl 3 0 (List.length x15) 1),V 7 (iv x23),V 36 (.osl 3 0 (List.length x15) 1),V 38 (iv (w64 (x23 - 1)))],[W 0 1 [.fn 41 []],W 1 1 [.osl 4 0 (List.length x24) 2],(2,ranks_kept_sda67_lp1 x1 .ready none),(3,.rows 1 (List.map cI x15)),(4,.rows 2 (List.map c_S_api_Span x24))],5⟩ ?_
   refine jr_part (i:=3) (mo:=ixl x15 (w64 (x23 - 1))) rfl rfl rfl rfl (fun _ hc=>aop_ixo0 (sz:=1) (e:=3) (kk:=.i64) (id:=3) (by kernel_rfl) (by kernel_rfl) (by kernel_rfl) (by kernel_rfl) hc) (fun _=>rfl) ?_
   intro x35 h35
   refine jr_one (i:=4) (v:=iv x35) rfl rfl rfl rfl (aop_ldo (l:=x15) (c:=cI) (id:=3) (k:=(Int.toNat (w64 (x23 - 1)))) (sz:=1) (off:=0) (a:=x35) (by kernel_rfl) (by kernel_rfl) (ixl_lt h35).2.2 (by kernel_rfl)) rfl ?_
   refine jG 5 2 ⟨[V 0 (.yld 2),V 1 (.fptr [.fsl 2 (List.map c_S_api_Span x1.1)] 0),V 2 (.fptr [.fsl 2 (List.map c_S_api_Span x1.2)] 0),V 4 (.osl 3 0 (List.length x15) 1),V 7 (iv x23),V 39 (.ptr 3 (Int.toNat (w64 (x23 - 1))) 1 0),V 40 (iv x35),V 41 (.osl 3 0 (List.length x15) 1),V 42 (iv x23)],[W 0 1 [.fn 41 []],W 1 1 [.osl 4 0 (List.length x24) 2],(2,ranks_kept_sda67_lp1 x1 .ready none),(3,.rows 1 (List.map cI x15)),(4,.rows 2 (List.map c_S_api_Span x24))],5⟩ ?_
   refine jr_part (i:=7) (mo:=ixl x15 x23) rfl rfl rfl rfl (fun _ hc=>aop_ixo0 (sz:=1) (e:=3) (kk:=.i64) (id:=3) (by kernel_rfl) (by kernel_rfl) (by kernel_rfl) (by kernel_rfl) hc) (fun _=>rfl) ?_
   intro x36 h36
   refine jr_one (i:=8) (v:=iv x36) rfl rfl rfl rfl (aop_ldo (l:=x15) (c:=cI) (id:=3) (k:=(Int.toNat x23)) (sz:=1) (off:=0) (a:=x36) (by kernel_rfl) (by kernel_rfl) (ixl_lt h36).2.2 (by kernel_rfl)) rfl ?_
   refine jG 9 3 ⟨[V 0 (.yld 2),V 1 (.fptr [.fsl 2 (List.map c_S_api_Span x1.1)] 0),V 2 (.fptr [.fsl 2 (List.map c_S_api_Span x1.2)] 0),V 4 (.osl 3 0 (List.length x15) 1),V 7 (iv x23),V 8 (pt 5 2),V 39 (.ptr 3 (Int.toNat (w64 (x23 - 1))) 1 0),V 43 (.ptr 3 (Int.toNat x23) 1 0)],[W 0 1 [.fn 41 []],W 1 1 [.osl 4 0 (List.length x24) 2],(2,ranks_kept_sda67_lp1 x1 .ready none),(3,.rows 1 (List.map cI x15)),(4,.rows 2 (List.map c_S_api_Span x24)),W 5 2 [iv x35,iv x36]],6⟩ ?_
   refine jr_nil rfl ?_
   refine jx_full ?_
   refine jx_seqN ?_
   refine jR ?_
   refine jG 0 5 ⟨[V 0 (.yld 2),V 1 (.fptr [.fsl 2 (List.map c_S_api_Span x1.1)] 0),V 2 (.fptr [.fsl 2 (List.map c_S_api_Span x1.2)] 0),V 4 (.osl 3 0 (List.length x15) 1),V 7 (iv x23),V 8 (pt 5 2),V 46 (.yld 2),V 47 (.agg [iv x35,iv x36]),V 48 (.fsl 2 (List.map c_S_api_Span x1.1)),V 50 (iv x35)],[W 0 1 [.fn 41 []],W 1 1 [.osl 4 0 (List.length x24) 2],(2,ranks_kept_sda67_lp1 x1 .ready none),(3,.rows 1 (List.map cI x15)),(4,.rows 2 (List.map c_S_api_Span x24)),W 5 2 [iv x35,iv x36]],6⟩ ?_
   refine jK 5 (ranks_Has_ok x1.1 x35) ?_
   intro x37 h37
   refine jG 6 3 ⟨[V 0 (.yld 2),V 1 (.fptr [.fsl 2 (List.map c_S_api_Span x1.1)] 0),V 2 (.fptr [.fsl 2 (List.map c_S_api_Span x1.2)] 0),V 4 (.osl 3 0 (List.length x15) 1),V 7 (iv x23),V 46 (.yld 2),V 47 (.agg [iv x35,iv x36]),V 51 (bv x37),V 52 (.fsl 2 (List.map c_S_api_Span x1.2)),V 54 (iv x35)],[W 0 1 [.fn 41 []],W 1 1 [.osl 4 0 (List.length x24) 2],(2,ranks_kept_sda67_lp1 x1 .ready none),(3,.rows 1 (List.map cI x15)),(4,.rows 2 (List.map c_S_api_Span x24))],6⟩ ?_
   refine jK 9 (ranks_Has_ok x1.2 x35) ?_
   intro x38 h38
   refine jG 10 1 ⟨[V 0 (.yld 2),V 1 (.fptr [.fsl 2 (List.map c_S_api_Span x1.1)] 0),V 2 (.fptr [.fsl 2 (List.map c_S_api_Span x1.2)] 0),V 4 (.osl 3 0 (List.length x15) 1),V 7 (iv x23),V 46 (.yld 2),V 56 (.agg [iv x35,iv x36,bv x37,bv x38])],[W 0 1 [.fn 41 []],W 1 1 [.osl 4 0 (List.length x24) 2],(2,ranks_kept_sda67_lp1 x1 .ready none),(3,.rows 1 (List.map cI x15)),(4,.rows 2 (List.map c_S_api_Span x24))],6⟩ ?_
   refine jr_yield (i:=11) (l:=2) (Nc:=24) (Kc:=[V 5 (pt 0 1),V 7 (pt 1 1),V 11 (.fn 67 [.fptr [.fsl 2 (List.map c_S_api_Span x1.1)] 0,.fptr [.fsl 2 (List.map c_S_api_Span x1.2)] 0])]) (ps:=[12]) (vs:=[.agg [iv x35,iv x36,bv x37,bv x38]]) (fun x41=>⟨[],[W 0 1 [.fn 41 []],W 1 1 [.osl 6 0 (List.length x41) 2],(2,ranks_kept_sda67_lp1 x1 .busy none),(3,.rows 1 (List.map cI x15)),(6,.rows 2 (List.map c_S_api_Span x41))],7⟩) (fun x41=>.normal) [0,1,2,4,7,57] [0,1,2,3,6] (after:=(fun x41=>⟨[V 0 (.yld 2),V 1 (.fptr [.fsl 2 (List.map c_S_api_Span x1.1)] 0),V 2 (.fptr [.fsl 2 (List.map c_S_api_Span x1.2)] 0),V 4 (.osl 3 0 (List.length x15) 1),V 7 (iv x23),V 57 (bv true)],[W 0 1 [.fn 41 []],W 1 1 [.osl 6 0 (List.length x41) 2],(2,ranks_kept_sda67_lp1 x1 .ready none),(3,.rows 1 (List.map cI x15)),(6,.rows 2 (List.map c_S_api_Span x41))],7⟩)) rfl rfl ranks_kept_sda67_y7_aw ranks_kept_sda67_y7_bw (by kernel_rfl) (by kernel_rfl) (yctx_of hc1 rfl) rfl (by kernel_rfl) rfl ?_ (by intro x41 <;> exact⟨none,by kernel_rfl⟩) (by intro x41 <;> kernel_rfl) ?_
   ·intro F6 hy6
    refine jT ⟨[V 5 (pt 0 1),V 7 (pt 1 1),V 8 (pt 6 4)],[W 0 1 [.fn 41 []],W 1 1 [.osl 4 0 (List.length x24) 2],(2,ranks_kept_sda67_lp1 x1 .ready none),(3,.rows 1 (List.map cI x15)),(4,.rows 2 (List.map c_S_api_Span x24)),W 6 4 [iv x35,iv x36,bv x37,bv x38]],7⟩ ?_
    refine jx_asg hy6 rfl ?_
    refine jc_block ?_
    refine jR ?_
    refine jG 0 5 ⟨[V 7 (pt 1 1),V 8 (pt 6 4),V 13 (.fn 41 []),V 15 (bv x37),V 17 (bv x38)],[W 0 1 [.fn 41 []],W 1 1 [.osl 4 0 (List.length x24) 2],(2,ranks_kept_sda67_lp1 x1 .busy none),(3,.rows 1 (List.map cI x15)),(4,.rows 2 (List.map c_S_api_Span x24)),W 6 4 [iv x35,iv x36,bv x37,bv x38]],7⟩ ?_
    refine jr_callV (i:=5) rfl rfl rfl rfl (g:=41) (caps:=[]) (avs:=[bv x37,bv x38]) (vs:=[bv x37,bv x38]) (by kernel_rfl) (by kernel_rfl) rfl (snapL_cons rfl (snapL_cons rfl (snapL_nil _))) (all2_cons (fle_refl _) (all2_cons (fle_refl _) all2_nil)) (ranks_Meet_1_ok x37 x38) (fun _=>rfl) (fun _=>rfl) ?_
    intro x42 h42
    refine jN ?_
    refine jIf ?_ ?_
    ·refine jc_reg ?_
     refine jG 0 3 ⟨[V 7 (pt 1 1),V 19 (.osl 4 0 (List.length x24) 2),V 21 (.agg [iv x35,iv x36])],[W 0 1 [.fn 41 []],W 1 1 [.osl 4 0 (List.length x24) 2],(2,ranks_kept_sda67_lp1 x1 .busy none),(3,.rows 1 (List.map cI x15)),(4,.rows 2 (List.map c_S_api_Span x24))],7⟩ ?_
     refine jr_callM 3 [(0,some 4)] [(7,some 1)] (fun r:List S_api_Span=>[W 0 1 [.fn 41 []],W 1 1 [.osl 4 0 (List.length x24) 2],(2,ranks_kept_sda67_lp1 x1 .busy none),(3,.rows 1 (List.map cI x15)),(7,.rows 2 (List.map c_S_api_Span r))]) (fun r:List S_api_Span=>.osl 7 0 (List.length r) 2) 8 (ranks_add_maa59_ok x24 x35 x36) (pc (hL 4 (noid_map ni_S_api_Span _)) allp_nil) (fun r=>(pc (.inl ⟨rfl,rfl⟩) (pc (.inl ⟨rfl,rfl⟩) (pc (.inl ⟨rfl,rfl⟩) (pc (.inl ⟨rfl,rfl⟩) (pc (.inr (hL 1 (noid_map ni_S_api_Span _))) allp_nil)))))) ?_
     rintro x43 hm8
     refine jG 4 1 ⟨[],[W 0 1 [.fn 41 []],W 1 1 [.osl 7 0 (List.length x43) 2],(2,ranks_kept_sda67_lp1 x1 .busy none),(3,.rows 1 (List.map cI x15)),(7,.rows 2 (List.map c_S_api_Span x43))],8⟩ ?_
     refine jr_nil rfl ?_
     refine jx_blkN ?_
     exact jx_mid rfl (wkR [(0,some 0),(1,some 1),(2,some 2),(3,some 3),(4,some 4),(5,some 5),(6,some 7)] (fix_of hy6.2 (k:=6) rfl) (pc (hC 0) (pc (hC 1) (pc (.inr (.inr ⟨2,_,_,rfl,rfl,rfl,by kernel_rfl⟩)) (pc (hL 3 (noid_map ni_I _)) (pc (hL 7 (noid_map ni_S_api_Span _)) allp_nil))))))
    refine jc_skip ?_
    refine jx_blkN ?_
    exact jx_mid rfl (wkR [(0,some 0),(1,some 1),(2,some 2),(3,some 3),(4,some 4),(5,some 5),(6,some 4)] (fix_of hy6.2 (k:=6) rfl) (pc (hC 0) (pc (hC 1) (pc (.inr (.inr ⟨2,_,_,rfl,rfl,rfl,by kernel_rfl⟩)) (pc (hL 3 (noid_map ni_I _)) (pc (hL 4 (noid_map ni_S_api_Span _)) allp_nil))))))
   intro x41
   refine jG 12 1 ⟨[V 0 (.yld 2),V 1 (.fptr [.fsl 2 (List.map c_S_api_Span x1.1)] 0),V 2 (.fptr [.fsl 2 (List.map c_S_api_Span x1.2)] 0),V 4 (.osl 3 0 (List.length x15) 1),V 7 (iv x23),V 58 (bv false)],[W 0 1 [.fn 41 []],W 1 1 [.osl 6 0 (List.length x41) 2],(2,ranks_kept_sda67_lp1 x1 .ready none),(3,.rows 1 (List.map cI x15)),(6,.rows 2 (List.map c_S_api_Span x41))],7⟩ ?_
   refine jN ?_
   refine jc_condK (c:=false) (by kernel_rfl) ?_
   refine jc_skip ?_
   refine jx_blkN ?_
   refine jx_seqN ?_
   refine jT ⟨[V 0 (.yld 2),V 1 (.fptr [.fsl 2 (List.map c_S_api_Span x1.1)] 0),V 2 (.fptr [.fsl 2 (List.map c_S_api_Span x1.2)] 0),V 4 (.osl 3 0 (List.length x15) 1),V 7 (iv (w64 (x23 + 1)))],[W 0 1 [.fn 41 []],W 1 1 [.osl 6 0 (List.length x41) 2],(2,ranks_kept_sda67_lp1 x1 .ready none),(3,.rows 1 (List.map cI x15)),(6,.rows 2 (List.map c_S_api_Span x41))],7⟩ ?_
   exact jx_next (wkR [(0,some 0),(1,some 1),(2,some 2),(3,some 3),(4,some 6)] (fix_of hc1.2.2 (k:=3) rfl) (pc (hC 0) (pc (hC 1) (pc (.inr (.inr ⟨2,_,_,rfl,rfl,rfl,by kernel_rfl⟩)) (pc (hL 3 (noid_map ni_I _)) (pc (hL 6 (noid_map ni_S_api_Span _)) allp_nil))))))
  refine jc_exit ?_
  refine jx_seqE ?_
  exact jx_done rfl nofun (wkR [(0,some 0),(1,some 1),(2,some 2),(3,some 4)] (fix_of hc1.2.2 (k:=3) rfl) (pc (hC 0) (pc (hC 1) (pc (.inr (.inr ⟨2,_,_,rfl,rfl,rfl,by kernel_rfl⟩)) (pc (hL 4 (noid_map ni_S_api_Span _)) allp_nil)))))
 intro x34
 refine jx_blkE ?_
 refine jx_rng hc1 (.inl rfl) rfl nofun rfl ?_
 refine jx_blkN ?_
 refine jx_seqN ?_
 refine jS ⟨[V 6 (.osl 3 0 (List.length x34) 2)],[(3,.rows 2 (List.map c_S_api_Span x34))],4⟩ ?_
 refine jc_ret ?_
 exact jx_retF (.inr rfl) (v:=.osl 3 0 (List.length x34) 2) (by kernel_rfl) (snapc_own fz_S_api_Span (by kernel_rfl)) (fle_refl _))
abbrev ranks_Meet_r1:List LO:=[lo 4 (.assign (.const (.slice none 0 0))) 22]
abbrev ranks_Meet_r2:List LO:=[lm 5 0 22,lm 6 1 22,lo 7 (.call ⟨.value (.func 39),#[.tmp 5,.tmp 6,.func 41],#[22,22,47]⟩) 22,lo 4 (.assign (.tmp 7)) 22]
abbrev ranks_Meet_c:LC:=.seq (.reg false ranks_Meet_r1) (.seq (.reg false ranks_Meet_r2) .ret)
theorem ranks_Meet_k:FnOk E 10 8 [.tmp 4] ranks_Meet_c:=⟨⟨Go.Proofs.Tryd.f10,by kernel_rfl,by kernel_rfl,by kernel_rfl,by kernel_rfl,by kernel_rfl⟩,rfl,rfl⟩
noncomputable def ranks_Meet (a0:(List S_api_Span)) (a1:(List S_api_Span)):Option ((List S_api_Span)):=Option.bind (ranks_kept_sda67 a0 a1) (fun x1=>some x1)
theorem ranks_Meet_ok (a0:(List S_api_Span)) (a1:(List S_api_Span)):Ct E 10 [.fsl 2 (List.map c_S_api_Span a0),.fsl 2 (List.map c_S_api_Span a1)] (ranks_Meet a0 a1) (fun r:(List S_api_Span)=>.fsl 2 (List.map c_S_api_Span r)):=ct_intro (N:=8) (L:=ranks_Meet_c) ranks_Meet_k rfl (Nat.le_of_ble_eq_true rfl) (by kernel_rfl) (by
 unfold ranks_Meet
 refine jS ⟨[V 0 (.fsl 2 (List.map c_S_api_Span a0)),V 1 (.fsl 2 (List.map c_S_api_Span a1))],[],0⟩ ?_
 refine jR ?_
 refine jG 0 2 ⟨[V 5 (.fsl 2 (List.map c_S_api_Span a0)),V 6 (.fsl 2 (List.map c_S_api_Span a1))],[],0⟩ ?_
 refine jK 2 (ranks_kept_sda67_ok a0 a1) ?_
 intro x1 h1
 refine jG 3 1 ⟨[V 4 (.fsl 2 (List.map c_S_api_Span x1))],[],0⟩ ?_
 refine jN ?_
 refine jc_ret ?_
 exact jx_retF (.inr rfl) (v:=.fsl 2 (List.map c_S_api_Span x1)) (by kernel_rfl) rfl (fle_refl _))
abbrev ranks_Minus_1_r1:List LO:=[lo 4 (.assign (.const (.bool false))) 4]
abbrev ranks_Minus_1_r2:List LO:=[lm 5 0 4,lm 6 5 4,lmg 7 1 4 6 true,lg 8 (.unOp .not 4 (.tmp 7)) 4 6 true,lo 9 (.pick (.tmp 6) (.tmp 8) (.const (.bool false))) 4,lo 4 (.assign (.tmp 9)) 4]
abbrev ranks_Minus_1_c:LC:=.seq (.reg false ranks_Minus_1_r1) (.seq (.reg false ranks_Minus_1_r2) .ret)
theorem ranks_Minus_1_k:FnOk E 42 10 [.tmp 4] ranks_Minus_1_c:=⟨⟨Go.Proofs.Tryd.f42,by kernel_rfl,by kernel_rfl,by kernel_rfl,by kernel_rfl,by kernel_rfl⟩,rfl,rfl⟩
noncomputable def ranks_Minus_1 (a0:Bool) (a1:Bool):Option (Bool):=some (a0 && (!a1))
theorem ranks_Minus_1_ok (a0:Bool) (a1:Bool):Ct E 42 [bv a0,bv a1] (ranks_Minus_1 a0 a1) (fun r:Bool=>bv r):=ct_intro (N:=10) (L:=ranks_Minus_1_c) ranks_Minus_1_k rfl (Nat.le_of_ble_eq_true rfl) (by kernel_rfl) (by
 unfold ranks_Minus_1
 refine jS ⟨[V 0 (bv a0),V 1 (bv a1)],[],0⟩ ?_
 refine jS ⟨[V 4 (bv (a0 && (!a1)))],[],0⟩ ?_
 refine jc_ret ?_
 exact jx_retF (.inr rfl) (v:=bv (a0 && (!a1))) (by kernel_rfl) rfl (fle_refl _))
abbrev ranks_kept_scc6c_r1:List LO:=[lo 5 (.box 47 (.tmp 2)) 0,lo 6 (.assign (.const (.slice none 0 0))) 22]
abbrev ranks_kept_scc6c_r2:List LO:=[lo 7 (.alloc 22) 0]
abbrev ranks_kept_scc6c_r3:List LO:=[lm 9 0 22,lm 10 1 22,lo 11 (.call ⟨.value (.func 56),#[.tmp 9,.tmp 10],#[22,22]⟩) 61]
abbrev ranks_kept_scc6c_r4:List LO:=[lo 8 (.alloc 64) 0,ln (.store 64 (.tmp 8) (.tmp 12)) 0]
abbrev ranks_kept_scc6c_r5:List LO:=[lo 13 (.load 47 (.tmp 5)) 47,lo 14 (.fieldAddr 64 (.tmp 8) 1) 0,lo 15 (.load 4 (.tmp 14)) 4,lo 16 (.fieldAddr 64 (.tmp 8) 2) 0,lo 17 (.load 4 (.tmp 16)) 4,lo 18 (.call ⟨.value (.tmp 13),#[.tmp 15,.tmp 17],#[4,4]⟩) 4]
abbrev ranks_kept_scc6c_r6:List LO:=[lo 19 (.load 22 (.tmp 7)) 22,lo 20 (.fieldAddr 64 (.tmp 8) 0) 0,lo 21 (.load 45 (.tmp 20)) 45,lo 22 (.call ⟨.value (.func 48),#[.tmp 19,.tmp 21],#[22,45]⟩) 22,ln (.store 22 (.tmp 7) (.tmp 22)) 0]
noncomputable def ranks_kept_scc6c_y7_a0:Code:=codeSub (bodyOf Go.Proofs.Tryd.f39) [1,1,0,1,0,0]
theorem ranks_kept_scc6c_y7_aw:lower E ranks_kept_scc6c_y7_a0=some (.reg false ranks_kept_scc6c_r4):=by kernel_rfl
noncomputable def ranks_kept_scc6c_y7_b0:Code:=codeSub (bodyOf Go.Proofs.Tryd.f39) [1,1,0,1,0,1]
theorem ranks_kept_scc6c_y7_bw:lower E ranks_kept_scc6c_y7_b0=some (.block 1 (.seq (.reg false ranks_kept_scc6c_r5) (.cond (.tmp 18) (.reg false ranks_kept_scc6c_r6) .skip))):=by kernel_rfl
abbrev ranks_kept_scc6c_r8:List LO:=[lo 23 (.load 22 (.tmp 7)) 22,lo 6 (.assign (.tmp 23)) 22]
noncomputable abbrev ranks_kept_scc6c_c:LC:=.seq (.reg false ranks_kept_scc6c_r1) (.seq (.reg false ranks_kept_scc6c_r2) (.seq (.seq (.reg false ranks_kept_scc6c_r3) (.block 0 (.rng (.tmp 11) [12] ranks_kept_scc6c_y7_a0 ranks_kept_scc6c_y7_b0))) (.seq (.reg false ranks_kept_scc6c_r8) .ret)))
theorem ranks_kept_scc6c_k:FnOk E 39 24 [.tmp 6] ranks_kept_scc6c_c:=⟨⟨Go.Proofs.Tryd.f39,by kernel_rfl,by kernel_rfl,by kernel_rfl,by kernel_rfl,by kernel_rfl⟩,rfl,rfl⟩
noncomputable abbrev ranks_kept_scc6c_lp1 (x1:List S_api_Span × List S_api_Span) (q:LoopState) (p:Option Code):AObj:=.loop { state:=q,pending:=p,tmps:=tl 24 [V 5 (pt 0 1),V 7 (pt 1 1),V 11 (.fn 67 [.fptr [.fsl 2 (List.map c_S_api_Span x1.1)] 0,.fptr [.fsl 2 (List.map c_S_api_Span x1.2)] 0])] none,params:=[12],assign:=ranks_kept_scc6c_y7_a0,body:=ranks_kept_scc6c_y7_b0 }
noncomputable def ranks_kept_scc6c_l1 (x2:List S_api_Span):(List Int × Int)→Option (Step (List Int × Int) (List Int)):=fun (x5,x6)=>(if (decide (x6 < (List.length x2:Int)))=true then Option.bind (ixl x2 x6) (fun x12=>Option.bind (app 8 x5 [x12.Lo,x12.Hi]) (fun x13=>some (Step.next (x13,(w64 (x6 + 1)))))) else some (Step.done x5))
noncomputable def ranks_kept_scc6c_l2 (x1:List S_api_Span × List S_api_Span) (x15:List Int):(Int × List S_api_Span)→Option (Step (Int × List S_api_Span) (List S_api_Span)):=fun (x23,x24)=>(if (decide (x23 < (List.length x15:Int)))=true then Option.bind (ixl x15 (w64 (x23 - 1))) (fun x35=>Option.bind (ixl x15 x23) (fun x36=>Option.bind (ranks_Has x1.1 x35) (fun x37=>Option.bind (ranks_Has x1.2 x35) (fun x38=>Option.bind (Option.bind (ranks_Minus_1 x37 x38) (fun x42=>(if x42=true then Option.bind (ranks_add_maa59 x24 x35 x36) (fun x43=>some x43) else some x24)):Option (List S_api_Span)) (fun x41=>some (Step.next ((w64 (x23 + 1)),x41))))))) else some (Step.done x24))
noncomputable def ranks_kept_scc6c (a0:(List S_api_Span)) (a1:(List S_api_Span)):Option ((List S_api_Span)):=Option.bind (ranks_stretches a0 a1) (fun x1=>Option.bind (slices_Concat_api_Span_api_Span [x1.1,x1.2]) (fun x2=>Option.bind (loopC (ranks_kept_scc6c_l1 x2) ([],0)) (fun x11=>Option.bind (slices_SortI x11) (fun x14=>Option.bind (slices_CompactI x14) (fun x15=>Option.bind (loopC (ranks_kept_scc6c_l2 x1 x15) (1,[])) (fun x34=>some x34))))))
theorem ranks_kept_scc6c_ok (a0:(List S_api_Span)) (a1:(List S_api_Span)):Ct E 39 [.fsl 2 (List.map c_S_api_Span a0),.fsl 2 (List.map c_S_api_Span a1),.fn 42 []] (ranks_kept_scc6c a0 a1) (fun r:(List S_api_Span)=>.fsl 2 (List.map c_S_api_Span r)):=ct_intro (N:=24) (L:=ranks_kept_scc6c_c) ranks_kept_scc6c_k rfl (Nat.le_of_ble_eq_true rfl) (by kernel_rfl) (by
 unfold ranks_kept_scc6c
 refine jS ⟨[V 0 (.fsl 2 (List.map c_S_api_Span a0)),V 1 (.fsl 2 (List.map c_S_api_Span a1)),V 5 (pt 0 1)],[W 0 1 [.fn 42 []]],1⟩ ?_
 refine jS ⟨[V 0 (.fsl 2 (List.map c_S_api_Span a0)),V 1 (.fsl 2 (List.map c_S_api_Span a1)),V 5 (pt 0 1),V 7 (pt 1 1)],[W 0 1 [.fn 42 []],W 1 1 [nilS]],2⟩ ?_
 refine jc_seq ?_
 refine jR ?_
 refine jG 0 2 ⟨[V 5 (pt 0 1),V 7 (pt 1 1),V 9 (.fsl 2 (List.map c_S_api_Span a0)),V 10 (.fsl 2 (List.map c_S_api_Span a1))],[W 0 1 [.fn 42 []],W 1 1 [nilS]],2⟩ ?_
 refine jK 2 (ranks_stretches_ok a0 a1) ?_
 intro x1 h1
 refine jN ?_
 refine jc_block ?_
 refine jc_keep [5,7,11] [0,1] (st1:=⟨[V 5 (pt 0 1),V 7 (pt 1 1),V 11 (.fn 67 [.fptr [.fsl 2 (List.map c_S_api_Span x1.1)] 0,.fptr [.fsl 2 (List.map c_S_api_Span x1.2)] 0])],[W 0 1 [.fn 42 []],W 1 1 [nilS]],2⟩) (by kernel_rfl) ?_
 refine jc_rng (g:=67) (caps:=[.fptr [.fsl 2 (List.map c_S_api_Span x1.1)] 0,.fptr [.fsl 2 (List.map c_S_api_Span x1.2)] 0]) (by kernel_rfl) ranks_stretches_1_it_k (Nat.le_of_ble_eq_true rfl) ?_
 intro F1 hc1
 refine jS ⟨[V 0 (.yld 2),V 1 (.fptr [.fsl 2 (List.map c_S_api_Span x1.1)] 0),V 2 (.fptr [.fsl 2 (List.map c_S_api_Span x1.2)] 0),V 4 (nilS)],[W 0 1 [.fn 42 []],W 1 1 [nilS],(2,ranks_kept_scc6c_lp1 x1 .ready none)],3⟩ ?_
 refine jc_seq ?_
 refine jR ?_
 refine jG 0 3 ⟨[V 0 (.yld 2),V 1 (.fptr [.fsl 2 (List.map c_S_api_Span x1.1)] 0),V 2 (.fptr [.fsl 2 (List.map c_S_api_Span x1.2)] 0),V 4 (nilS),V 11 (.osl 3 0 (List.length [x1.1,x1.2]) 1)],[W 0 1 [.fn 42 []],W 1 1 [nilS],(2,ranks_kept_scc6c_lp1 x1 .ready none),(3,.rows 1 (List.map c_L45 [x1.1,x1.2]))],4⟩ ?_
 refine jr_callM 3 [(0,some 3)] [(3,some 0),(4,some 1)] (fun r:List S_api_Span=>[W 0 1 [.fn 42 []],W 1 1 [nilS],(2,ranks_kept_scc6c_lp1 x1 .ready none),(3,.rows 1 (List.map c_L45 [x1.1,x1.2])),(4,.rows 2 (List.map c_S_api_Span r))]) (fun r:List S_api_Span=>.osl 4 0 (List.length r) 2) 5 (slices_Concat_api_Span_api_Span_ok [x1.1,x1.2]) (pc (hL 3 (noid_map ni_L45 _)) allp_nil) (fun r=>(pc (.inl ⟨rfl,rfl⟩) (pc (.inl ⟨rfl,rfl⟩) (pc (.inl ⟨rfl,rfl⟩) (pc (.inr (hL 0 (noid_map ni_L45 _))) (pc (.inr (hL 1 (noid_map ni_S_api_Span _))) allp_nil)))))) ?_
 rintro x2 hm11
 refine jG 4 2 ⟨[V 0 (.yld 2),V 1 (.fptr [.fsl 2 (List.map c_S_api_Span x1.1)] 0),V 2 (.fptr [.fsl 2 (List.map c_S_api_Span x1.2)] 0),V 4 (nilS),V 12 (.osl 4 0 (List.length x2) 2),V 13 (iv (List.length x2:Int)),V 14 (iv 0)],[W 0 1 [.fn 42 []],W 1 1 [nilS],(2,ranks_kept_scc6c_lp1 x1 .ready none),(4,.rows 2 (List.map c_S_api_Span x2))],5⟩ ?_
 refine jN ?_
 refine jc_block ?_
 refine jc_bind (fun x11=>⟨[V 0 (.yld 2),V 1 (.fptr [.fsl 2 (List.map c_S_api_Span x1.1)] 0),V 2 (.fptr [.fsl 2 (List.map c_S_api_Span x1.2)] 0),V 4 (.osl 3 0 (List.length x11) 1)],[W 0 1 [.fn 42 []],W 1 1 [nilS],(2,ranks_kept_scc6c_lp1 x1 .ready none),(3,.rows 1 (List.map cI x11))],4⟩) (fun x11=>(.exit 0)) (jc_loop (fun (x5,x6)=>⟨[V 0 (.yld 2),V 1 (.fptr [.fsl 2 (List.map c_S_api_Span x1.1)] 0),V 2 (.fptr [.fsl 2 (List.map c_S_api_Span x1.2)] 0),V 4 (.osl 3 0 (List.length x5) 1),V 12 (.osl 4 0 (List.length x2) 2),V 13 (iv (List.length x2:Int)),V 14 (iv x6)],[W 0 1 [.fn 42 []],W 1 1 [nilS],(2,ranks_kept_scc6c_lp1 x1 .ready none),(3,.rows 1 (List.map cI x5)),(4,.rows 2 (List.map c_S_api_Span x2))],5⟩) (wkR [(0,some 0),(1,some 1),(2,some 2),(3,none),(4,some 4)] (fix_of hc1.2.2 (k:=3) rfl) (pc (hC 0) (pc (hC 1) (pc (.inr (.inr ⟨2,_,_,rfl,rfl,rfl,by kernel_rfl⟩)) (pc hZ (pc (hL 4 (noid_map ni_S_api_Span _)) allp_nil)))))) ?_) ?_
 ·rintro⟨x5,x6⟩
  unfold ranks_kept_scc6c_l1
  refine jS ⟨[V 0 (.yld 2),V 1 (.fptr [.fsl 2 (List.map c_S_api_Span x1.1)] 0),V 2 (.fptr [.fsl 2 (List.map c_S_api_Span x1.2)] 0),V 4 (.osl 3 0 (List.length x5) 1),V 12 (.osl 4 0 (List.length x2) 2),V 13 (iv (List.length x2:Int)),V 14 (iv x6),V 15 (bv (decide (x6 < (List.length x2:Int))))],[W 0 1 [.fn 42 []],W 1 1 [nilS],(2,ranks_kept_scc6c_lp1 x1 .ready none),(3,.rows 1 (List.map cI x5)),(4,.rows 2 (List.map c_S_api_Span x2))],5⟩ ?_
  refine jc_seq ?_
  refine jIf ?_ ?_
  ·refine jc_skip ?_
   refine jx_seqN ?_
   refine jc_seq ?_
   refine jc_block ?_
   refine jR ?_
   refine jr_part (i:=0) (mo:=ixl x2 x6) rfl rfl rfl rfl (fun _ hc=>aop_ixo0 (sz:=2) (e:=45) (kk:=.i64) (id:=4) (by kernel_rfl) (by kernel_rfl) (by kernel_rfl) (by kernel_rfl) hc) (fun _=>rfl) ?_
   intro x12 h12
   refine jr_one (i:=1) (v:=.agg [iv x12.Lo,iv x12.Hi]) rfl rfl rfl rfl (aop_ldo (l:=x2) (c:=c_S_api_Span) (id:=4) (k:=(Int.toNat x6)) (sz:=2) (off:=0) (a:=x12) (by kernel_rfl) (by kernel_rfl) (ixl_lt h12).2.2 (by kernel_rfl)) rfl ?_
   refine jG 2 2 ⟨[V 0 (.yld 2),V 1 (.fptr [.fsl 2 (List.map c_S_api_Span x1.1)] 0),V 2 (.fptr [.fsl 2 (List.map c_S_api_Span x1.2)] 0),V 4 (.osl 3 0 (List.length x5) 1),V 6 (pt 5 2),V 12 (.osl 4 0 (List.length x2) 2),V 13 (iv (List.length x2:Int)),V 14 (iv x6)],[W 0 1 [.fn 42 []],W 1 1 [nilS],(2,ranks_kept_scc6c_lp1 x1 .ready none),(3,.rows 1 (List.map cI x5)),(4,.rows 2 (List.map c_S_api_Span x2)),W 5 2 [iv x12.Lo,iv x12.Hi]],6⟩ ?_
   refine jN ?_
   refine jc_reg ?_
   refine jG 0 6 ⟨[V 0 (.yld 2),V 1 (.fptr [.fsl 2 (List.map c_S_api_Span x1.1)] 0),V 2 (.fptr [.fsl 2 (List.map c_S_api_Span x1.2)] 0),V 12 (.osl 4 0 (List.length x2) 2),V 13 (iv (List.length x2:Int)),V 14 (iv x6),V 18 (.osl 3 0 (List.length x5) 1),V 23 (.osl 6 0 (List.length [x12.Lo,x12.Hi]) 1)],[W 0 1 [.fn 42 []],W 1 1 [nilS],(2,ranks_kept_scc6c_lp1 x1 .ready none),(3,.rows 1 (List.map cI x5)),(4,.rows 2 (List.map c_S_api_Span x2)),(6,.rows 1 (List.map cI [x12.Lo,x12.Hi]))],7⟩ ?_
   refine jr_part (i:=6) (mo:=app 8 x5 [x12.Lo,x12.Hi]) rfl rfl rfl rfl (fun _ hc=>aop_app (u:=.osl 3 0 (List.length x5) 1) (w:=.osl 6 0 (List.length [x12.Lo,x12.Hi]) 1) (e:=3) (td:=.slice 3) (by kernel_rfl) (by kernel_rfl) (by kernel_rfl) (by kernel_rfl) (.inl ⟨_,rfl⟩) (appendOf_own (c:=cI) (sz:=1) (b:=8) (id:=3) (by kernel_rfl) (by kernel_rfl) (rows_own (by kernel_rfl)) (List.cons_ne_nil _ _) hc)) (fun _=>rfl) ?_
   intro x13 h13
   refine jG 7 1 ⟨[V 0 (.yld 2),V 1 (.fptr [.fsl 2 (List.map c_S_api_Span x1.1)] 0),V 2 (.fptr [.fsl 2 (List.map c_S_api_Span x1.2)] 0),V 4 (.osl 7 0 (List.length x13) 1),V 12 (.osl 4 0 (List.length x2) 2),V 13 (iv (List.length x2:Int)),V 14 (iv x6)],[W 0 1 [.fn 42 []],W 1 1 [nilS],(2,ranks_kept_scc6c_lp1 x1 .ready none),(4,.rows 2 (List.map c_S_api_Span x2)),(7,.rows 1 (List.map cI x13))],8⟩ ?_
   refine jr_nil rfl ?_
   refine jx_blkN ?_
   refine jx_seqN ?_
   refine jT ⟨[V 0 (.yld 2),V 1 (.fptr [.fsl 2 (List.map c_S_api_Span x1.1)] 0),V 2 (.fptr [.fsl 2 (List.map c_S_api_Span x1.2)] 0),V 4 (.osl 7 0 (List.length x13) 1),V 12 (.osl 4 0 (List.length x2) 2),V 13 (iv (List.length x2:Int)),V 14 (iv (w64 (x6 + 1)))],[W 0 1 [.fn 42 []],W 1 1 [nilS],(2,ranks_kept_scc6c_lp1 x1 .ready none),(4,.rows 2 (List.map c_S_api_Span x2)),(7,.rows 1 (List.map cI x13))],8⟩ ?_
   exact jx_next (wkR [(0,some 0),(1,some 1),(2,some 2),(3,some 7),(4,some 4)] (fix_of hc1.2.2 (k:=3) rfl) (pc (hC 0) (pc (hC 1) (pc (.inr (.inr ⟨2,_,_,rfl,rfl,rfl,by kernel_rfl⟩)) (pc (hL 7 (noid_map ni_I _)) (pc (hL 4 (noid_map ni_S_api_Span _)) allp_nil))))))
  refine jc_exit ?_
  refine jx_seqE ?_
  exact jx_done rfl nofun (wkR [(0,some 0),(1,some 1),(2,some 2),(3,some 3)] (fix_of hc1.2.2 (k:=3) rfl) (pc (hC 0) (pc (hC 1) (pc (.inr (.inr ⟨2,_,_,rfl,rfl,rfl,by kernel_rfl⟩)) (pc (hL 3 (noid_map ni_I _)) allp_nil)))))
 intro x11
 refine jx_blkE ?_
 refine jx_seqN ?_
 refine jR ?_
 refine jG 0 1 ⟨[V 0 (.yld 2),V 1 (.fptr [.fsl 2 (List.map c_S_api_Span x1.1)] 0),V 2 (.fptr [.fsl 2 (List.map c_S_api_Span x1.2)] 0),V 4 (.osl 3 0 (List.length x11) 1),V 26 (.osl 3 0 (List.length x11) 1)],[W 0 1 [.fn 42 []],W 1 1 [nilS],(2,ranks_kept_scc6c_lp1 x1 .ready none),(3,.rows 1 (List.map cI x11))],4⟩ ?_
 refine jr_callM 1 [(0,some 3)] [(3,some 0)] (fun r:List Int=>[W 0 1 [.fn 42 []],W 1 1 [nilS],(2,ranks_kept_scc6c_lp1 x1 .ready none),(3,.rows 1 (List.map cI r))]) (fun r:List Int=>.tup []) 4 (slices_SortI_ok x11) (pc (hL 3 (noid_map ni_I _)) allp_nil) (fun r=>(pc (.inl ⟨rfl,rfl⟩) (pc (.inl ⟨rfl,rfl⟩) (pc (.inl ⟨rfl,rfl⟩) (pc (.inr (hL 0 (noid_map ni_I _))) allp_nil))))) ?_
 rintro x14 hm10
 try rw[← slices_SortI_len hm10]
 refine jN ?_
 refine jR ?_
 refine jG 0 1 ⟨[V 0 (.yld 2),V 1 (.fptr [.fsl 2 (List.map c_S_api_Span x1.1)] 0),V 2 (.fptr [.fsl 2 (List.map c_S_api_Span x1.2)] 0),V 28 (.osl 3 0 (List.length x14) 1)],[W 0 1 [.fn 42 []],W 1 1 [nilS],(2,ranks_kept_scc6c_lp1 x1 .ready none),(3,.rows 1 (List.map cI x14))],4⟩ ?_
 refine jr_callM 1 [(0,some 3)] [(3,some 0)] (fun r:List Int=>[W 0 1 [.fn 42 []],W 1 1 [nilS],(2,ranks_kept_scc6c_lp1 x1 .ready none),(3,.rows 1 (List.map cI r))]) (fun r:List Int=>.osl 3 0 (List.length r) 1) 4 (slices_CompactI_ok x14) (pc (hL 3 (noid_map ni_I _)) allp_nil) (fun r=>(pc (.inl ⟨rfl,rfl⟩) (pc (.inl ⟨rfl,rfl⟩) (pc (.inl ⟨rfl,rfl⟩) (pc (.inr (hL 0 (noid_map ni_I _))) allp_nil))))) ?_
 rintro x15 hm9
 refine jG 2 1 ⟨[V 0 (.yld 2),V 1 (.fptr [.fsl 2 (List.map c_S_api_Span x1.1)] 0),V 2 (.fptr [.fsl 2 (List.map c_S_api_Span x1.2)] 0),V 4 (.osl 3 0 (List.length x15) 1)],[W 0 1 [.fn 42 []],W 1 1 [nilS],(2,ranks_kept_scc6c_lp1 x1 .ready none),(3,.rows 1 (List.map cI x15))],4⟩ ?_
 refine jN ?_
 refine jS ⟨[V 0 (.yld 2),V 1 (.fptr [.fsl 2 (List.map c_S_api_Span x1.1)] 0),V 2 (.fptr [.fsl 2 (List.map c_S_api_Span x1.2)] 0),V 4 (.osl 3 0 (List.length x15) 1),V 7 (iv 1)],[W 0 1 [.fn 42 []],W 1 1 [nilS],(2,ranks_kept_scc6c_lp1 x1 .ready none),(3,.rows 1 (List.map cI x15))],4⟩ ?_
 refine jc_block ?_
 refine jc_bind (fun x34=>⟨[],[W 0 1 [.fn 42 []],W 1 1 [.osl 3 0 (List.length x34) 2],(2,ranks_kept_scc6c_lp1 x1 .ready none),(3,.rows 2 (List.map c_S_api_Span x34))],4⟩) (fun x34=>(.exit 2)) (jc_loop (fun (x23,x24)=>⟨[V 0 (.yld 2),V 1 (.fptr [.fsl 2 (List.map c_S_api_Span x1.1)] 0),V 2 (.fptr [.fsl 2 (List.map c_S_api_Span x1.2)] 0),V 4 (.osl 3 0 (List.length x15) 1),V 7 (iv x23)],[W 0 1 [.fn 42 []],W 1 1 [.osl 4 0 (List.length x24) 2],(2,ranks_kept_scc6c_lp1 x1 .ready none),(3,.rows 1 (List.map cI x15)),(4,.rows 2 (List.map c_S_api_Span x24))],5⟩) (wkR [(0,some 0),(1,some 1),(2,some 2),(3,some 3),(4,none)] (fix_of hc1.2.2 (k:=3) rfl) (pc (hC 0) (pc (hC 1) (pc (.inr (.inr ⟨2,_,_,rfl,rfl,rfl,by kernel_rfl⟩)) (pc (hL 3 (noid_map ni_I _)) (pc hZ allp_nil)))))) ?_) ?_
 ·rintro⟨x23,x24⟩
  unfold ranks_kept_scc6c_l2
  refine jc_seq ?_
  refine jS ⟨[V 0 (.yld 2),V 1 (.fptr [.fsl 2 (List.map c_S_api_Span x1.1)] 0),V 2 (.fptr [.fsl 2 (List.map c_S_api_Span x1.2)] 0),V 4 (.osl 3 0 (List.length x15) 1),V 7 (iv x23),V 33 (bv (decide (x23 < (List.length x15:Int))))],[W 0 1 [.fn 42 []],W 1 1 [.osl 4 0 (List.length x24) 2],(2,ranks_kept_scc6c_lp1 x1 .ready none),(3,.rows 1 (List.map cI x15)),(4,.rows 2 (List.map c_S_api_Span x24))],5⟩ ?_
  refine jIf ?_ ?_
  ·refine jc_skip ?_
   refine jx_seqN ?_
   refine jc_seq ?_
   refine jc_block ?_
   refine jc_seq ?_
   refine jc_full ranks_stretches_1_it_r11 [(39,8),(43,8)] ?_
   refine jG 0 3 ⟨[V 0 (.yld 2),V 1 (.fptr [.fsl 2 (List.map c_S_api_Span x1.1)] 0),V 2 (.fptr [.fsl 2 (List.map c_S_api_Span x1.2)] 0),V 4 (.osl 3 0 (List.length x15) 1),V 7 (iv x23),V 36 (.osl 3 0 (List.length x15) 1),V 38 (iv (w64 (x23 - 1)))],[W 0 1 [.fn 42 []],W 1 1 [.osl 4 0 (List.length x24) 2],(2,ranks_kept_scc6c_lp1 x1 .ready none),(3,.rows 1 (List.map cI x15)),(4,.rows 2 (List.map c_S_api_Span x24))],5⟩ ?_
   refine jr_part (i:=3) (mo:=ixl x15 (w64 (x23 - 1))) rfl rfl rfl rfl (fun _ hc=>aop_ixo0 (sz:=1) (e:=3) (kk:=.i64) (id:=3) (by kernel_rfl) (by kernel_rfl) (by kernel_rfl) (by kernel_rfl) hc) (fun _=>rfl) ?_
   intro x35 h35
   refine jr_one (i:=4) (v:=iv x35) rfl rfl rfl rfl (aop_ldo (l:=x15) (c:=cI) (id:=3) (k:=(Int.toNat (w64 (x23 - 1)))) (sz:=1) (off:=0) (a:=x35) (by kernel_rfl) (by kernel_rfl) (ixl_lt h35).2.2 (by kernel_rfl)) rfl ?_
   refine jG 5 2 ⟨[V 0 (.yld 2),V 1 (.fptr [.fsl 2 (List.map c_S_api_Span x1.1)] 0),V 2 (.fptr [.fsl 2 (List.map c_S_api_Span x1.2)] 0),V 4 (.osl 3 0 (List.length x15) 1),V 7 (iv x23),V 39 (.ptr 3 (Int.toNat (w64 (x23 - 1))) 1 0),V 40 (iv x35),V 41 (.osl 3 0 (List.length x15) 1),V 42 (iv x23)],[W 0 1 [.fn 42 []],W 1 1 [.osl 4 0 (List.length x24) 2],(2,ranks_kept_scc6c_lp1 x1 .ready none),(3,.rows 1 (List.map cI x15)),(4,.rows 2 (List.map c_S_api_Span x24))],5⟩ ?_
   refine jr_part (i:=7) (mo:=ixl x15 x23) rfl rfl rfl rfl (fun _ hc=>aop_ixo0 (sz:=1) (e:=3) (kk:=.i64) (id:=3) (by kernel_rfl) (by kernel_rfl) (by kernel_rfl) (by kernel_rfl) hc) (fun _=>rfl) ?_
   intro x36 h36
   refine jr_one (i:=8) (v:=iv x36) rfl rfl rfl rfl (aop_ldo (l:=x15) (c:=cI) (id:=3) (k:=(Int.toNat x23)) (sz:=1) (off:=0) (a:=x36) (by kernel_rfl) (by kernel_rfl) (ixl_lt h36).2.2 (by kernel_rfl)) rfl ?_
   refine jG 9 3 ⟨[V 0 (.yld 2),V 1 (.fptr [.fsl 2 (List.map c_S_api_Span x1.1)] 0),V 2 (.fptr [.fsl 2 (List.map c_S_api_Span x1.2)] 0),V 4 (.osl 3 0 (List.length x15) 1),V 7 (iv x23),V 8 (pt 5 2),V 39 (.ptr 3 (Int.toNat (w64 (x23 - 1))) 1 0),V 43 (.ptr 3 (Int.toNat x23) 1 0)],[W 0 1 [.fn 42 []],W 1 1 [.osl 4 0 (List.length x24) 2],(2,ranks_kept_scc6c_lp1 x1 .ready none),(3,.rows 1 (List.map cI x15)),(4,.rows 2 (List.map c_S_api_Span x24)),W 5 2 [iv x35,iv x36]],6⟩ ?_
   refine jr_nil rfl ?_
   refine jx_full ?_
   refine jx_seqN ?_
   refine jR ?_
   refine jG 0 5 ⟨[V 0 (.yld 2),V 1 (.fptr [.fsl 2 (List.map c_S_api_Span x1.1)] 0),V 2 (.fptr [.fsl 2 (List.map c_S_api_Span x1.2)] 0),V 4 (.osl 3 0 (List.length x15) 1),V 7 (iv x23),V 8 (pt 5 2),V 46 (.yld 2),V 47 (.agg [iv x35,iv x36]),V 48 (.fsl 2 (List.map c_S_api_Span x1.1)),V 50 (iv x35)],[W 0 1 [.fn 42 []],W 1 1 [.osl 4 0 (List.length x24) 2],(2,ranks_kept_scc6c_lp1 x1 .ready none),(3,.rows 1 (List.map cI x15)),(4,.rows 2 (List.map c_S_api_Span x24)),W 5 2 [iv x35,iv x36]],6⟩ ?_
   refine jK 5 (ranks_Has_ok x1.1 x35) ?_
   intro x37 h37
   refine jG 6 3 ⟨[V 0 (.yld 2),V 1 (.fptr [.fsl 2 (List.map c_S_api_Span x1.1)] 0),V 2 (.fptr [.fsl 2 (List.map c_S_api_Span x1.2)] 0),V 4 (.osl 3 0 (List.length x15) 1),V 7 (iv x23),V 46 (.yld 2),V 47 (.agg [iv x35,iv x36]),V 51 (bv x37),V 52 (.fsl 2 (List.map c_S_api_Span x1.2)),V 54 (iv x35)],[W 0 1 [.fn 42 []],W 1 1 [.osl 4 0 (List.length x24) 2],(2,ranks_kept_scc6c_lp1 x1 .ready none),(3,.rows 1 (List.map cI x15)),(4,.rows 2 (List.map c_S_api_Span x24))],6⟩ ?_
   refine jK 9 (ranks_Has_ok x1.2 x35) ?_
   intro x38 h38
   refine jG 10 1 ⟨[V 0 (.yld 2),V 1 (.fptr [.fsl 2 (List.map c_S_api_Span x1.1)] 0),V 2 (.fptr [.fsl 2 (List.map c_S_api_Span x1.2)] 0),V 4 (.osl 3 0 (List.length x15) 1),V 7 (iv x23),V 46 (.yld 2),V 56 (.agg [iv x35,iv x36,bv x37,bv x38])],[W 0 1 [.fn 42 []],W 1 1 [.osl 4 0 (List.length x24) 2],(2,ranks_kept_scc6c_lp1 x1 .ready none),(3,.rows 1 (List.map cI x15)),(4,.rows 2 (List.map c_S_api_Span x24))],6⟩ ?_
   refine jr_yield (i:=11) (l:=2) (Nc:=24) (Kc:=[V 5 (pt 0 1),V 7 (pt 1 1),V 11 (.fn 67 [.fptr [.fsl 2 (List.map c_S_api_Span x1.1)] 0,.fptr [.fsl 2 (List.map c_S_api_Span x1.2)] 0])]) (ps:=[12]) (vs:=[.agg [iv x35,iv x36,bv x37,bv x38]]) (fun x41=>⟨[],[W 0 1 [.fn 42 []],W 1 1 [.osl 6 0 (List.length x41) 2],(2,ranks_kept_scc6c_lp1 x1 .busy none),(3,.rows 1 (List.map cI x15)),(6,.rows 2 (List.map c_S_api_Span x41))],7⟩) (fun x41=>.normal) [0,1,2,4,7,57] [0,1,2,3,6] (after:=(fun x41=>⟨[V 0 (.yld 2),V 1 (.fptr [.fsl 2 (List.map c_S_api_Span x1.1)] 0),V 2 (.fptr [.fsl 2 (List.map c_S_api_Span x1.2)] 0),V 4 (.osl 3 0 (List.length x15) 1),V 7 (iv x23),V 57 (bv true)],[W 0 1 [.fn 42 []],W 1 1 [.osl 6 0 (List.length x41) 2],(2,ranks_kept_scc6c_lp1 x1 .ready none),(3,.rows 1 (List.map cI x15)),(6,.rows 2 (List.map c_S_api_Span x41))],7⟩)) rfl rfl ranks_kept_scc6c_y7_aw ranks_kept_scc6c_y7_bw (by kernel_rfl) (by kernel_rfl) (yctx_of hc1 rfl) rfl (by kernel_rfl) rfl ?_ (by intro x41 <;> exact⟨none,by kernel_rfl⟩) (by intro x41 <;> kernel_rfl) ?_
   ·intro F6 hy6
    refine jT ⟨[V 5 (pt 0 1),V 7 (pt 1 1),V 8 (pt 6 4)],[W 0 1 [.fn 42 []],W 1 1 [.osl 4 0 (List.length x24) 2],(2,ranks_kept_scc6c_lp1 x1 .ready none),(3,.rows 1 (List.map cI x15)),(4,.rows 2 (List.map c_S_api_Span x24)),W 6 4 [iv x35,iv x36,bv x37,bv x38]],7⟩ ?_
    refine jx_asg hy6 rfl ?_
    refine jc_block ?_
    refine jR ?_
    refine jG 0 5 ⟨[V 7 (pt 1 1),V 8 (pt 6 4),V 13 (.fn 42 []),V 15 (bv x37),V 17 (bv x38)],[W 0 1 [.fn 42 []],W 1 1 [.osl 4 0 (List.length x24) 2],(2,ranks_kept_scc6c_lp1 x1 .busy none),(3,.rows 1 (List.map cI x15)),(4,.rows 2 (List.map c_S_api_Span x24)),W 6 4 [iv x35,iv x36,bv x37,bv x38]],7⟩ ?_
    refine jr_callV (i:=5) rfl rfl rfl rfl (g:=42) (caps:=[]) (avs:=[bv x37,bv x38]) (vs:=[bv x37,bv x38]) (by kernel_rfl) (by kernel_rfl) rfl (snapL_cons rfl (snapL_cons rfl (snapL_nil _))) (all2_cons (fle_refl _) (all2_cons (fle_refl _) all2_nil)) (ranks_Minus_1_ok x37 x38) (fun _=>rfl) (fun _=>rfl) ?_
    intro x42 h42
    refine jN ?_
    refine jIf ?_ ?_
    ·refine jc_reg ?_
     refine jG 0 3 ⟨[V 7 (pt 1 1),V 19 (.osl 4 0 (List.length x24) 2),V 21 (.agg [iv x35,iv x36])],[W 0 1 [.fn 42 []],W 1 1 [.osl 4 0 (List.length x24) 2],(2,ranks_kept_scc6c_lp1 x1 .busy none),(3,.rows 1 (List.map cI x15)),(4,.rows 2 (List.map c_S_api_Span x24))],7⟩ ?_
     refine jr_callM 3 [(0,some 4)] [(7,some 1)] (fun r:List S_api_Span=>[W 0 1 [.fn 42 []],W 1 1 [.osl 4 0 (List.length x24) 2],(2,ranks_kept_scc6c_lp1 x1 .busy none),(3,.rows 1 (List.map cI x15)),(7,.rows 2 (List.map c_S_api_Span r))]) (fun r:List S_api_Span=>.osl 7 0 (List.length r) 2) 8 (ranks_add_maa59_ok x24 x35 x36) (pc (hL 4 (noid_map ni_S_api_Span _)) allp_nil) (fun r=>(pc (.inl ⟨rfl,rfl⟩) (pc (.inl ⟨rfl,rfl⟩) (pc (.inl ⟨rfl,rfl⟩) (pc (.inl ⟨rfl,rfl⟩) (pc (.inr (hL 1 (noid_map ni_S_api_Span _))) allp_nil)))))) ?_
     rintro x43 hm8
     refine jG 4 1 ⟨[],[W 0 1 [.fn 42 []],W 1 1 [.osl 7 0 (List.length x43) 2],(2,ranks_kept_scc6c_lp1 x1 .busy none),(3,.rows 1 (List.map cI x15)),(7,.rows 2 (List.map c_S_api_Span x43))],8⟩ ?_
     refine jr_nil rfl ?_
     refine jx_blkN ?_
     exact jx_mid rfl (wkR [(0,some 0),(1,some 1),(2,some 2),(3,some 3),(4,some 4),(5,some 5),(6,some 7)] (fix_of hy6.2 (k:=6) rfl) (pc (hC 0) (pc (hC 1) (pc (.inr (.inr ⟨2,_,_,rfl,rfl,rfl,by kernel_rfl⟩)) (pc (hL 3 (noid_map ni_I _)) (pc (hL 7 (noid_map ni_S_api_Span _)) allp_nil))))))
    refine jc_skip ?_
    refine jx_blkN ?_
    exact jx_mid rfl (wkR [(0,some 0),(1,some 1),(2,some 2),(3,some 3),(4,some 4),(5,some 5),(6,some 4)] (fix_of hy6.2 (k:=6) rfl) (pc (hC 0) (pc (hC 1) (pc (.inr (.inr ⟨2,_,_,rfl,rfl,rfl,by kernel_rfl⟩)) (pc (hL 3 (noid_map ni_I _)) (pc (hL 4 (noid_map ni_S_api_Span _)) allp_nil))))))
   intro x41
   refine jG 12 1 ⟨[V 0 (.yld 2),V 1 (.fptr [.fsl 2 (List.map c_S_api_Span x1.1)] 0),V 2 (.fptr [.fsl 2 (List.map c_S_api_Span x1.2)] 0),V 4 (.osl 3 0 (List.length x15) 1),V 7 (iv x23),V 58 (bv false)],[W 0 1 [.fn 42 []],W 1 1 [.osl 6 0 (List.length x41) 2],(2,ranks_kept_scc6c_lp1 x1 .ready none),(3,.rows 1 (List.map cI x15)),(6,.rows 2 (List.map c_S_api_Span x41))],7⟩ ?_
   refine jN ?_
   refine jc_condK (c:=false) (by kernel_rfl) ?_
   refine jc_skip ?_
   refine jx_blkN ?_
   refine jx_seqN ?_
   refine jT ⟨[V 0 (.yld 2),V 1 (.fptr [.fsl 2 (List.map c_S_api_Span x1.1)] 0),V 2 (.fptr [.fsl 2 (List.map c_S_api_Span x1.2)] 0),V 4 (.osl 3 0 (List.length x15) 1),V 7 (iv (w64 (x23 + 1)))],[W 0 1 [.fn 42 []],W 1 1 [.osl 6 0 (List.length x41) 2],(2,ranks_kept_scc6c_lp1 x1 .ready none),(3,.rows 1 (List.map cI x15)),(6,.rows 2 (List.map c_S_api_Span x41))],7⟩ ?_
   exact jx_next (wkR [(0,some 0),(1,some 1),(2,some 2),(3,some 3),(4,some 6)] (fix_of hc1.2.2 (k:=3) rfl) (pc (hC 0) (pc (hC 1) (pc (.inr (.inr ⟨2,_,_,rfl,rfl,rfl,by kernel_rfl⟩)) (pc (hL 3 (noid_map ni_I _)) (pc (hL 6 (noid_map ni_S_api_Span _)) allp_nil))))))
  refine jc_exit ?_
  refine jx_seqE ?_
  exact jx_done rfl nofun (wkR [(0,some 0),(1,some 1),(2,some 2),(3,some 4)] (fix_of hc1.2.2 (k:=3) rfl) (pc (hC 0) (pc (hC 1) (pc (.inr (.inr ⟨2,_,_,rfl,rfl,rfl,by kernel_rfl⟩)) (pc (hL 4 (noid_map ni_S_api_Span _)) allp_nil)))))
 intro x34
 refine jx_blkE ?_
 refine jx_rng hc1 (.inl rfl) rfl nofun rfl ?_
 refine jx_blkN ?_
 refine jx_seqN ?_
 refine jS ⟨[V 6 (.osl 3 0 (List.length x34) 2)],[(3,.rows 2 (List.map c_S_api_Span x34))],4⟩ ?_
 refine jc_ret ?_
 exact jx_retF (.inr rfl) (v:=.osl 3 0 (List.length x34) 2) (by kernel_rfl) (snapc_own fz_S_api_Span (by kernel_rfl)) (fle_refl _))
abbrev ranks_Minus_r1:List LO:=[lo 4 (.assign (.const (.slice none 0 0))) 22]
abbrev ranks_Minus_r2:List LO:=[lm 5 0 22,lm 6 1 22,lo 7 (.call ⟨.value (.func 39),#[.tmp 5,.tmp 6,.func 42],#[22,22,47]⟩) 22,lo 4 (.assign (.tmp 7)) 22]
abbrev ranks_Minus_c:LC:=.seq (.reg false ranks_Minus_r1) (.seq (.reg false ranks_Minus_r2) .ret)
theorem ranks_Minus_k:FnOk E 15 8 [.tmp 4] ranks_Minus_c:=⟨⟨Go.Proofs.Tryd.f15,by kernel_rfl,by kernel_rfl,by kernel_rfl,by kernel_rfl,by kernel_rfl⟩,rfl,rfl⟩
noncomputable def ranks_Minus (a0:(List S_api_Span)) (a1:(List S_api_Span)):Option ((List S_api_Span)):=Option.bind (ranks_kept_scc6c a0 a1) (fun x1=>some x1)
theorem ranks_Minus_ok (a0:(List S_api_Span)) (a1:(List S_api_Span)):Ct E 15 [.fsl 2 (List.map c_S_api_Span a0),.fsl 2 (List.map c_S_api_Span a1)] (ranks_Minus a0 a1) (fun r:(List S_api_Span)=>.fsl 2 (List.map c_S_api_Span r)):=ct_intro (N:=8) (L:=ranks_Minus_c) ranks_Minus_k rfl (Nat.le_of_ble_eq_true rfl) (by kernel_rfl) (by
 unfold ranks_Minus
 refine jS ⟨[V 0 (.fsl 2 (List.map c_S_api_Span a0)),V 1 (.fsl 2 (List.map c_S_api_Span a1))],[],0⟩ ?_
 refine jR ?_
 refine jG 0 2 ⟨[V 5 (.fsl 2 (List.map c_S_api_Span a0)),V 6 (.fsl 2 (List.map c_S_api_Span a1))],[],0⟩ ?_
 refine jK 2 (ranks_kept_scc6c_ok a0 a1) ?_
 intro x1 h1
 refine jG 3 1 ⟨[V 4 (.fsl 2 (List.map c_S_api_Span x1))],[],0⟩ ?_
 refine jN ?_
 refine jc_ret ?_
 exact jx_retF (.inr rfl) (v:=.fsl 2 (List.map c_S_api_Span x1)) (by kernel_rfl) rfl (fle_refl _))
abbrev ranks_Not_r1:List LO:=[lo 4 (.assign (.const (.slice none 0 0))) 22]
abbrev ranks_Not_r2:List LO:=[lm 5 0 3,lo 6 (.call ⟨.value (.func 14),#[.tmp 5],#[3]⟩) 22,lm 7 1 22,lo 8 (.call ⟨.value (.func 15),#[.tmp 6,.tmp 7],#[22,22]⟩) 22,lo 4 (.assign (.tmp 8)) 22]
abbrev ranks_Not_c:LC:=.seq (.reg false ranks_Not_r1) (.seq (.reg false ranks_Not_r2) .ret)
theorem ranks_Not_k:FnOk E 12 9 [.tmp 4] ranks_Not_c:=⟨⟨Go.Proofs.Tryd.f12,by kernel_rfl,by kernel_rfl,by kernel_rfl,by kernel_rfl,by kernel_rfl⟩,rfl,rfl⟩
noncomputable def ranks_Not (a0:Int) (a1:(List S_api_Span)):Option ((List S_api_Span)):=Option.bind (ranks_All a0) (fun x1=>Option.bind (ranks_Minus x1 a1) (fun x2=>some x2))
theorem ranks_Not_ok (a0:Int) (a1:(List S_api_Span)):Ct E 12 [iv a0,.fsl 2 (List.map c_S_api_Span a1)] (ranks_Not a0 a1) (fun r:(List S_api_Span)=>.fsl 2 (List.map c_S_api_Span r)):=ct_intro (N:=9) (L:=ranks_Not_c) ranks_Not_k rfl (Nat.le_of_ble_eq_true rfl) (by kernel_rfl) (by
 unfold ranks_Not
 refine jS ⟨[V 0 (iv a0),V 1 (.fsl 2 (List.map c_S_api_Span a1))],[],0⟩ ?_
 refine jR ?_
 refine jG 0 1 ⟨[V 1 (.fsl 2 (List.map c_S_api_Span a1)),V 5 (iv a0)],[],0⟩ ?_
 refine jK 1 (ranks_All_ok a0) ?_
 intro x1 h1
 refine jG 2 1 ⟨[V 6 (.fsl 2 (List.map c_S_api_Span x1)),V 7 (.fsl 2 (List.map c_S_api_Span a1))],[],0⟩ ?_
 refine jK 3 (ranks_Minus_ok x1 a1) ?_
 intro x2 h2
 refine jG 4 1 ⟨[V 4 (.fsl 2 (List.map c_S_api_Span x2))],[],0⟩ ?_
 refine jN ?_
 refine jc_ret ?_
 exact jx_retF (.inr rfl) (v:=.fsl 2 (List.map c_S_api_Span x2)) (by kernel_rfl) rfl (fle_refl _))
abbrev ranks_Union_1_r1:List LO:=[lo 4 (.assign (.const (.bool false))) 4]
abbrev ranks_Union_1_r2:List LO:=[lm 5 0 4,lm 6 5 4,lmg 7 1 4 6 false,lo 8 (.pick (.tmp 6) (.const (.bool true)) (.tmp 7)) 4,lo 4 (.assign (.tmp 8)) 4]
abbrev ranks_Union_1_c:LC:=.seq (.reg false ranks_Union_1_r1) (.seq (.reg false ranks_Union_1_r2) .ret)
theorem ranks_Union_1_k:FnOk E 40 9 [.tmp 4] ranks_Union_1_c:=⟨⟨Go.Proofs.Tryd.f40,by kernel_rfl,by kernel_rfl,by kernel_rfl,by kernel_rfl,by kernel_rfl⟩,rfl,rfl⟩
noncomputable def ranks_Union_1 (a0:Bool) (a1:Bool):Option (Bool):=some (a0 || a1)
theorem ranks_Union_1_ok (a0:Bool) (a1:Bool):Ct E 40 [bv a0,bv a1] (ranks_Union_1 a0 a1) (fun r:Bool=>bv r):=ct_intro (N:=9) (L:=ranks_Union_1_c) ranks_Union_1_k rfl (Nat.le_of_ble_eq_true rfl) (by kernel_rfl) (by
 unfold ranks_Union_1
 refine jS ⟨[V 0 (bv a0),V 1 (bv a1)],[],0⟩ ?_
 refine jS ⟨[V 4 (bv (a0 || a1))],[],0⟩ ?_
 refine jc_ret ?_
 exact jx_retF (.inr rfl) (v:=bv (a0 || a1)) (by kernel_rfl) rfl (fle_refl _))
abbrev ranks_kept_s1155_r1:List LO:=[lo 5 (.box 47 (.tmp 2)) 0,lo 6 (.assign (.const (.slice none 0 0))) 22]
abbrev ranks_kept_s1155_r2:List LO:=[lo 7 (.alloc 22) 0]
abbrev ranks_kept_s1155_r3:List LO:=[lm 9 0 22,lm 10 1 22,lo 11 (.call ⟨.value (.func 56),#[.tmp 9,.tmp 10],#[22,22]⟩) 61]
abbrev ranks_kept_s1155_r4:List LO:=[lo 8 (.alloc 64) 0,ln (.store 64 (.tmp 8) (.tmp 12)) 0]
abbrev ranks_kept_s1155_r5:List LO:=[lo 13 (.load 47 (.tmp 5)) 47,lo 14 (.fieldAddr 64 (.tmp 8) 1) 0,lo 15 (.load 4 (.tmp 14)) 4,lo 16 (.fieldAddr 64 (.tmp 8) 2) 0,lo 17 (.load 4 (.tmp 16)) 4,lo 18 (.call ⟨.value (.tmp 13),#[.tmp 15,.tmp 17],#[4,4]⟩) 4]
abbrev ranks_kept_s1155_r6:List LO:=[lo 19 (.load 22 (.tmp 7)) 22,lo 20 (.fieldAddr 64 (.tmp 8) 0) 0,lo 21 (.load 45 (.tmp 20)) 45,lo 22 (.call ⟨.value (.func 48),#[.tmp 19,.tmp 21],#[22,45]⟩) 22,ln (.store 22 (.tmp 7) (.tmp 22)) 0]
noncomputable def ranks_kept_s1155_y7_a0:Code:=codeSub (bodyOf Go.Proofs.Tryd.f39) [1,1,0,1,0,0]
theorem ranks_kept_s1155_y7_aw:lower E ranks_kept_s1155_y7_a0=some (.reg false ranks_kept_s1155_r4):=by kernel_rfl
noncomputable def ranks_kept_s1155_y7_b0:Code:=codeSub (bodyOf Go.Proofs.Tryd.f39) [1,1,0,1,0,1]
theorem ranks_kept_s1155_y7_bw:lower E ranks_kept_s1155_y7_b0=some (.block 1 (.seq (.reg false ranks_kept_s1155_r5) (.cond (.tmp 18) (.reg false ranks_kept_s1155_r6) .skip))):=by kernel_rfl
abbrev ranks_kept_s1155_r8:List LO:=[lo 23 (.load 22 (.tmp 7)) 22,lo 6 (.assign (.tmp 23)) 22]
noncomputable abbrev ranks_kept_s1155_c:LC:=.seq (.reg false ranks_kept_s1155_r1) (.seq (.reg false ranks_kept_s1155_r2) (.seq (.seq (.reg false ranks_kept_s1155_r3) (.block 0 (.rng (.tmp 11) [12] ranks_kept_s1155_y7_a0 ranks_kept_s1155_y7_b0))) (.seq (.reg false ranks_kept_s1155_r8) .ret)))
theorem ranks_kept_s1155_k:FnOk E 39 24 [.tmp 6] ranks_kept_s1155_c:=⟨⟨Go.Proofs.Tryd.f39,by kernel_rfl,by kernel_rfl,by kernel_rfl,by kernel_rfl,by kernel_rfl⟩,rfl,rfl⟩
noncomputable abbrev ranks_kept_s1155_lp1 (x1:List S_api_Span × List S_api_Span) (q:LoopState) (p:Option Code):AObj:=.loop { state:=q,pending:=p,tmps:=tl 24 [V 5 (pt 0 1),V 7 (pt 1 1),V 11 (.fn 67 [.fptr [.fsl 2 (List.map c_S_api_Span x1.1)] 0,.fptr [.fsl 2 (List.map c_S_api_Span x1.2)] 0])] none,params:=[12],assign:=ranks_kept_s1155_y7_a0,body:=ranks_kept_s1155_y7_b0 }
noncomputable def ranks_kept_s1155_l1 (x2:List S_api_Span):(List Int × Int)→Option (Step (List Int × Int) (List Int)):=fun (x5,x6)=>(if (decide (x6 < (List.length x2:Int)))=true then Option.bind (ixl x2 x6) (fun x12=>Option.bind (app 8 x5 [x12.Lo,x12.Hi]) (fun x13=>some (Step.next (x13,(w64 (x6 + 1)))))) else some (Step.done x5))
noncomputable def ranks_kept_s1155_l2 (x1:List S_api_Span × List S_api_Span) (x15:List Int):(Int × List S_api_Span)→Option (Step (Int × List S_api_Span) (List S_api_Span)):=fun (x23,x24)=>(if (decide (x23 < (List.length x15:Int)))=true then Option.bind (ixl x15 (w64 (x23 - 1))) (fun x35=>Option.bind (ixl x15 x23) (fun x36=>Option.bind (ranks_Has x1.1 x35) (fun x37=>Option.bind (ranks_Has x1.2 x35) (fun x38=>Option.bind (Option.bind (ranks_Union_1 x37 x38) (fun x42=>(if x42=true then Option.bind (ranks_add_maa59 x24 x35 x36) (fun x43=>some x43) else some x24)):Option (List S_api_Span)) (fun x41=>some (Step.next ((w64 (x23 + 1)),x41))))))) else some (Step.done x24))
noncomputable def ranks_kept_s1155 (a0:(List S_api_Span)) (a1:(List S_api_Span)):Option ((List S_api_Span)):=Option.bind (ranks_stretches a0 a1) (fun x1=>Option.bind (slices_Concat_api_Span_api_Span [x1.1,x1.2]) (fun x2=>Option.bind (loopC (ranks_kept_s1155_l1 x2) ([],0)) (fun x11=>Option.bind (slices_SortI x11) (fun x14=>Option.bind (slices_CompactI x14) (fun x15=>Option.bind (loopC (ranks_kept_s1155_l2 x1 x15) (1,[])) (fun x34=>some x34))))))
theorem ranks_kept_s1155_ok (a0:(List S_api_Span)) (a1:(List S_api_Span)):Ct E 39 [.fsl 2 (List.map c_S_api_Span a0),.fsl 2 (List.map c_S_api_Span a1),.fn 40 []] (ranks_kept_s1155 a0 a1) (fun r:(List S_api_Span)=>.fsl 2 (List.map c_S_api_Span r)):=ct_intro (N:=24) (L:=ranks_kept_s1155_c) ranks_kept_s1155_k rfl (Nat.le_of_ble_eq_true rfl) (by kernel_rfl) (by
 unfold ranks_kept_s1155
 refine jS ⟨[V 0 (.fsl 2 (List.map c_S_api_Span a0)),V 1 (.fsl 2 (List.map c_S_api_Span a1)),V 5 (pt 0 1)],[W 0 1 [.fn 40 []]],1⟩ ?_
 refine jS ⟨[V 0 (.fsl 2 (List.map c_S_api_Span a0)),V 1 (.fsl 2 (List.map c_S_api_Span a1)),V 5 (pt 0 1),V 7 (pt 1 1)],[W 0 1 [.fn 40 []],W 1 1 [nilS]],2⟩ ?_
 refine jc_seq ?_
 refine jR ?_
 refine jG 0 2 ⟨[V 5 (pt 0 1),V 7 (pt 1 1),V 9 (.fsl 2 (List.map c_S_api_Span a0)),V 10 (.fsl 2 (List.map c_S_api_Span a1))],[W 0 1 [.fn 40 []],W 1 1 [nilS]],2⟩ ?_
 refine jK 2 (ranks_stretches_ok a0 a1) ?_
 intro x1 h1
 refine jN ?_
 refine jc_block ?_
 refine jc_keep [5,7,11] [0,1] (st1:=⟨[V 5 (pt 0 1),V 7 (pt 1 1),V 11 (.fn 67 [.fptr [.fsl 2 (List.map c_S_api_Span x1.1)] 0,.fptr [.fsl 2 (List.map c_S_api_Span x1.2)] 0])],[W 0 1 [.fn 40 []],W 1 1 [nilS]],2⟩) (by kernel_rfl) ?_
 refine jc_rng (g:=67) (caps:=[.fptr [.fsl 2 (List.map c_S_api_Span x1.1)] 0,.fptr [.fsl 2 (List.map c_S_api_Span x1.2)] 0]) (by kernel_rfl) ranks_stretches_1_it_k (Nat.le_of_ble_eq_true rfl) ?_
 intro F1 hc1
 refine jS ⟨[V 0 (.yld 2),V 1 (.fptr [.fsl 2 (List.map c_S_api_Span x1.1)] 0),V 2 (.fptr [.fsl 2 (List.map c_S_api_Span x1.2)] 0),V 4 (nilS)],[W 0 1 [.fn 40 []],W 1 1 [nilS],(2,ranks_kept_s1155_lp1 x1 .ready none)],3⟩ ?_
 refine jc_seq ?_
 refine jR ?_
 refine jG 0 3 ⟨[V 0 (.yld 2),V 1 (.fptr [.fsl 2 (List.map c_S_api_Span x1.1)] 0),V 2 (.fptr [.fsl 2 (List.map c_S_api_Span x1.2)] 0),V 4 (nilS),V 11 (.osl 3 0 (List.length [x1.1,x1.2]) 1)],[W 0 1 [.fn 40 []],W 1 1 [nilS],(2,ranks_kept_s1155_lp1 x1 .ready none),(3,.rows 1 (List.map c_L45 [x1.1,x1.2]))],4⟩ ?_
 refine jr_callM 3 [(0,some 3)] [(3,some 0),(4,some 1)] (fun r:List S_api_Span=>[W 0 1 [.fn 40 []],W 1 1 [nilS],(2,ranks_kept_s1155_lp1 x1 .ready none),(3,.rows 1 (List.map c_L45 [x1.1,x1.2])),(4,.rows 2 (List.map c_S_api_Span r))]) (fun r:List S_api_Span=>.osl 4 0 (List.length r) 2) 5 (slices_Concat_api_Span_api_Span_ok [x1.1,x1.2]) (pc (hL 3 (noid_map ni_L45 _)) allp_nil) (fun r=>(pc (.inl ⟨rfl,rfl⟩) (pc (.inl ⟨rfl,rfl⟩) (pc (.inl ⟨rfl,rfl⟩) (pc (.inr (hL 0 (noid_map ni_L45 _))) (pc (.inr (hL 1 (noid_map ni_S_api_Span _))) allp_nil)))))) ?_
 rintro x2 hm11
 refine jG 4 2 ⟨[V 0 (.yld 2),V 1 (.fptr [.fsl 2 (List.map c_S_api_Span x1.1)] 0),V 2 (.fptr [.fsl 2 (List.map c_S_api_Span x1.2)] 0),V 4 (nilS),V 12 (.osl 4 0 (List.length x2) 2),V 13 (iv (List.length x2:Int)),V 14 (iv 0)],[W 0 1 [.fn 40 []],W 1 1 [nilS],(2,ranks_kept_s1155_lp1 x1 .ready none),(4,.rows 2 (List.map c_S_api_Span x2))],5⟩ ?_
 refine jN ?_
 refine jc_block ?_
 refine jc_bind (fun x11=>⟨[V 0 (.yld 2),V 1 (.fptr [.fsl 2 (List.map c_S_api_Span x1.1)] 0),V 2 (.fptr [.fsl 2 (List.map c_S_api_Span x1.2)] 0),V 4 (.osl 3 0 (List.length x11) 1)],[W 0 1 [.fn 40 []],W 1 1 [nilS],(2,ranks_kept_s1155_lp1 x1 .ready none),(3,.rows 1 (List.map cI x11))],4⟩) (fun x11=>(.exit 0)) (jc_loop (fun (x5,x6)=>⟨[V 0 (.yld 2),V 1 (.fptr [.fsl 2 (List.map c_S_api_Span x1.1)] 0),V 2 (.fptr [.fsl 2 (List.map c_S_api_Span x1.2)] 0),V 4 (.osl 3 0 (List.length x5) 1),V 12 (.osl 4 0 (List.length x2) 2),V 13 (iv (List.length x2:Int)),V 14 (iv x6)],[W 0 1 [.fn 40 []],W 1 1 [nilS],(2,ranks_kept_s1155_lp1 x1 .ready none),(3,.rows 1 (List.map cI x5)),(4,.rows 2 (List.map c_S_api_Span x2))],5⟩) (wkR [(0,some 0),(1,some 1),(2,some 2),(3,none),(4,some 4)] (fix_of hc1.2.2 (k:=3) rfl) (pc (hC 0) (pc (hC 1) (pc (.inr (.inr ⟨2,_,_,rfl,rfl,rfl,by kernel_rfl⟩)) (pc hZ (pc (hL 4 (noid_map ni_S_api_Span _)) allp_nil)))))) ?_) ?_
 ·rintro⟨x5,x6⟩
  unfold ranks_kept_s1155_l1
  refine jS ⟨[V 0 (.yld 2),V 1 (.fptr [.fsl 2 (List.map c_S_api_Span x1.1)] 0),V 2 (.fptr [.fsl 2 (List.map c_S_api_Span x1.2)] 0),V 4 (.osl 3 0 (List.length x5) 1),V 12 (.osl 4 0 (List.length x2) 2),V 13 (iv (List.length x2:Int)),V 14 (iv x6),V 15 (bv (decide (x6 < (List.length x2:Int))))],[W 0 1 [.fn 40 []],W 1 1 [nilS],(2,ranks_kept_s1155_lp1 x1 .ready none),(3,.rows 1 (List.map cI x5)),(4,.rows 2 (List.map c_S_api_Span x2))],5⟩ ?_
  refine jc_seq ?_
  refine jIf ?_ ?_
  ·refine jc_skip ?_
   refine jx_seqN ?_
   refine jc_seq ?_
   refine jc_block ?_
   refine jR ?_
   refine jr_part (i:=0) (mo:=ixl x2 x6) rfl rfl rfl rfl (fun _ hc=>aop_ixo0 (sz:=2) (e:=45) (kk:=.i64) (id:=4) (by kernel_rfl) (by kernel_rfl) (by kernel_rfl) (by kernel_rfl) hc) (fun _=>rfl) ?_
   intro x12 h12
   refine jr_one (i:=1) (v:=.agg [iv x12.Lo,iv x12.Hi]) rfl rfl rfl rfl (aop_ldo (l:=x2) (c:=c_S_api_Span) (id:=4) (k:=(Int.toNat x6)) (sz:=2) (off:=0) (a:=x12) (by kernel_rfl) (by kernel_rfl) (ixl_lt h12).2.2 (by kernel_rfl)) rfl ?_
   refine jG 2 2 ⟨[V 0 (.yld 2),V 1 (.fptr [.fsl 2 (List.map c_S_api_Span x1.1)] 0),V 2 (.fptr [.fsl 2 (List.map c_S_api_Span x1.2)] 0),V 4 (.osl 3 0 (List.length x5) 1),V 6 (pt 5 2),V 12 (.osl 4 0 (List.length x2) 2),V 13 (iv (List.length x2:Int)),V 14 (iv x6)],[W 0 1 [.fn 40 []],W 1 1 [nilS],(2,ranks_kept_s1155_lp1 x1 .ready none),(3,.rows 1 (List.map cI x5)),(4,.rows 2 (List.map c_S_api_Span x2)),W 5 2 [iv x12.Lo,iv x12.Hi]],6⟩ ?_
   refine jN ?_
   refine jc_reg ?_
   refine jG 0 6 ⟨[V 0 (.yld 2),V 1 (.fptr [.fsl 2 (List.map c_S_api_Span x1.1)] 0),V 2 (.fptr [.fsl 2 (List.map c_S_api_Span x1.2)] 0),V 12 (.osl 4 0 (List.length x2) 2),V 13 (iv (List.length x2:Int)),V 14 (iv x6),V 18 (.osl 3 0 (List.length x5) 1),V 23 (.osl 6 0 (List.length [x12.Lo,x12.Hi]) 1)],[W 0 1 [.fn 40 []],W 1 1 [nilS],(2,ranks_kept_s1155_lp1 x1 .ready none),(3,.rows 1 (List.map cI x5)),(4,.rows 2 (List.map c_S_api_Span x2)),(6,.rows 1 (List.map cI [x12.Lo,x12.Hi]))],7⟩ ?_
   refine jr_part (i:=6) (mo:=app 8 x5 [x12.Lo,x12.Hi]) rfl rfl rfl rfl (fun _ hc=>aop_app (u:=.osl 3 0 (List.length x5) 1) (w:=.osl 6 0 (List.length [x12.Lo,x12.Hi]) 1) (e:=3) (td:=.slice 3) (by kernel_rfl) (by kernel_rfl) (by kernel_rfl) (by kernel_rfl) (.inl ⟨_,rfl⟩) (appendOf_own (c:=cI) (sz:=1) (b:=8) (id:=3) (by kernel_rfl) (by kernel_rfl) (rows_own (by kernel_rfl)) (List.cons_ne_nil _ _) hc)) (fun _=>rfl) ?_
   intro x13 h13
   refine jG 7 1 ⟨[V 0 (.yld 2),V 1 (.fptr [.fsl 2 (List.map c_S_api_Span x1.1)] 0),V 2 (.fptr [.fsl 2 (List.map c_S_api_Span x1.2)] 0),V 4 (.osl 7 0 (List.length x13) 1),V 12 (.osl 4 0 (List.length x2) 2),V 13 (iv (List.length x2:Int)),V 14 (iv x6)],[W 0 1 [.fn 40 []],W 1 1 [nilS],(2,ranks_kept_s1155_lp1 x1 .ready none),(4,.rows 2 (List.map c_S_api_Span x2)),(7,.rows 1 (List.map cI x13))],8⟩ ?_
   refine jr_nil rfl ?_
   refine jx_blkN ?_
   refine jx_seqN ?_
   refine jT ⟨[V 0 (.yld 2),V 1 (.fptr [.fsl 2 (List.map c_S_api_Span x1.1)] 0),V 2 (.fptr [.fsl 2 (List.map c_S_api_Span x1.2)] 0),V 4 (.osl 7 0 (List.length x13) 1),V 12 (.osl 4 0 (List.length x2) 2),V 13 (iv (List.length x2:Int)),V 14 (iv (w64 (x6 + 1)))],[W 0 1 [.fn 40 []],W 1 1 [nilS],(2,ranks_kept_s1155_lp1 x1 .ready none),(4,.rows 2 (List.map c_S_api_Span x2)),(7,.rows 1 (List.map cI x13))],8⟩ ?_
   exact jx_next (wkR [(0,some 0),(1,some 1),(2,some 2),(3,some 7),(4,some 4)] (fix_of hc1.2.2 (k:=3) rfl) (pc (hC 0) (pc (hC 1) (pc (.inr (.inr ⟨2,_,_,rfl,rfl,rfl,by kernel_rfl⟩)) (pc (hL 7 (noid_map ni_I _)) (pc (hL 4 (noid_map ni_S_api_Span _)) allp_nil))))))
  refine jc_exit ?_
  refine jx_seqE ?_
  exact jx_done rfl nofun (wkR [(0,some 0),(1,some 1),(2,some 2),(3,some 3)] (fix_of hc1.2.2 (k:=3) rfl) (pc (hC 0) (pc (hC 1) (pc (.inr (.inr ⟨2,_,_,rfl,rfl,rfl,by kernel_rfl⟩)) (pc (hL 3 (noid_map ni_I _)) allp_nil)))))
 intro x11
 refine jx_blkE ?_
 refine jx_seqN ?_
 refine jR ?_
 refine jG 0 1 ⟨[V 0 (.yld 2),V 1 (.fptr [.fsl 2 (List.map c_S_api_Span x1.1)] 0),V 2 (.fptr [.fsl 2 (List.map c_S_api_Span x1.2)] 0),V 4 (.osl 3 0 (List.length x11) 1),V 26 (.osl 3 0 (List.length x11) 1)],[W 0 1 [.fn 40 []],W 1 1 [nilS],(2,ranks_kept_s1155_lp1 x1 .ready none),(3,.rows 1 (List.map cI x11))],4⟩ ?_
 refine jr_callM 1 [(0,some 3)] [(3,some 0)] (fun r:List Int=>[W 0 1 [.fn 40 []],W 1 1 [nilS],(2,ranks_kept_s1155_lp1 x1 .ready none),(3,.rows 1 (List.map cI r))]) (fun r:List Int=>.tup []) 4 (slices_SortI_ok x11) (pc (hL 3 (noid_map ni_I _)) allp_nil) (fun r=>(pc (.inl ⟨rfl,rfl⟩) (pc (.inl ⟨rfl,rfl⟩) (pc (.inl ⟨rfl,rfl⟩) (pc (.inr (hL 0 (noid_map ni_I _))) allp_nil))))) ?_
 rintro x14 hm10
 try rw[← slices_SortI_len hm10]
 refine jN ?_
 refine jR ?_
 refine jG 0 1 ⟨[V 0 (.yld 2),V 1 (.fptr [.fsl 2 (List.map c_S_api_Span x1.1)] 0),V 2 (.fptr [.fsl 2 (List.map c_S_api_Span x1.2)] 0),V 28 (.osl 3 0 (List.length x14) 1)],[W 0 1 [.fn 40 []],W 1 1 [nilS],(2,ranks_kept_s1155_lp1 x1 .ready none),(3,.rows 1 (List.map cI x14))],4⟩ ?_
 refine jr_callM 1 [(0,some 3)] [(3,some 0)] (fun r:List Int=>[W 0 1 [.fn 40 []],W 1 1 [nilS],(2,ranks_kept_s1155_lp1 x1 .ready none),(3,.rows 1 (List.map cI r))]) (fun r:List Int=>.osl 3 0 (List.length r) 1) 4 (slices_CompactI_ok x14) (pc (hL 3 (noid_map ni_I _)) allp_nil) (fun r=>(pc (.inl ⟨rfl,rfl⟩) (pc (.inl ⟨rfl,rfl⟩) (pc (.inl ⟨rfl,rfl⟩) (pc (.inr (hL 0 (noid_map ni_I _))) allp_nil))))) ?_
 rintro x15 hm9
 refine jG 2 1 ⟨[V 0 (.yld 2),V 1 (.fptr [.fsl 2 (List.map c_S_api_Span x1.1)] 0),V 2 (.fptr [.fsl 2 (List.map c_S_api_Span x1.2)] 0),V 4 (.osl 3 0 (List.length x15) 1)],[W 0 1 [.fn 40 []],W 1 1 [nilS],(2,ranks_kept_s1155_lp1 x1 .ready none),(3,.rows 1 (List.map cI x15))],4⟩ ?_
 refine jN ?_
 refine jS ⟨[V 0 (.yld 2),V 1 (.fptr [.fsl 2 (List.map c_S_api_Span x1.1)] 0),V 2 (.fptr [.fsl 2 (List.map c_S_api_Span x1.2)] 0),V 4 (.osl 3 0 (List.length x15) 1),V 7 (iv 1)],[W 0 1 [.fn 40 []],W 1 1 [nilS],(2,ranks_kept_s1155_lp1 x1 .ready none),(3,.rows 1 (List.map cI x15))],4⟩ ?_
 refine jc_block ?_
 refine jc_bind (fun x34=>⟨[],[W 0 1 [.fn 40 []],W 1 1 [.osl 3 0 (List.length x34) 2],(2,ranks_kept_s1155_lp1 x1 .ready none),(3,.rows 2 (List.map c_S_api_Span x34))],4⟩) (fun x34=>(.exit 2)) (jc_loop (fun (x23,x24)=>⟨[V 0 (.yld 2),V 1 (.fptr [.fsl 2 (List.map c_S_api_Span x1.1)] 0),V 2 (.fptr [.fsl 2 (List.map c_S_api_Span x1.2)] 0),V 4 (.osl 3 0 (List.length x15) 1),V 7 (iv x23)],[W 0 1 [.fn 40 []],W 1 1 [.osl 4 0 (List.length x24) 2],(2,ranks_kept_s1155_lp1 x1 .ready none),(3,.rows 1 (List.map cI x15)),(4,.rows 2 (List.map c_S_api_Span x24))],5⟩) (wkR [(0,some 0),(1,some 1),(2,some 2),(3,some 3),(4,none)] (fix_of hc1.2.2 (k:=3) rfl) (pc (hC 0) (pc (hC 1) (pc (.inr (.inr ⟨2,_,_,rfl,rfl,rfl,by kernel_rfl⟩)) (pc (hL 3 (noid_map ni_I _)) (pc hZ allp_nil)))))) ?_) ?_
 ·rintro⟨x23,x24⟩
  unfold ranks_kept_s1155_l2
  refine jc_seq ?_
  refine jS ⟨[V 0 (.yld 2),V 1 (.fptr [.fsl 2 (List.map c_S_api_Span x1.1)] 0),V 2 (.fptr [.fsl 2 (List.map c_S_api_Span x1.2)] 0),V 4 (.osl 3 0 (List.length x15) 1),V 7 (iv x23),V 33 (bv (decide (x23 < (List.length x15:Int))))],[W 0 1 [.fn 40 []],W 1 1 [.osl 4 0 (List.length x24) 2],(2,ranks_kept_s1155_lp1 x1 .ready none),(3,.rows 1 (List.map cI x15)),(4,.rows 2 (List.map c_S_api_Span x24))],5⟩ ?_
  refine jIf ?_ ?_
  ·refine jc_skip ?_
   refine jx_seqN ?_
   refine jc_seq ?_
   refine jc_block ?_
   refine jc_seq ?_
   refine jc_full ranks_stretches_1_it_r11 [(39,8),(43,8)] ?_
   refine jG 0 3 ⟨[V 0 (.yld 2),V 1 (.fptr [.fsl 2 (List.map c_S_api_Span x1.1)] 0),V 2 (.fptr [.fsl 2 (List.map c_S_api_Span x1.2)] 0),V 4 (.osl 3 0 (List.length x15) 1),V 7 (iv x23),V 36 (.osl 3 0 (List.length x15) 1),V 38 (iv (w64 (x23 - 1)))],[W 0 1 [.fn 40 []],W 1 1 [.osl 4 0 (List.length x24) 2],(2,ranks_kept_s1155_lp1 x1 .ready none),(3,.rows 1 (List.map cI x15)),(4,.rows 2 (List.map c_S_api_Span x24))],5⟩ ?_
   refine jr_part (i:=3) (mo:=ixl x15 (w64 (x23 - 1))) rfl rfl rfl rfl (fun _ hc=>aop_ixo0 (sz:=1) (e:=3) (kk:=.i64) (id:=3) (by kernel_rfl) (by kernel_rfl) (by kernel_rfl) (by kernel_rfl) hc) (fun _=>rfl) ?_
   intro x35 h35
   refine jr_one (i:=4) (v:=iv x35) rfl rfl rfl rfl (aop_ldo (l:=x15) (c:=cI) (id:=3) (k:=(Int.toNat (w64 (x23 - 1)))) (sz:=1) (off:=0) (a:=x35) (by kernel_rfl) (by kernel_rfl) (ixl_lt h35).2.2 (by kernel_rfl)) rfl ?_
   refine jG 5 2 ⟨[V 0 (.yld 2),V 1 (.fptr [.fsl 2 (List.map c_S_api_Span x1.1)] 0),V 2 (.fptr [.fsl 2 (List.map c_S_api_Span x1.2)] 0),V 4 (.osl 3 0 (List.length x15) 1),V 7 (iv x23),V 39 (.ptr 3 (Int.toNat (w64 (x23 - 1))) 1 0),V 40 (iv x35),V 41 (.osl 3 0 (List.length x15) 1),V 42 (iv x23)],[W 0 1 [.fn 40 []],W 1 1 [.osl 4 0 (List.length x24) 2],(2,ranks_kept_s1155_lp1 x1 .ready none),(3,.rows 1 (List.map cI x15)),(4,.rows 2 (List.map c_S_api_Span x24))],5⟩ ?_
   refine jr_part (i:=7) (mo:=ixl x15 x23) rfl rfl rfl rfl (fun _ hc=>aop_ixo0 (sz:=1) (e:=3) (kk:=.i64) (id:=3) (by kernel_rfl) (by kernel_rfl) (by kernel_rfl) (by kernel_rfl) hc) (fun _=>rfl) ?_
   intro x36 h36
   refine jr_one (i:=8) (v:=iv x36) rfl rfl rfl rfl (aop_ldo (l:=x15) (c:=cI) (id:=3) (k:=(Int.toNat x23)) (sz:=1) (off:=0) (a:=x36) (by kernel_rfl) (by kernel_rfl) (ixl_lt h36).2.2 (by kernel_rfl)) rfl ?_
   refine jG 9 3 ⟨[V 0 (.yld 2),V 1 (.fptr [.fsl 2 (List.map c_S_api_Span x1.1)] 0),V 2 (.fptr [.fsl 2 (List.map c_S_api_Span x1.2)] 0),V 4 (.osl 3 0 (List.length x15) 1),V 7 (iv x23),V 8 (pt 5 2),V 39 (.ptr 3 (Int.toNat (w64 (x23 - 1))) 1 0),V 43 (.ptr 3 (Int.toNat x23) 1 0)],[W 0 1 [.fn 40 []],W 1 1 [.osl 4 0 (List.length x24) 2],(2,ranks_kept_s1155_lp1 x1 .ready none),(3,.rows 1 (List.map cI x15)),(4,.rows 2 (List.map c_S_api_Span x24)),W 5 2 [iv x35,iv x36]],6⟩ ?_
   refine jr_nil rfl ?_
   refine jx_full ?_
   refine jx_seqN ?_
   refine jR ?_
   refine jG 0 5 ⟨[V 0 (.yld 2),V 1 (.fptr [.fsl 2 (List.map c_S_api_Span x1.1)] 0),V 2 (.fptr [.fsl 2 (List.map c_S_api_Span x1.2)] 0),V 4 (.osl 3 0 (List.length x15) 1),V 7 (iv x23),V 8 (pt 5 2),V 46 (.yld 2),V 47 (.agg [iv x35,iv x36]),V 48 (.fsl 2 (List.map c_S_api_Span x1.1)),V 50 (iv x35)],[W 0 1 [.fn 40 []],W 1 1 [.osl 4 0 (List.length x24) 2],(2,ranks_kept_s1155_lp1 x1 .ready none),(3,.rows 1 (List.map cI x15)),(4,.rows 2 (List.map c_S_api_Span x24)),W 5 2 [iv x35,iv x36]],6⟩ ?_
   refine jK 5 (ranks_Has_ok x1.1 x35) ?_
   intro x37 h37
   refine jG 6 3 ⟨[V 0 (.yld 2),V 1 (.fptr [.fsl 2 (List.map c_S_api_Span x1.1)] 0),V 2 (.fptr [.fsl 2 (List.map c_S_api_Span x1.2)] 0),V 4 (.osl 3 0 (List.length x15) 1),V 7 (iv x23),V 46 (.yld 2),V 47 (.agg [iv x35,iv x36]),V 51 (bv x37),V 52 (.fsl 2 (List.map c_S_api_Span x1.2)),V 54 (iv x35)],[W 0 1 [.fn 40 []],W 1 1 [.osl 4 0 (List.length x24) 2],(2,ranks_kept_s1155_lp1 x1 .ready none),(3,.rows 1 (List.map cI x15)),(4,.rows 2 (List.map c_S_api_Span x24))],6⟩ ?_
   refine jK 9 (ranks_Has_ok x1.2 x35) ?_
   intro x38 h38
   refine jG 10 1 ⟨[V 0 (.yld 2),V 1 (.fptr [.fsl 2 (List.map c_S_api_Span x1.1)] 0),V 2 (.fptr [.fsl 2 (List.map c_S_api_Span x1.2)] 0),V 4 (.osl 3 0 (List.length x15) 1),V 7 (iv x23),V 46 (.yld 2),V 56 (.agg [iv x35,iv x36,bv x37,bv x38])],[W 0 1 [.fn 40 []],W 1 1 [.osl 4 0 (List.length x24) 2],(2,ranks_kept_s1155_lp1 x1 .ready none),(3,.rows 1 (List.map cI x15)),(4,.rows 2 (List.map c_S_api_Span x24))],6⟩ ?_
   refine jr_yield (i:=11) (l:=2) (Nc:=24) (Kc:=[V 5 (pt 0 1),V 7 (pt 1 1),V 11 (.fn 67 [.fptr [.fsl 2 (List.map c_S_api_Span x1.1)] 0,.fptr [.fsl 2 (List.map c_S_api_Span x1.2)] 0])]) (ps:=[12]) (vs:=[.agg [iv x35,iv x36,bv x37,bv x38]]) (fun x41=>⟨[],[W 0 1 [.fn 40 []],W 1 1 [.osl 6 0 (List.length x41) 2],(2,ranks_kept_s1155_lp1 x1 .busy none),(3,.rows 1 (List.map cI x15)),(6,.rows 2 (List.map c_S_api_Span x41))],7⟩) (fun x41=>.normal) [0,1,2,4,7,57] [0,1,2,3,6] (after:=(fun x41=>⟨[V 0 (.yld 2),V 1 (.fptr [.fsl 2 (List.map c_S_api_Span x1.1)] 0),V 2 (.fptr [.fsl 2 (List.map c_S_api_Span x1.2)] 0),V 4 (.osl 3 0 (List.length x15) 1),V 7 (iv x23),V 57 (bv true)],[W 0 1 [.fn 40 []],W 1 1 [.osl 6 0 (List.length x41) 2],(2,ranks_kept_s1155_lp1 x1 .ready none),(3,.rows 1 (List.map cI x15)),(6,.rows 2 (List.map c_S_api_Span x41))],7⟩)) rfl rfl ranks_kept_s1155_y7_aw ranks_kept_s1155_y7_bw (by kernel_rfl) (by kernel_rfl) (yctx_of hc1 rfl) rfl (by kernel_rfl) rfl ?_ (by intro x41 <;> exact⟨none,by kernel_rfl⟩) (by intro x41 <;> kernel_rfl) ?_
   ·intro F6 hy6
    refine jT ⟨[V 5 (pt 0 1),V 7 (pt 1 1),V 8 (pt 6 4)],[W 0 1 [.fn 40 []],W 1 1 [.osl 4 0 (List.length x24) 2],(2,ranks_kept_s1155_lp1 x1 .ready none),(3,.rows 1 (List.map cI x15)),(4,.rows 2 (List.map c_S_api_Span x24)),W 6 4 [iv x35,iv x36,bv x37,bv x38]],7⟩ ?_
    refine jx_asg hy6 rfl ?_
    refine jc_block ?_
    refine jR ?_
    refine jG 0 5 ⟨[V 7 (pt 1 1),V 8 (pt 6 4),V 13 (.fn 40 []),V 15 (bv x37),V 17 (bv x38)],[W 0 1 [.fn 40 []],W 1 1 [.osl 4 0 (List.length x24) 2],(2,ranks_kept_s1155_lp1 x1 .busy none),(3,.rows 1 (List.map cI x15)),(4,.rows 2 (List.map c_S_api_Span x24)),W 6 4 [iv x35,iv x36,bv x37,bv x38]],7⟩ ?_
    refine jr_callV (i:=5) rfl rfl rfl rfl (g:=40) (caps:=[]) (avs:=[bv x37,bv x38]) (vs:=[bv x37,bv x38]) (by kernel_rfl) (by kernel_rfl) rfl (snapL_cons rfl (snapL_cons rfl (snapL_nil _))) (all2_cons (fle_refl _) (all2_cons (fle_refl _) all2_nil)) (ranks_Union_1_ok x37 x38) (fun _=>rfl) (fun _=>rfl) ?_
    intro x42 h42
    refine jN ?_
    refine jIf ?_ ?_
    ·refine jc_reg ?_
     refine jG 0 3 ⟨[V 7 (pt 1 1),V 19 (.osl 4 0 (List.length x24) 2),V 21 (.agg [iv x35,iv x36])],[W 0 1 [.fn 40 []],W 1 1 [.osl 4 0 (List.length x24) 2],(2,ranks_kept_s1155_lp1 x1 .busy none),(3,.rows 1 (List.map cI x15)),(4,.rows 2 (List.map c_S_api_Span x24))],7⟩ ?_
     refine jr_callM 3 [(0,some 4)] [(7,some 1)] (fun r:List S_api_Span=>[W 0 1 [.fn 40 []],W 1 1 [.osl 4 0 (List.length x24) 2],(2,ranks_kept_s1155_lp1 x1 .busy none),(3,.rows 1 (List.map cI x15)),(7,.rows 2 (List.map c_S_api_Span r))]) (fun r:List S_api_Span=>.osl 7 0 (List.length r) 2) 8 (ranks_add_maa59_ok x24 x35 x36) (pc (hL 4 (noid_map ni_S_api_Span _)) allp_nil) (fun r=>(pc (.inl ⟨rfl,rfl⟩) (pc (.inl ⟨rfl,rfl⟩) (pc (.inl ⟨rfl,rfl⟩) (pc (.inl ⟨rfl,rfl⟩) (pc (.inr (hL 1 (noid_map ni_S_api_Span _))) allp_nil)))))) ?_
     rintro x43 hm8
     refine jG 4 1 ⟨[],[W 0 1 [.fn 40 []],W 1 1 [.osl 7 0 (List.length x43) 2],(2,ranks_kept_s1155_lp1 x1 .busy none),(3,.rows 1 (List.map cI x15)),(7,.rows 2 (List.map c_S_api_Span x43))],8⟩ ?_
     refine jr_nil rfl ?_
     refine jx_blkN ?_
     exact jx_mid rfl (wkR [(0,some 0),(1,some 1),(2,some 2),(3,some 3),(4,some 4),(5,some 5),(6,some 7)] (fix_of hy6.2 (k:=6) rfl) (pc (hC 0) (pc (hC 1) (pc (.inr (.inr ⟨2,_,_,rfl,rfl,rfl,by kernel_rfl⟩)) (pc (hL 3 (noid_map ni_I _)) (pc (hL 7 (noid_map ni_S_api_Span _)) allp_nil))))))
    refine jc_skip ?_
    refine jx_blkN ?_
    exact jx_mid rfl (wkR [(0,some 0),(1,some 1),(2,some 2),(3,some 3),(4,some 4),(5,some 5),(6,some 4)] (fix_of hy6.2 (k:=6) rfl) (pc (hC 0) (pc (hC 1) (pc (.inr (.inr ⟨2,_,_,rfl,rfl,rfl,by kernel_rfl⟩)) (pc (hL 3 (noid_map ni_I _)) (pc (hL 4 (noid_map ni_S_api_Span _)) allp_nil))))))
   intro x41
   refine jG 12 1 ⟨[V 0 (.yld 2),V 1 (.fptr [.fsl 2 (List.map c_S_api_Span x1.1)] 0),V 2 (.fptr [.fsl 2 (List.map c_S_api_Span x1.2)] 0),V 4 (.osl 3 0 (List.length x15) 1),V 7 (iv x23),V 58 (bv false)],[W 0 1 [.fn 40 []],W 1 1 [.osl 6 0 (List.length x41) 2],(2,ranks_kept_s1155_lp1 x1 .ready none),(3,.rows 1 (List.map cI x15)),(6,.rows 2 (List.map c_S_api_Span x41))],7⟩ ?_
   refine jN ?_
   refine jc_condK (c:=false) (by kernel_rfl) ?_
   refine jc_skip ?_
   refine jx_blkN ?_
   refine jx_seqN ?_
   refine jT ⟨[V 0 (.yld 2),V 1 (.fptr [.fsl 2 (List.map c_S_api_Span x1.1)] 0),V 2 (.fptr [.fsl 2 (List.map c_S_api_Span x1.2)] 0),V 4 (.osl 3 0 (List.length x15) 1),V 7 (iv (w64 (x23 + 1)))],[W 0 1 [.fn 40 []],W 1 1 [.osl 6 0 (List.length x41) 2],(2,ranks_kept_s1155_lp1 x1 .ready none),(3,.rows 1 (List.map cI x15)),(6,.rows 2 (List.map c_S_api_Span x41))],7⟩ ?_
   exact jx_next (wkR [(0,some 0),(1,some 1),(2,some 2),(3,some 3),(4,some 6)] (fix_of hc1.2.2 (k:=3) rfl) (pc (hC 0) (pc (hC 1) (pc (.inr (.inr ⟨2,_,_,rfl,rfl,rfl,by kernel_rfl⟩)) (pc (hL 3 (noid_map ni_I _)) (pc (hL 6 (noid_map ni_S_api_Span _)) allp_nil))))))
  refine jc_exit ?_
  refine jx_seqE ?_
  exact jx_done rfl nofun (wkR [(0,some 0),(1,some 1),(2,some 2),(3,some 4)] (fix_of hc1.2.2 (k:=3) rfl) (pc (hC 0) (pc (hC 1) (pc (.inr (.inr ⟨2,_,_,rfl,rfl,rfl,by kernel_rfl⟩)) (pc (hL 4 (noid_map ni_S_api_Span _)) allp_nil)))))
 intro x34
 refine jx_blkE ?_
 refine jx_rng hc1 (.inl rfl) rfl nofun rfl ?_
 refine jx_blkN ?_
 refine jx_seqN ?_
 refine jS ⟨[V 6 (.osl 3 0 (List.length x34) 2)],[(3,.rows 2 (List.map c_S_api_Span x34))],4⟩ ?_
 refine jc_ret ?_
 exact jx_retF (.inr rfl) (v:=.osl 3 0 (List.length x34) 2) (by kernel_rfl) (snapc_own fz_S_api_Span (by kernel_rfl)) (fle_refl _))
abbrev ranks_Union_r1:List LO:=[lo 4 (.assign (.const (.slice none 0 0))) 22]
abbrev ranks_Union_r2:List LO:=[lm 5 0 22,lm 6 1 22,lo 7 (.call ⟨.value (.func 39),#[.tmp 5,.tmp 6,.func 40],#[22,22,47]⟩) 22,lo 4 (.assign (.tmp 7)) 22]
abbrev ranks_Union_c:LC:=.seq (.reg false ranks_Union_r1) (.seq (.reg false ranks_Union_r2) .ret)
theorem ranks_Union_k:FnOk E 9 8 [.tmp 4] ranks_Union_c:=⟨⟨Go.Proofs.Tryd.f9,by kernel_rfl,by kernel_rfl,by kernel_rfl,by kernel_rfl,by kernel_rfl⟩,rfl,rfl⟩
noncomputable def ranks_Union (a0:(List S_api_Span)) (a1:(List S_api_Span)):Option ((List S_api_Span)):=Option.bind (ranks_kept_s1155 a0 a1) (fun x1=>some x1)
theorem ranks_Union_ok (a0:(List S_api_Span)) (a1:(List S_api_Span)):Ct E 9 [.fsl 2 (List.map c_S_api_Span a0),.fsl 2 (List.map c_S_api_Span a1)] (ranks_Union a0 a1) (fun r:(List S_api_Span)=>.fsl 2 (List.map c_S_api_Span r)):=ct_intro (N:=8) (L:=ranks_Union_c) ranks_Union_k rfl (Nat.le_of_ble_eq_true rfl) (by kernel_rfl) (by
 unfold ranks_Union
 refine jS ⟨[V 0 (.fsl 2 (List.map c_S_api_Span a0)),V 1 (.fsl 2 (List.map c_S_api_Span a1))],[],0⟩ ?_
 refine jR ?_
 refine jG 0 2 ⟨[V 5 (.fsl 2 (List.map c_S_api_Span a0)),V 6 (.fsl 2 (List.map c_S_api_Span a1))],[],0⟩ ?_
 refine jK 2 (ranks_kept_s1155_ok a0 a1) ?_
 intro x1 h1
 refine jG 3 1 ⟨[V 4 (.fsl 2 (List.map c_S_api_Span x1))],[],0⟩ ?_
 refine jN ?_
 refine jc_ret ?_
 exact jx_retF (.inr rfl) (v:=.fsl 2 (List.map c_S_api_Span x1)) (by kernel_rfl) rfl (fle_refl _))
abbrev ranks_List_r1:List LO:=[lo 2 (.assign (.const (.slice none 0 0))) 31]
abbrev ranks_List_r2:List LO:=[lo 3 (.assign (.const (.slice none 0 0))) 31]
abbrev ranks_List_r3:List LO:=[lm 7 0 22,lo 8 (.call ⟨.builtin .len,#[.tmp 7],#[22]⟩) 3,lo 9 (.move (.const (.int .i64 0))) 3]
abbrev ranks_List_r4:List LO:=[lo 10 (.binOp .lss 3 (.tmp 9) (.tmp 8) 3) 0]
abbrev ranks_List_r5:List LO:=[lo 11 (.indexAddr 22 (.tmp 7) (.tmp 9)) 0,lo 12 (.load 45 (.tmp 11)) 45,lo 5 (.alloc 45) 0,ln (.store 45 (.tmp 5) (.tmp 12)) 0]
abbrev ranks_List_r6:List LO:=[lo 13 (.fieldAddr 45 (.tmp 5) 1) 0,lo 14 (.load 3 (.tmp 13)) 3,lo 15 (.fieldAddr 45 (.tmp 5) 0) 0,lo 16 (.load 3 (.tmp 15)) 3,lo 17 (.binOp .sub 3 (.tmp 14) (.tmp 16) 3) 3,lo 18 (.move (.const (.int .i64 0))) 3]
abbrev ranks_List_r7:List LO:=[lo 19 (.binOp .lss 3 (.tmp 18) (.tmp 17) 3) 4]
abbrev ranks_List_r8:List LO:=[lm 20 18 3,lo 6 (.assign (.tmp 20)) 3]
abbrev ranks_List_r9:List LO:=[lm 21 3 31,lo 22 (.fieldAddr 45 (.tmp 5) 0) 0,lo 23 (.load 3 (.tmp 22)) 3,lm 24 6 3,lo 25 (.binOp .add 3 (.tmp 23) (.tmp 24) 3) 3,lo 26 (.buildSlice 31 1 #[(0,.tmp 25)]) 31,lo 27 (.call ⟨.builtin .append,#[.tmp 21,.tmp 26],#[31,31]⟩) 31,lo 3 (.assign (.tmp 27)) 31]
abbrev ranks_List_r10:List LO:=[lo 28 (.binOp .add 3 (.tmp 18) (.const (.int .i64 1)) 3) 3,lm 18 28 3]
abbrev ranks_List_r11:List LO:=[lo 29 (.binOp .add 3 (.tmp 9) (.const (.int .i64 1)) 3) 3,lm 9 29 3]
abbrev ranks_List_r12:List LO:=[lm 30 3 31,lo 2 (.assign (.tmp 30)) 31]
abbrev ranks_List_c:LC:=.seq (.reg false ranks_List_r1) (.seq (.reg false ranks_List_r2) (.seq (.seq (.reg false ranks_List_r3) (.block 0 (.loop (.seq (.reg false ranks_List_r4) (.seq (.cond (.tmp 10) .skip (.exit 0)) (.seq (.block 1 (.seq (.reg false ranks_List_r5) (.seq (.reg false ranks_List_r6) (.block 2 (.loop (.seq (.reg false ranks_List_r7) (.seq (.cond (.tmp 19) .skip (.exit 2)) (.seq (.block 3 (.seq (.reg false ranks_List_r8) (.reg false ranks_List_r9))) (.reg false ranks_List_r10))))))))) (.reg false ranks_List_r11))))))) (.seq (.reg false ranks_List_r12) .ret)))
theorem ranks_List_k:FnOk E 31 31 [.tmp 2] ranks_List_c:=⟨⟨Go.Proofs.Tryd.f31,by kernel_rfl,by kernel_rfl,by kernel_rfl,by kernel_rfl,by kernel_rfl⟩,rfl,rfl⟩
noncomputable def ranks_List_l1 (x22:S_api_Span):(List Int × Int)→Option (Step (List Int × Int) (List Int)):=fun (x24,x25)=>(if (decide (x25 < (w64 (x22.Hi - x22.Lo))))=true then Option.bind (app 8 x24 [(w64 (x22.Lo + x25))]) (fun x30=>some (Step.next (x30,(w64 (x25 + 1))))) else some (Step.done x24))
noncomputable def ranks_List_l2 (a0:(List S_api_Span)):(List Int × Int)→Option (Step (List Int × Int) (List Int)):=fun (x9,x10)=>(if (decide (x10 < (List.length a0:Int)))=true then Option.bind (ixl a0 x10) (fun x22=>Option.bind (loopC (ranks_List_l1 x22) (x9,0)) (fun x29=>some (Step.next (x29,(w64 (x10 + 1)))))) else some (Step.done x9))
noncomputable def ranks_List (a0:(List S_api_Span)):Option ((List Int)):=Option.bind (loopC (ranks_List_l2 a0) ([],0)) (fun x21=>some x21)
theorem ranks_List_ok (a0:(List S_api_Span)):Ct E 31 [.fsl 2 (List.map c_S_api_Span a0)] (ranks_List a0) (fun r:(List Int)=>.fsl 1 (List.map cI r)):=ct_intro (N:=31) (L:=ranks_List_c) ranks_List_k rfl (Nat.le_of_ble_eq_true rfl) (by kernel_rfl) (by
 unfold ranks_List
 refine jS ⟨[V 0 (.fsl 2 (List.map c_S_api_Span a0))],[],0⟩ ?_
 refine jS ⟨[V 0 (.fsl 2 (List.map c_S_api_Span a0)),V 3 (nilS)],[],0⟩ ?_
 refine jc_seq ?_
 refine jR ?_
 refine jG 0 3 ⟨[V 3 (nilS),V 7 (.fsl 2 (List.map c_S_api_Span a0)),V 8 (iv (List.length (List.map c_S_api_Span a0):Int)),V 9 (iv 0)],[],0⟩ ?_
 simp only[List.length_map]
 refine jN ?_
 refine jc_block ?_
 refine jc_bind (fun x21=>⟨[V 3 (.osl 0 0 (List.length x21) 1)],[(0,.rows 1 (List.map cI x21))],1⟩) (fun x21=>(.exit 0)) (jc_loop (fun (x9,x10)=>⟨[V 3 (.osl 0 0 (List.length x9) 1),V 7 (.fsl 2 (List.map c_S_api_Span a0)),V 8 (iv (List.length a0:Int)),V 9 (iv x10)],[(0,.rows 1 (List.map cI x9))],1⟩) (wkR [(0,none)] (fix_nil _) (pc hZ allp_nil)) ?_) ?_
 ·rintro⟨x9,x10⟩
  unfold ranks_List_l2
  refine jS ⟨[V 3 (.osl 0 0 (List.length x9) 1),V 7 (.fsl 2 (List.map c_S_api_Span a0)),V 8 (iv (List.length a0:Int)),V 9 (iv x10),V 10 (bv (decide (x10 < (List.length a0:Int))))],[(0,.rows 1 (List.map cI x9))],1⟩ ?_
  refine jc_seq ?_
  refine jIf ?_ ?_
  ·refine jc_skip ?_
   refine jx_seqN ?_
   refine jc_seq ?_
   refine jc_block ?_
   refine jR ?_
   refine jr_part (i:=0) (mo:=ixl a0 x10) rfl rfl rfl rfl (fun _ hc=>aop_ixf (c:=c_S_api_Span) (sz:=2) (e:=45) (kk:=.i64) (by kernel_rfl) (by kernel_rfl) (by kernel_rfl) (by kernel_rfl) hc) (fun _=>rfl) ?_
   intro x22 h22
   refine jG 1 3 ⟨[V 3 (.osl 0 0 (List.length x9) 1),V 5 (pt 1 2),V 7 (.fsl 2 (List.map c_S_api_Span a0)),V 8 (iv (List.length a0:Int)),V 9 (iv x10)],[(0,.rows 1 (List.map cI x9)),W 1 2 [iv x22.Lo,iv x22.Hi]],2⟩ ?_
   refine jN ?_
   refine jS ⟨[V 3 (.osl 0 0 (List.length x9) 1),V 5 (pt 1 2),V 7 (.fsl 2 (List.map c_S_api_Span a0)),V 8 (iv (List.length a0:Int)),V 9 (iv x10),V 17 (iv (w64 (x22.Hi - x22.Lo))),V 18 (iv 0)],[(0,.rows 1 (List.map cI x9)),W 1 2 [iv x22.Lo,iv x22.Hi]],2⟩ ?_
   refine jc_block ?_
   refine jc_bind (fun x29=>⟨[V 3 (.osl 0 0 (List.length x29) 1),V 7 (.fsl 2 (List.map c_S_api_Span a0)),V 8 (iv (List.length a0:Int)),V 9 (iv x10)],[(0,.rows 1 (List.map cI x29))],1⟩) (fun x29=>(.exit 2)) (jc_loop (fun (x24,x25)=>⟨[V 3 (.osl 0 0 (List.length x24) 1),V 5 (pt 1 2),V 7 (.fsl 2 (List.map c_S_api_Span a0)),V 8 (iv (List.length a0:Int)),V 9 (iv x10),V 17 (iv (w64 (x22.Hi - x22.Lo))),V 18 (iv x25)],[(0,.rows 1 (List.map cI x24)),W 1 2 [iv x22.Lo,iv x22.Hi]],2⟩) (wkR [(0,some 0),(1,some 1)] (fix_nil _) (pc (hL 0 (noid_map ni_I _)) (pc (hC 1) allp_nil))) ?_) ?_
   ·rintro⟨x24,x25⟩
    unfold ranks_List_l1
    refine jS ⟨[V 3 (.osl 0 0 (List.length x24) 1),V 5 (pt 1 2),V 7 (.fsl 2 (List.map c_S_api_Span a0)),V 8 (iv (List.length a0:Int)),V 9 (iv x10),V 17 (iv (w64 (x22.Hi - x22.Lo))),V 18 (iv x25),V 19 (bv (decide (x25 < (w64 (x22.Hi - x22.Lo)))))],[(0,.rows 1 (List.map cI x24)),W 1 2 [iv x22.Lo,iv x22.Hi]],2⟩ ?_
    refine jc_seq ?_
    refine jIf ?_ ?_
    ·refine jc_skip ?_
     refine jx_seqN ?_
     refine jc_seq ?_
     refine jc_block ?_
     refine jS ⟨[V 3 (.osl 0 0 (List.length x24) 1),V 5 (pt 1 2),V 6 (iv x25),V 7 (.fsl 2 (List.map c_S_api_Span a0)),V 8 (iv (List.length a0:Int)),V 9 (iv x10),V 17 (iv (w64 (x22.Hi - x22.Lo))),V 18 (iv x25)],[(0,.rows 1 (List.map cI x24)),W 1 2 [iv x22.Lo,iv x22.Hi]],2⟩ ?_
     refine jc_reg ?_
     refine jG 0 6 ⟨[V 5 (pt 1 2),V 7 (.fsl 2 (List.map c_S_api_Span a0)),V 8 (iv (List.length a0:Int)),V 9 (iv x10),V 17 (iv (w64 (x22.Hi - x22.Lo))),V 18 (iv x25),V 21 (.osl 0 0 (List.length x24) 1),V 26 (.osl 2 0 (List.length [(w64 (x22.Lo + x25))]) 1)],[(0,.rows 1 (List.map cI x24)),W 1 2 [iv x22.Lo,iv x22.Hi],(2,.rows 1 (List.map cI [(w64 (x22.Lo + x25))]))],3⟩ ?_
     refine jr_part (i:=6) (mo:=app 8 x24 [(w64 (x22.Lo + x25))]) rfl rfl rfl rfl (fun _ hc=>aop_app (u:=.osl 0 0 (List.length x24) 1) (w:=.osl 2 0 (List.length [(w64 (x22.Lo + x25))]) 1) (e:=3) (td:=.slice 3) (by kernel_rfl) (by kernel_rfl) (by kernel_rfl) (by kernel_rfl) (.inl ⟨_,rfl⟩) (appendOf_own (c:=cI) (sz:=1) (b:=8) (id:=0) (by kernel_rfl) (by kernel_rfl) (rows_own (by kernel_rfl)) (List.cons_ne_nil _ _) hc)) (fun _=>rfl) ?_
     intro x30 h30
     refine jG 7 1 ⟨[V 3 (.osl 3 0 (List.length x30) 1),V 5 (pt 1 2),V 7 (.fsl 2 (List.map c_S_api_Span a0)),V 8 (iv (List.length a0:Int)),V 9 (iv x10),V 17 (iv (w64 (x22.Hi - x22.Lo))),V 18 (iv x25)],[W 1 2 [iv x22.Lo,iv x22.Hi],(3,.rows 1 (List.map cI x30))],4⟩ ?_
     refine jr_nil rfl ?_
     refine jx_blkN ?_
     refine jx_seqN ?_
     refine jT ⟨[V 3 (.osl 3 0 (List.length x30) 1),V 5 (pt 1 2),V 7 (.fsl 2 (List.map c_S_api_Span a0)),V 8 (iv (List.length a0:Int)),V 9 (iv x10),V 17 (iv (w64 (x22.Hi - x22.Lo))),V 18 (iv (w64 (x25 + 1)))],[W 1 2 [iv x22.Lo,iv x22.Hi],(3,.rows 1 (List.map cI x30))],4⟩ ?_
     exact jx_next (wkR [(0,some 3),(1,some 1)] (fix_nil _) (pc (hL 3 (noid_map ni_I _)) (pc (hC 1) allp_nil)))
    refine jc_exit ?_
    refine jx_seqE ?_
    exact jx_done rfl nofun (wkR [(0,some 0)] (fix_nil _) (pc (hL 0 (noid_map ni_I _)) allp_nil))
   intro x29
   refine jx_blkE ?_
   refine jx_blkN ?_
   refine jx_seqN ?_
   refine jT ⟨[V 3 (.osl 0 0 (List.length x29) 1),V 7 (.fsl 2 (List.map c_S_api_Span a0)),V 8 (iv (List.length a0:Int)),V 9 (iv (w64 (x10 + 1)))],[(0,.rows 1 (List.map cI x29))],1⟩ ?_
   exact jx_next (wkR [(0,some 0)] (fix_nil _) (pc (hL 0 (noid_map ni_I _)) allp_nil))
  refine jc_exit ?_
  refine jx_seqE ?_
  exact jx_done rfl nofun (wkR [(0,some 0)] (fix_nil _) (pc (hL 0 (noid_map ni_I _)) allp_nil))
 intro x21
 refine jx_blkE ?_
 refine jx_seqN ?_
 refine jS ⟨[V 2 (.osl 0 0 (List.length x21) 1)],[(0,.rows 1 (List.map cI x21))],1⟩ ?_
 refine jc_ret ?_
 exact jx_retF (.inr rfl) (v:=.osl 0 0 (List.length x21) 1) (by kernel_rfl) (snapc_own fz_I (by kernel_rfl)) (fle_refl _))
abbrev ranks_Count_r1:List LO:=[lo 2 (.assign (.const (.int .i64 0))) 3]
abbrev ranks_Count_r2:List LO:=[lo 3 (.assign (.const (.int .i64 0))) 3]
abbrev ranks_Count_r3:List LO:=[lm 6 0 22,lo 7 (.call ⟨.builtin .len,#[.tmp 6],#[22]⟩) 3,lo 8 (.move (.const (.int .i64 0))) 3]
abbrev ranks_Count_r4:List LO:=[lo 9 (.binOp .lss 3 (.tmp 8) (.tmp 7) 3) 0]
abbrev ranks_Count_r5:List LO:=[lo 10 (.indexAddr 22 (.tmp 6) (.tmp 8)) 0,lo 11 (.load 45 (.tmp 10)) 45,lo 5 (.alloc 45) 0,ln (.store 45 (.tmp 5) (.tmp 11)) 0]
abbrev ranks_Count_r6:List LO:=[lm 12 3 3,lo 13 (.fieldAddr 45 (.tmp 5) 1) 0,lo 14 (.load 3 (.tmp 13)) 3,lo 15 (.fieldAddr 45 (.tmp 5) 0) 0,lo 16 (.load 3 (.tmp 15)) 3,lo 17 (.binOp .sub 3 (.tmp 14) (.tmp 16) 3) 3,lo 18 (.binOp .add 3 (.tmp 12) (.tmp 17) 3) 3,lo 3 (.assign (.tmp 18)) 3]
abbrev ranks_Count_r7:List LO:=[lo 19 (.binOp .add 3 (.tmp 8) (.const (.int .i64 1)) 3) 3,lm 8 19 3]
abbrev ranks_Count_r8:List LO:=[lm 20 3 3,lo 2 (.assign (.tmp 20)) 3]
abbrev ranks_Count_c:LC:=.seq (.reg false ranks_Count_r1) (.seq (.reg false ranks_Count_r2) (.seq (.seq (.reg false ranks_Count_r3) (.block 0 (.loop (.seq (.reg false ranks_Count_r4) (.seq (.cond (.tmp 9) .skip (.exit 0)) (.seq (.block 1 (.seq (.reg false ranks_Count_r5) (.reg false ranks_Count_r6))) (.reg false ranks_Count_r7))))))) (.seq (.reg false ranks_Count_r8) .ret)))
theorem ranks_Count_k:FnOk E 33 21 [.tmp 2] ranks_Count_c:=⟨⟨Go.Proofs.Tryd.f33,by kernel_rfl,by kernel_rfl,by kernel_rfl,by kernel_rfl,by kernel_rfl⟩,rfl,rfl⟩
noncomputable def ranks_Count_l1 (a0:(List S_api_Span)):(Int × Int)→Option (Step (Int × Int) (Int)):=fun (x2,x3)=>(if (decide (x3 < (List.length a0:Int)))=true then Option.bind (ixl a0 x3) (fun x8=>some (Step.next ((w64 (x2 + (w64 (x8.Hi - x8.Lo)))),(w64 (x3 + 1))))) else some (Step.done x2))
noncomputable def ranks_Count (a0:(List S_api_Span)):Option (Int):=Option.bind (loopC (ranks_Count_l1 a0) (0,0)) (fun x7=>some x7)
theorem ranks_Count_ok (a0:(List S_api_Span)):Ct E 33 [.fsl 2 (List.map c_S_api_Span a0)] (ranks_Count a0) (fun r:Int=>iv r):=ct_intro (N:=21) (L:=ranks_Count_c) ranks_Count_k rfl (Nat.le_of_ble_eq_true rfl) (by kernel_rfl) (by
 unfold ranks_Count
 refine jS ⟨[V 0 (.fsl 2 (List.map c_S_api_Span a0))],[],0⟩ ?_
 refine jS ⟨[V 0 (.fsl 2 (List.map c_S_api_Span a0)),V 3 (iv 0)],[],0⟩ ?_
 refine jc_seq ?_
 refine jR ?_
 refine jG 0 3 ⟨[V 3 (iv 0),V 6 (.fsl 2 (List.map c_S_api_Span a0)),V 7 (iv (List.length (List.map c_S_api_Span a0):Int)),V 8 (iv 0)],[],0⟩ ?_
 simp only[List.length_map]
 refine jN ?_
 refine jc_block ?_
 refine jc_bind (fun x7=>⟨[V 3 (iv x7)],[],0⟩) (fun x7=>(.exit 0)) (jc_loop (fun (x2,x3)=>⟨[V 3 (iv x2),V 6 (.fsl 2 (List.map c_S_api_Span a0)),V 7 (iv (List.length a0:Int)),V 8 (iv x3)],[],0⟩) (wkR [] (fix_nil _) allp_nil) ?_) ?_
 ·rintro⟨x2,x3⟩
  unfold ranks_Count_l1
  refine jS ⟨[V 3 (iv x2),V 6 (.fsl 2 (List.map c_S_api_Span a0)),V 7 (iv (List.length a0:Int)),V 8 (iv x3),V 9 (bv (decide (x3 < (List.length a0:Int))))],[],0⟩ ?_
  refine jc_seq ?_
  refine jIf ?_ ?_
  ·refine jc_skip ?_
   refine jx_seqN ?_
   refine jc_seq ?_
   refine jc_block ?_
   refine jR ?_
   refine jr_part (i:=0) (mo:=ixl a0 x3) rfl rfl rfl rfl (fun _ hc=>aop_ixf (c:=c_S_api_Span) (sz:=2) (e:=45) (kk:=.i64) (by kernel_rfl) (by kernel_rfl) (by kernel_rfl) (by kernel_rfl) hc) (fun _=>rfl) ?_
   intro x8 h8
   refine jG 1 3 ⟨[V 3 (iv x2),V 5 (pt 0 2),V 6 (.fsl 2 (List.map c_S_api_Span a0)),V 7 (iv (List.length a0:Int)),V 8 (iv x3)],[W 0 2 [iv x8.Lo,iv x8.Hi]],1⟩ ?_
   refine jN ?_
   refine jT ⟨[V 3 (iv (w64 (x2 + (w64 (x8.Hi - x8.Lo))))),V 6 (.fsl 2 (List.map c_S_api_Span a0)),V 7 (iv (List.length a0:Int)),V 8 (iv x3)],[],1⟩ ?_
   refine jx_blkN ?_
   refine jx_seqN ?_
   refine jT ⟨[V 3 (iv (w64 (x2 + (w64 (x8.Hi - x8.Lo))))),V 6 (.fsl 2 (List.map c_S_api_Span a0)),V 7 (iv (List.length a0:Int)),V 8 (iv (w64 (x3 + 1)))],[],1⟩ ?_
   exact jx_next (wkR [] (fix_nil _) allp_nil)
  refine jc_exit ?_
  refine jx_seqE ?_
  exact jx_done rfl nofun (wkR [] (fix_nil _) allp_nil)
 intro x7
 refine jx_blkE ?_
 refine jx_seqN ?_
 refine jS ⟨[V 2 (iv x7)],[],0⟩ ?_
 refine jc_ret ?_
 exact jx_retF (.inr rfl) (v:=iv x7) (by kernel_rfl) rfl (fle_refl _))
abbrev ranks_Within_r1:List LO:=[lo 4 (.assign (.const (.bool false))) 4]
abbrev ranks_Within_r2:List LO:=[lm 5 0 22,lm 6 1 22,lo 7 (.call ⟨.value (.func 15),#[.tmp 5,.tmp 6],#[22,22]⟩) 22,lo 8 (.call ⟨.builtin .len,#[.tmp 7],#[22]⟩) 3,lo 9 (.binOp .eql 3 (.tmp 8) (.const (.int .i64 0)) 3) 4,lo 4 (.assign (.tmp 9)) 4]
abbrev ranks_Within_c:LC:=.seq (.reg false ranks_Within_r1) (.seq (.reg false ranks_Within_r2) .ret)
theorem ranks_Within_k:FnOk E 35 10 [.tmp 4] ranks_Within_c:=⟨⟨Go.Proofs.Tryd.f35,by kernel_rfl,by kernel_rfl,by kernel_rfl,by kernel_rfl,by kernel_rfl⟩,rfl,rfl⟩
noncomputable def ranks_Within (a0:(List S_api_Span)) (a1:(List S_api_Span)):Option (Bool):=Option.bind (ranks_Minus a0 a1) (fun x1=>some ((List.length x1:Int) == 0))
theorem ranks_Within_ok (a0:(List S_api_Span)) (a1:(List S_api_Span)):Ct E 35 [.fsl 2 (List.map c_S_api_Span a0),.fsl 2 (List.map c_S_api_Span a1)] (ranks_Within a0 a1) (fun r:Bool=>bv r):=ct_intro (N:=10) (L:=ranks_Within_c) ranks_Within_k rfl (Nat.le_of_ble_eq_true rfl) (by kernel_rfl) (by
 unfold ranks_Within
 refine jS ⟨[V 0 (.fsl 2 (List.map c_S_api_Span a0)),V 1 (.fsl 2 (List.map c_S_api_Span a1))],[],0⟩ ?_
 refine jR ?_
 refine jG 0 2 ⟨[V 5 (.fsl 2 (List.map c_S_api_Span a0)),V 6 (.fsl 2 (List.map c_S_api_Span a1))],[],0⟩ ?_
 refine jK 2 (ranks_Minus_ok a0 a1) ?_
 intro x1 h1
 refine jG 3 3 ⟨[V 4 (bv ((List.length (List.map c_S_api_Span x1):Int) == 0))],[],0⟩ ?_
 simp only[List.length_map]
 refine jN ?_
 refine jc_ret ?_
 exact jx_retF (.inr rfl) (v:=bv ((List.length x1:Int) == 0)) (by kernel_rfl) rfl (fle_refl _))
abbrev law07_ints_r1:List LO:=[lo 4 (.assign (.const (.bool false))) 4]
abbrev law07_ints_r2:List LO:=[lm 6 0 31,lo 7 (.call ⟨.builtin .len,#[.tmp 6],#[31]⟩) 3,lm 8 1 31,lo 9 (.call ⟨.builtin .len,#[.tmp 8],#[31]⟩) 3,lo 10 (.binOp .neq 3 (.tmp 7) (.tmp 9) 3) 4]
abbrev law07_ints_r3:List LO:=[lo 4 (.assign (.const (.bool false))) 4]
abbrev law07_ints_r4:List LO:=[lm 11 0 31,lo 12 (.call ⟨.builtin .len,#[.tmp 11],#[31]⟩) 3,lo 13 (.move (.const (.int .i64 0))) 3]
abbrev law07_ints_r5:List LO:=[lo 14 (.binOp .lss 3 (.tmp 13) (.tmp 12) 3) 0]
abbrev law07_ints_r6:List LO:=[lm 15 13 3,lo 5 (.assign (.tmp 15)) 3]
abbrev law07_ints_r7:List LO:=[lm 16 0 31,lm 17 5 3,lo 18 (.indexAddr 31 (.tmp 16) (.tmp 17)) 0,lo 19 (.load 3 (.tmp 18)) 3,lm 20 1 31,lm 21 5 3,lo 22 (.indexAddr 31 (.tmp 20) (.tmp 21)) 0,lo 23 (.load 3 (.tmp 22)) 3,lo 24 (.binOp .neq 3 (.tmp 19) (.tmp 23) 3) 4]
abbrev law07_ints_r8:List LO:=[lo 4 (.assign (.const (.bool false))) 4]
abbrev law07_ints_r9:List LO:=[lo 25 (.binOp .add 3 (.tmp 13) (.const (.int .i64 1)) 3) 3,lm 13 25 3]
abbrev law07_ints_r10:List LO:=[lo 4 (.assign (.const (.bool true))) 4]
abbrev law07_ints_c:LC:=.seq (.reg false law07_ints_r1) (.seq (.seq (.reg false law07_ints_r2) (.cond (.tmp 10) (.seq (.reg false law07_ints_r3) .ret) .skip)) (.seq (.seq (.reg false law07_ints_r4) (.block 0 (.loop (.seq (.reg false law07_ints_r5) (.seq (.cond (.tmp 14) .skip (.exit 0)) (.seq (.block 1 (.seq (.reg false law07_ints_r6) (.seq (.reg true law07_ints_r7) (.cond (.tmp 24) (.seq (.reg false law07_ints_r8) .ret) .skip)))) (.reg false law07_ints_r9))))))) (.seq (.reg false law07_ints_r10) .ret)))
theorem law07_ints_k:FnOk E 30 26 [.tmp 4] law07_ints_c:=⟨⟨Go.Proofs.Tryd.f30,by kernel_rfl,by kernel_rfl,by kernel_rfl,by kernel_rfl,by kernel_rfl⟩,rfl,rfl⟩
noncomputable def law07_ints_l1 (a0:(List Int)) (a1:(List Int)):Int→Option (Step (Int) ((Unit) ⊕ (Unit))):=fun x3=>(if (decide (x3 < (List.length a0:Int)))=true then Option.bind (ixl a0 x3) (fun x7=>Option.bind (ixl a1 x3) (fun x8=>(if (x7 != x8)=true then some (Step.done (Sum.inl ())) else some (Step.next (w64 (x3 + 1)))))) else some (Step.done (Sum.inr ())))
noncomputable def law07_ints (a0:(List Int)) (a1:(List Int)):Option (Bool):=(if ((List.length a0:Int) != (List.length a1:Int))=true then some false else Option.bind (loopC (law07_ints_l1 a0 a1) 0) (fun y=>match y with | Sum.inl _=>some false | Sum.inr _=>some true))
theorem law07_ints_ok (a0:(List Int)) (a1:(List Int)):Ct E 30 [.fsl 1 (List.map cI a0),.fsl 1 (List.map cI a1)] (law07_ints a0 a1) (fun r:Bool=>bv r):=ct_intro (N:=26) (L:=law07_ints_c) law07_ints_k rfl (Nat.le_of_ble_eq_true rfl) (by kernel_rfl) (by
 unfold law07_ints
 refine jS ⟨[V 0 (.fsl 1 (List.map cI a0)),V 1 (.fsl 1 (List.map cI a1))],[],0⟩ ?_
 refine jc_seq ?_
 refine jR ?_
 refine jG 0 5 ⟨[V 0 (.fsl 1 (List.map cI a0)),V 1 (.fsl 1 (List.map cI a1)),V 10 (bv ((List.length (List.map cI a0):Int) != (List.length (List.map cI a1):Int)))],[],0⟩ ?_
 simp only[List.length_map]
 refine jN ?_
 refine jIf ?_ ?_
 ·refine jS ⟨[V 4 (bv false)],[],0⟩ ?_
  refine jc_ret ?_
  refine jx_seqR ?_
  exact jx_retF (.inr rfl) (v:=bv false) (by kernel_rfl) rfl (fle_refl _)
 refine jc_skip ?_
 refine jx_seqN ?_
 refine jc_seq ?_
 refine jR ?_
 refine jG 0 3 ⟨[V 0 (.fsl 1 (List.map cI a0)),V 1 (.fsl 1 (List.map cI a1)),V 12 (iv (List.length (List.map cI a0):Int)),V 13 (iv 0)],[],0⟩ ?_
 simp only[List.length_map]
 refine jN ?_
 refine jc_block ?_
 refine jc_bind (fun y=>match y with | Sum.inl _=>⟨[V 4 (bv false)],[],0⟩ | Sum.inr _=>⟨[],[],0⟩) (fun y=>match y with | Sum.inl _=>.ret | Sum.inr _=>(.exit 0)) (jc_loop (fun x3=>⟨[V 0 (.fsl 1 (List.map cI a0)),V 1 (.fsl 1 (List.map cI a1)),V 12 (iv (List.length a0:Int)),V 13 (iv x3)],[],0⟩) (wkR [] (fix_nil _) allp_nil) ?_) ?_
 ·intro x3
  unfold law07_ints_l1
  refine jS ⟨[V 0 (.fsl 1 (List.map cI a0)),V 1 (.fsl 1 (List.map cI a1)),V 12 (iv (List.length a0:Int)),V 13 (iv x3),V 14 (bv (decide (x3 < (List.length a0:Int))))],[],0⟩ ?_
  refine jc_seq ?_
  refine jIf ?_ ?_
  ·refine jc_skip ?_
   refine jx_seqN ?_
   refine jc_seq ?_
   refine jc_block ?_
   refine jS ⟨[V 0 (.fsl 1 (List.map cI a0)),V 1 (.fsl 1 (List.map cI a1)),V 5 (iv x3),V 12 (iv (List.length a0:Int)),V 13 (iv x3)],[],0⟩ ?_
   refine jR ?_
   refine jG 0 2 ⟨[V 0 (.fsl 1 (List.map cI a0)),V 1 (.fsl 1 (List.map cI a1)),V 5 (iv x3),V 12 (iv (List.length a0:Int)),V 13 (iv x3),V 16 (.fsl 1 (List.map cI a0)),V 17 (iv x3)],[],0⟩ ?_
   refine jr_part (i:=2) (mo:=ixl a0 x3) rfl rfl rfl rfl (fun _ hc=>aop_ixf (c:=cI) (sz:=1) (e:=3) (kk:=.i64) (by kernel_rfl) (by kernel_rfl) (by kernel_rfl) (by kernel_rfl) hc) (fun _=>rfl) ?_
   intro x7 h7
   refine jG 3 3 ⟨[V 0 (.fsl 1 (List.map cI a0)),V 1 (.fsl 1 (List.map cI a1)),V 12 (iv (List.length a0:Int)),V 13 (iv x3),V 19 (iv x7),V 20 (.fsl 1 (List.map cI a1)),V 21 (iv x3)],[],0⟩ ?_
   refine jr_part (i:=6) (mo:=ixl a1 x3) rfl rfl rfl rfl (fun _ hc=>aop_ixf (c:=cI) (sz:=1) (e:=3) (kk:=.i64) (by kernel_rfl) (by kernel_rfl) (by kernel_rfl) (by kernel_rfl) hc) (fun _=>rfl) ?_
   intro x8 h8
   refine jG 7 2 ⟨[V 0 (.fsl 1 (List.map cI a0)),V 1 (.fsl 1 (List.map cI a1)),V 12 (iv (List.length a0:Int)),V 13 (iv x3),V 24 (bv (x7 != x8))],[],0⟩ ?_
   refine jN ?_
   refine jIf ?_ ?_
   ·refine jS ⟨[V 4 (bv false)],[],0⟩ ?_
    refine jc_ret ?_
    refine jx_blkR ?_
    refine jx_seqR ?_
    exact jx_done rfl nofun (wkR [] (fix_nil _) allp_nil)
   refine jc_skip ?_
   refine jx_blkN ?_
   refine jx_seqN ?_
   refine jT ⟨[V 0 (.fsl 1 (List.map cI a0)),V 1 (.fsl 1 (List.map cI a1)),V 12 (iv (List.length a0:Int)),V 13 (iv (w64 (x3 + 1)))],[],0⟩ ?_
   exact jx_next (wkR [] (fix_nil _) allp_nil)
  refine jc_exit ?_
  refine jx_seqE ?_
  exact jx_done rfl nofun (wkR [] (fix_nil _) allp_nil)
 rintro (_ | _)
 ·refine jx_blkR ?_
  refine jx_seqR ?_
  exact jx_retF (.inr rfl) (v:=bv false) (by kernel_rfl) rfl (fle_refl _)
 refine jx_blkE ?_
 refine jx_seqN ?_
 refine jS ⟨[V 4 (bv true)],[],0⟩ ?_
 refine jc_ret ?_
 exact jx_retF (.inr rfl) (v:=bv true) (by kernel_rfl) rfl (fle_refl _))
abbrev ref07_Has_r1:List LO:=[lo 4 (.assign (.const (.bool false))) 4]
abbrev ref07_Has_r2:List LO:=[lo 5 (.assign (.const (.int .i64 0))) 3]
abbrev ref07_Has_r3:List LO:=[lm 6 5 3,lm 7 0 22,lo 8 (.call ⟨.builtin .len,#[.tmp 7],#[22]⟩) 3,lo 9 (.binOp .lss 3 (.tmp 6) (.tmp 8) 3) 4]
abbrev ref07_Has_r4:List LO:=[lm 12 1 3,lm 13 0 22,lm 14 5 3,lo 15 (.indexAddr 22 (.tmp 13) (.tmp 14)) 0,lo 16 (.fieldAddr 45 (.tmp 15) 0) 0,lo 17 (.load 3 (.tmp 16)) 3,lo 18 (.binOp .geq 3 (.tmp 12) (.tmp 17) 3) 4,lm 19 18 4,lmg 20 1 3 19 true,lmg 21 0 22 19 true,lmg 22 5 3 19 true,lg 23 (.indexAddr 22 (.tmp 21) (.tmp 22)) 0 19 true,lg 24 (.fieldAddr 45 (.tmp 23) 1) 0 19 true,lg 25 (.load 3 (.tmp 24)) 3 19 true,lg 26 (.binOp .lss 3 (.tmp 20) (.tmp 25) 3) 4 19 true,lo 27 (.pick (.tmp 19) (.tmp 26) (.const (.bool false))) 4]
abbrev ref07_Has_r5:List LO:=[lo 4 (.assign (.const (.bool true))) 4]
abbrev ref07_Has_r6:List LO:=[lm 10 5 3,lo 11 (.binOp .add 3 (.tmp 10) (.const (.int .i64 1)) 3) 3,lo 5 (.assign (.tmp 11)) 3]
abbrev ref07_Has_r7:List LO:=[lo 4 (.assign (.const (.bool false))) 4]
abbrev ref07_Has_c:LC:=.seq (.reg false ref07_Has_r1) (.seq (.seq (.reg false ref07_Has_r2) (.block 0 (.loop (.seq (.seq (.reg false ref07_Has_r3) (.cond (.tmp 9) .skip (.exit 0))) (.seq (.block 1 (.seq (.reg false ref07_Has_r4) (.cond (.tmp 27) (.seq (.reg false ref07_Has_r5) .ret) .skip))) (.reg false ref07_Has_r6)))))) (.seq (.reg false ref07_Has_r7) .ret))
theorem ref07_Has_k:FnOk E 29 28 [.tmp 4] ref07_Has_c:=⟨⟨Go.Proofs.Tryd.f29,by kernel_rfl,by kernel_rfl,by kernel_rfl,by kernel_rfl,by kernel_rfl⟩,rfl,rfl⟩
noncomputable def ref07_Has_l1 (a0:(List S_api_Span)) (a1:Int):Int→Option (Step (Int) ((Unit) ⊕ (Unit))):=fun x4=>(if (decide (x4 < (List.length a0:Int)))=true then Option.bind (ixl a0 x4) (fun x9=>Option.bind (if (decide (a1≥x9.Lo))=true then Option.bind (ixl a0 x4) (fun x12=>some (decide (a1 < x12.Hi))) else some false:Option (Bool)) (fun x11=>(if x11=true then some (Step.done (Sum.inl ())) else some (Step.next (w64 (x4 + 1)))))) else some (Step.done (Sum.inr ())))
noncomputable def ref07_Has (a0:(List S_api_Span)) (a1:Int):Option (Bool):=Option.bind (loopC (ref07_Has_l1 a0 a1) 0) (fun y=>match y with | Sum.inl _=>some true | Sum.inr _=>some false)
theorem ref07_Has_ok (a0:(List S_api_Span)) (a1:Int):Ct E 29 [.fsl 2 (List.map c_S_api_Span a0),iv a1] (ref07_Has a0 a1) (fun r:Bool=>bv r):=ct_intro (N:=28) (L:=ref07_Has_c) ref07_Has_k rfl (Nat.le_of_ble_eq_true rfl) (by kernel_rfl) (by
 unfold ref07_Has
 refine jS ⟨[V 0 (.fsl 2 (List.map c_S_api_Span a0)),V 1 (iv a1)],[],0⟩ ?_
 refine jc_seq ?_
 refine jS ⟨[V 0 (.fsl 2 (List.map c_S_api_Span a0)),V 1 (iv a1),V 5 (iv 0)],[],0⟩ ?_
 refine jc_block ?_
 refine jc_bind (fun y=>match y with | Sum.inl _=>⟨[V 4 (bv true)],[],0⟩ | Sum.inr _=>⟨[],[],0⟩) (fun y=>match y with | Sum.inl _=>.ret | Sum.inr _=>(.exit 0)) (jc_loop (fun x4=>⟨[V 0 (.fsl 2 (List.map c_S_api_Span a0)),V 1 (iv a1),V 5 (iv x4)],[],0⟩) (wkR [] (fix_nil _) allp_nil) ?_) ?_
 ·intro x4
  unfold ref07_Has_l1
  refine jc_seq ?_
  refine jR ?_
  refine jG 0 4 ⟨[V 0 (.fsl 2 (List.map c_S_api_Span a0)),V 1 (iv a1),V 5 (iv x4),V 9 (bv (decide (x4 < (List.length (List.map c_S_api_Span a0):Int))))],[],0⟩ ?_
  simp only[List.length_map]
  refine jN ?_
  refine jIf ?_ ?_
  ·refine jc_skip ?_
   refine jx_seqN ?_
   refine jc_seq ?_
   refine jc_block ?_
   refine jR ?_
   refine jG 0 3 ⟨[V 0 (.fsl 2 (List.map c_S_api_Span a0)),V 1 (iv a1),V 5 (iv x4),V 12 (iv a1),V 13 (.fsl 2 (List.map c_S_api_Span a0)),V 14 (iv x4)],[],0⟩ ?_
   refine jr_part (i:=3) (mo:=ixl a0 x4) rfl rfl rfl rfl (fun _ hc=>aop_ixf (c:=c_S_api_Span) (sz:=2) (e:=45) (kk:=.i64) (by kernel_rfl) (by kernel_rfl) (by kernel_rfl) (by kernel_rfl) hc) (fun _=>rfl) ?_
   intro x9 h9
   refine jG 4 4 ⟨[V 0 (.fsl 2 (List.map c_S_api_Span a0)),V 1 (iv a1),V 5 (iv x4),V 19 (bv (decide (a1≥x9.Lo)))],[],0⟩ ?_
   refine jr_bind 8 8 (fun x11=>⟨[V 0 (.fsl 2 (List.map c_S_api_Span a0)),V 1 (iv a1),V 5 (iv x4),V 27 (bv x11)],[],0⟩) ?_ ?_
   ·refine jSp 19 ?_ ?_
    ·refine jG 0 3 ⟨[V 0 (.fsl 2 (List.map c_S_api_Span a0)),V 1 (iv a1),V 5 (iv x4),(19,.lit true),V 20 (iv a1),V 21 (.fsl 2 (List.map c_S_api_Span a0)),V 22 (iv x4)],[],0⟩ ?_
     refine jr_part (i:=3) (mo:=ixl a0 x4) rfl rfl rfl rfl (fun _ hc=>aop_ixf (c:=c_S_api_Span) (sz:=2) (e:=45) (kk:=.i64) (by kernel_rfl) (by kernel_rfl) (by kernel_rfl) (by kernel_rfl) hc) (fun _=>rfl) ?_
     intro x12 h12
     refine jG 4 4 ⟨[V 0 (.fsl 2 (List.map c_S_api_Span a0)),V 1 (iv a1),V 5 (iv x4),V 27 (bv (decide (a1 < x12.Hi)))],[],0⟩ ?_
     refine jr_nil rfl ?_
     exact jx_mid rfl (wkR [] (fix_nil _) allp_nil)
    refine jG 0 8 ⟨[V 0 (.fsl 2 (List.map c_S_api_Span a0)),V 1 (iv a1),V 5 (iv x4),V 27 (bv false)],[],0⟩ ?_
    refine jr_nil rfl ?_
    exact jx_mid rfl (wkR [] (fix_nil _) allp_nil)
   intro x11
   refine jN ?_
   refine jIf ?_ ?_
   ·refine jS ⟨[V 4 (bv true)],[],0⟩ ?_
    refine jc_ret ?_
    refine jx_blkR ?_
    refine jx_seqR ?_
    exact jx_done rfl nofun (wkR [] (fix_nil _) allp_nil)
   refine jc_skip ?_
   refine jx_blkN ?_
   refine jx_seqN ?_
   refine jT ⟨[V 0 (.fsl 2 (List.map c_S_api_Span a0)),V 1 (iv a1),V 5 (iv (w64 (x4 + 1)))],[],0⟩ ?_
   exact jx_next (wkR [] (fix_nil _) allp_nil)
  refine jc_exit ?_
  refine jx_seqE ?_
  exact jx_done rfl nofun (wkR [] (fix_nil _) allp_nil)
 rintro (_ | _)
 ·refine jx_blkR ?_
  refine jx_seqR ?_
  exact jx_retF (.inr rfl) (v:=bv true) (by kernel_rfl) rfl (fle_refl _)
 refine jx_blkE ?_
 refine jx_seqN ?_
 refine jS ⟨[V 4 (bv false)],[],0⟩ ?_
 refine jc_ret ?_
 exact jx_retF (.inr rfl) (v:=bv false) (by kernel_rfl) rfl (fle_refl _))
abbrev ref07_List_r1:List LO:=[lo 2 (.assign (.const (.slice none 0 0))) 31]
abbrev ref07_List_r2:List LO:=[lo 3 (.assign (.const (.slice none 0 0))) 31]
abbrev ref07_List_r3:List LO:=[lo 4 (.assign (.const (.int .i64 0))) 3]
abbrev ref07_List_r4:List LO:=[lm 6 4 3,lm 7 0 22,lo 8 (.call ⟨.builtin .len,#[.tmp 7],#[22]⟩) 3,lo 9 (.binOp .lss 3 (.tmp 6) (.tmp 8) 3) 4]
abbrev ref07_List_r5:List LO:=[lm 12 0 22,lm 13 4 3,lo 14 (.indexAddr 22 (.tmp 12) (.tmp 13)) 0,lo 15 (.fieldAddr 45 (.tmp 14) 0) 0,lo 16 (.load 3 (.tmp 15)) 3,lo 5 (.assign (.tmp 16)) 3]
abbrev ref07_List_r6:List LO:=[lm 17 5 3,lm 18 0 22,lm 19 4 3,lo 20 (.indexAddr 22 (.tmp 18) (.tmp 19)) 0,lo 21 (.fieldAddr 45 (.tmp 20) 1) 0,lo 22 (.load 3 (.tmp 21)) 3,lo 23 (.binOp .lss 3 (.tmp 17) (.tmp 22) 3) 4]
abbrev ref07_List_r7:List LO:=[lm 26 3 31,lm 27 5 3,lo 28 (.buildSlice 31 1 #[(0,.tmp 27)]) 31,lo 29 (.call ⟨.builtin .append,#[.tmp 26,.tmp 28],#[31,31]⟩) 31,lo 3 (.assign (.tmp 29)) 31]
abbrev ref07_List_r8:List LO:=[lm 24 5 3,lo 25 (.binOp .add 3 (.tmp 24) (.const (.int .i64 1)) 3) 3,lo 5 (.assign (.tmp 25)) 3]
abbrev ref07_List_r9:List LO:=[lm 10 4 3,lo 11 (.binOp .add 3 (.tmp 10) (.const (.int .i64 1)) 3) 3,lo 4 (.assign (.tmp 11)) 3]
abbrev ref07_List_r10:List LO:=[lm 30 3 31,lo 2 (.assign (.tmp 30)) 31]
abbrev ref07_List_c:LC:=.seq (.reg false ref07_List_r1) (.seq (.reg false ref07_List_r2) (.seq (.seq (.reg false ref07_List_r3) (.block 0 (.loop (.seq (.seq (.reg false ref07_List_r4) (.cond (.tmp 9) .skip (.exit 0))) (.seq (.block 1 (.seq (.reg false ref07_List_r5) (.block 2 (.loop (.seq (.seq (.reg false ref07_List_r6) (.cond (.tmp 23) .skip (.exit 2))) (.seq (.block 3 (.reg false ref07_List_r7)) (.reg false ref07_List_r8))))))) (.reg false ref07_List_r9)))))) (.seq (.reg false ref07_List_r10) .ret)))
theorem ref07_List_k:FnOk E 32 31 [.tmp 2] ref07_List_c:=⟨⟨Go.Proofs.Tryd.f32,by kernel_rfl,by kernel_rfl,by kernel_rfl,by kernel_rfl,by kernel_rfl⟩,rfl,rfl⟩
noncomputable def ref07_List_l1 (a0:(List S_api_Span)) (x12:Int):(List Int × Int)→Option (Step (List Int × Int) (List Int)):=fun (x29,x30)=>Option.bind (ixl a0 x12) (fun x36=>(if (decide (x30 < x36.Hi))=true then Option.bind (app 8 x29 [x30]) (fun x37=>some (Step.next (x37,(w64 (x30 + 1))))) else some (Step.done x29)))
noncomputable def ref07_List_l2 (a0:(List S_api_Span)):(List Int × Int)→Option (Step (List Int × Int) (List Int)):=fun (x11,x12)=>(if (decide (x12 < (List.length a0:Int)))=true then Option.bind (ixl a0 x12) (fun x26=>Option.bind (loopC (ref07_List_l1 a0 x12) (x11,x26.Lo)) (fun x35=>some (Step.next (x35,(w64 (x12 + 1)))))) else some (Step.done x11))
noncomputable def ref07_List (a0:(List S_api_Span)):Option ((List Int)):=Option.bind (loopC (ref07_List_l2 a0) ([],0)) (fun x25=>some x25)
theorem ref07_List_ok (a0:(List S_api_Span)):Ct E 32 [.fsl 2 (List.map c_S_api_Span a0)] (ref07_List a0) (fun r:(List Int)=>.fsl 1 (List.map cI r)):=ct_intro (N:=31) (L:=ref07_List_c) ref07_List_k rfl (Nat.le_of_ble_eq_true rfl) (by kernel_rfl) (by
 unfold ref07_List
 refine jS ⟨[V 0 (.fsl 2 (List.map c_S_api_Span a0))],[],0⟩ ?_
 refine jS ⟨[V 0 (.fsl 2 (List.map c_S_api_Span a0)),V 3 (nilS)],[],0⟩ ?_
 refine jc_seq ?_
 refine jS ⟨[V 0 (.fsl 2 (List.map c_S_api_Span a0)),V 3 (nilS),V 4 (iv 0)],[],0⟩ ?_
 refine jc_block ?_
 refine jc_bind (fun x25=>⟨[V 3 (.osl 0 0 (List.length x25) 1)],[(0,.rows 1 (List.map cI x25))],1⟩) (fun x25=>(.exit 0)) (jc_loop (fun (x11,x12)=>⟨[V 0 (.fsl 2 (List.map c_S_api_Span a0)),V 3 (.osl 0 0 (List.length x11) 1),V 4 (iv x12)],[(0,.rows 1 (List.map cI x11))],1⟩) (wkR [(0,none)] (fix_nil _) (pc hZ allp_nil)) ?_) ?_
 ·rintro⟨x11,x12⟩
  unfold ref07_List_l2
  refine jc_seq ?_
  refine jR ?_
  refine jG 0 4 ⟨[V 0 (.fsl 2 (List.map c_S_api_Span a0)),V 3 (.osl 0 0 (List.length x11) 1),V 4 (iv x12),V 9 (bv (decide (x12 < (List.length (List.map c_S_api_Span a0):Int))))],[(0,.rows 1 (List.map cI x11))],1⟩ ?_
  simp only[List.length_map]
  refine jN ?_
  refine jIf ?_ ?_
  ·refine jc_skip ?_
   refine jx_seqN ?_
   refine jc_seq ?_
   refine jc_block ?_
   refine jR ?_
   refine jG 0 2 ⟨[V 0 (.fsl 2 (List.map c_S_api_Span a0)),V 3 (.osl 0 0 (List.length x11) 1),V 4 (iv x12),V 12 (.fsl 2 (List.map c_S_api_Span a0)),V 13 (iv x12)],[(0,.rows 1 (List.map cI x11))],1⟩ ?_
   refine jr_part (i:=2) (mo:=ixl a0 x12) rfl rfl rfl rfl (fun _ hc=>aop_ixf (c:=c_S_api_Span) (sz:=2) (e:=45) (kk:=.i64) (by kernel_rfl) (by kernel_rfl) (by kernel_rfl) (by kernel_rfl) hc) (fun _=>rfl) ?_
   intro x26 h26
   refine jG 3 3 ⟨[V 0 (.fsl 2 (List.map c_S_api_Span a0)),V 3 (.osl 0 0 (List.length x11) 1),V 4 (iv x12),V 5 (iv x26.Lo)],[(0,.rows 1 (List.map cI x11))],1⟩ ?_
   refine jN ?_
   refine jc_block ?_
   refine jc_bind (fun x35=>⟨[V 0 (.fsl 2 (List.map c_S_api_Span a0)),V 3 (.osl 0 0 (List.length x35) 1),V 4 (iv x12)],[(0,.rows 1 (List.map cI x35))],1⟩) (fun x35=>(.exit 2)) (jc_loop (fun (x29,x30)=>⟨[V 0 (.fsl 2 (List.map c_S_api_Span a0)),V 3 (.osl 0 0 (List.length x29) 1),V 4 (iv x12),V 5 (iv x30)],[(0,.rows 1 (List.map cI x29))],1⟩) (wkR [(0,some 0)] (fix_nil _) (pc (hL 0 (noid_map ni_I _)) allp_nil)) ?_) ?_
   ·rintro⟨x29,x30⟩
    unfold ref07_List_l1
    refine jc_seq ?_
    refine jR ?_
    refine jG 0 3 ⟨[V 0 (.fsl 2 (List.map c_S_api_Span a0)),V 3 (.osl 0 0 (List.length x29) 1),V 4 (iv x12),V 5 (iv x30),V 17 (iv x30),V 18 (.fsl 2 (List.map c_S_api_Span a0)),V 19 (iv x12)],[(0,.rows 1 (List.map cI x29))],1⟩ ?_
    refine jr_part (i:=3) (mo:=ixl a0 x12) rfl rfl rfl rfl (fun _ hc=>aop_ixf (c:=c_S_api_Span) (sz:=2) (e:=45) (kk:=.i64) (by kernel_rfl) (by kernel_rfl) (by kernel_rfl) (by kernel_rfl) hc) (fun _=>rfl) ?_
    intro x36 h36
    refine jG 4 3 ⟨[V 0 (.fsl 2 (List.map c_S_api_Span a0)),V 3 (.osl 0 0 (List.length x29) 1),V 4 (iv x12),V 5 (iv x30),V 23 (bv (decide (x30 < x36.Hi)))],[(0,.rows 1 (List.map cI x29))],1⟩ ?_
    refine jN ?_
    refine jIf ?_ ?_
    ·refine jc_skip ?_
     refine jx_seqN ?_
     refine jc_seq ?_
     refine jc_block ?_
     refine jc_reg ?_
     refine jG 0 3 ⟨[V 0 (.fsl 2 (List.map c_S_api_Span a0)),V 4 (iv x12),V 5 (iv x30),V 26 (.osl 0 0 (List.length x29) 1),V 28 (.osl 1 0 (List.length [x30]) 1)],[(0,.rows 1 (List.map cI x29)),(1,.rows 1 (List.map cI [x30]))],2⟩ ?_
     refine jr_part (i:=3) (mo:=app 8 x29 [x30]) rfl rfl rfl rfl (fun _ hc=>aop_app (u:=.osl 0 0 (List.length x29) 1) (w:=.osl 1 0 (List.length [x30]) 1) (e:=3) (td:=.slice 3) (by kernel_rfl) (by kernel_rfl) (by kernel_rfl) (by kernel_rfl) (.inl ⟨_,rfl⟩) (appendOf_own (c:=cI) (sz:=1) (b:=8) (id:=0) (by kernel_rfl) (by kernel_rfl) (rows_own (by kernel_rfl)) (List.cons_ne_nil _ _) hc)) (fun _=>rfl) ?_
     intro x37 h37
     refine jG 4 1 ⟨[V 0 (.fsl 2 (List.map c_S_api_Span a0)),V 3 (.osl 2 0 (List.length x37) 1),V 4 (iv x12),V 5 (iv x30)],[(2,.rows 1 (List.map cI x37))],3⟩ ?_
     refine jr_nil rfl ?_
     refine jx_blkN ?_
     refine jx_seqN ?_
     refine jT ⟨[V 0 (.fsl 2 (List.map c_S_api_Span a0)),V 3 (.osl 2 0 (List.length x37) 1),V 4 (iv x12),V 5 (iv (w64 (x30 + 1)))],[(2,.rows 1 (List.map cI x37))],3⟩ ?_
     exact jx_next (wkR [(0,some 2)] (fix_nil _) (pc (hL 2 (noid_map ni_I _)) allp_nil))
    refine jc_exit ?_
    refine jx_seqE ?_
    exact jx_done rfl nofun (wkR [(0,some 0)] (fix_nil _) (pc (hL 0 (noid_map ni_I _)) allp_nil))
   intro x35
   refine jx_blkE ?_
   refine jx_blkN ?_
   refine jx_seqN ?_
   refine jT ⟨[V 0 (.fsl 2 (List.map c_S_api_Span a0)),V 3 (.osl 0 0 (List.length x35) 1),V 4 (iv (w64 (x12 + 1)))],[(0,.rows 1 (List.map cI x35))],1⟩ ?_
   exact jx_next (wkR [(0,some 0)] (fix_nil _) (pc (hL 0 (noid_map ni_I _)) allp_nil))
  refine jc_exit ?_
  refine jx_seqE ?_
  exact jx_done rfl nofun (wkR [(0,some 0)] (fix_nil _) (pc (hL 0 (noid_map ni_I _)) allp_nil))
 intro x25
 refine jx_blkE ?_
 refine jx_seqN ?_
 refine jS ⟨[V 2 (.osl 0 0 (List.length x25) 1)],[(0,.rows 1 (List.map cI x25))],1⟩ ?_
 refine jc_ret ?_
 exact jx_retF (.inr rfl) (v:=.osl 0 0 (List.length x25) 1) (by kernel_rfl) (snapc_own fz_I (by kernel_rfl)) (fle_refl _))
abbrev ref07_end_r1:List LO:=[lo 2 (.assign (.const (.int .i64 0))) 3]
abbrev ref07_end_r2:List LO:=[lm 3 0 22,lo 4 (.call ⟨.builtin .len,#[.tmp 3],#[22]⟩) 3,lo 5 (.binOp .eql 3 (.tmp 4) (.const (.int .i64 0)) 3) 4]
abbrev ref07_end_r3:List LO:=[lo 2 (.assign (.const (.int .i64 0))) 3]
abbrev ref07_end_r4:List LO:=[lm 6 0 22,lm 7 0 22,lo 8 (.call ⟨.builtin .len,#[.tmp 7],#[22]⟩) 3,lo 9 (.binOp .sub 3 (.tmp 8) (.const (.int .i64 1)) 3) 3,lo 10 (.indexAddr 22 (.tmp 6) (.tmp 9)) 0,lo 11 (.fieldAddr 45 (.tmp 10) 1) 0,lo 12 (.load 3 (.tmp 11)) 3,lo 2 (.assign (.tmp 12)) 3]
abbrev ref07_end_c:LC:=.seq (.reg false ref07_end_r1) (.seq (.seq (.reg false ref07_end_r2) (.cond (.tmp 5) (.seq (.reg false ref07_end_r3) .ret) .skip)) (.seq (.reg false ref07_end_r4) .ret))
theorem ref07_end_k:FnOk E 60 13 [.tmp 2] ref07_end_c:=⟨⟨Go.Proofs.Tryd.f60,by kernel_rfl,by kernel_rfl,by kernel_rfl,by kernel_rfl,by kernel_rfl⟩,rfl,rfl⟩
noncomputable def ref07_end (a0:(List S_api_Span)):Option (Int):=(if ((List.length a0:Int) == 0)=true then some 0 else Option.bind (ixl a0 (w64 ((List.length a0:Int) - 1))) (fun x1=>some x1.Hi))
theorem ref07_end_ok (a0:(List S_api_Span)):Ct E 60 [.fsl 2 (List.map c_S_api_Span a0)] (ref07_end a0) (fun r:Int=>iv r):=ct_intro (N:=13) (L:=ref07_end_c) ref07_end_k rfl (Nat.le_of_ble_eq_true rfl) (by kernel_rfl) (by
 unfold ref07_end
 refine jS ⟨[V 0 (.fsl 2 (List.map c_S_api_Span a0))],[],0⟩ ?_
 refine jc_seq ?_
 refine jR ?_
 refine jG 0 3 ⟨[V 0 (.fsl 2 (List.map c_S_api_Span a0)),V 5 (bv ((List.length (List.map c_S_api_Span a0):Int) == 0))],[],0⟩ ?_
 simp only[List.length_map]
 refine jN ?_
 refine jIf ?_ ?_
 ·refine jS ⟨[V 2 (iv 0)],[],0⟩ ?_
  refine jc_ret ?_
  refine jx_seqR ?_
  exact jx_retF (.inr rfl) (v:=iv 0) (by kernel_rfl) rfl (fle_refl _)
 refine jc_skip ?_
 refine jx_seqN ?_
 refine jR ?_
 refine jG 0 4 ⟨[V 6 (.fsl 2 (List.map c_S_api_Span a0)),V 9 (iv (w64 ((List.length (List.map c_S_api_Span a0):Int) - 1)))],[],0⟩ ?_
 simp only[List.length_map]
 refine jr_part (i:=4) (mo:=ixl a0 (w64 ((List.length a0:Int) - 1))) rfl rfl rfl rfl (fun _ hc=>aop_ixf (c:=c_S_api_Span) (sz:=2) (e:=45) (kk:=.i64) (by kernel_rfl) (by kernel_rfl) (by kernel_rfl) (by kernel_rfl) hc) (fun _=>rfl) ?_
 intro x1 h1
 refine jG 5 3 ⟨[V 2 (iv x1.Hi)],[],0⟩ ?_
 refine jN ?_
 refine jc_ret ?_
 exact jx_retF (.inr rfl) (v:=iv x1.Hi) (by kernel_rfl) rfl (fle_refl _))
abbrev ref07_marks_r1:List LO:=[lo 4 (.assign (.const (.slice none 0 0))) 32]
abbrev ref07_marks_r2:List LO:=[lm 8 1 3,lo 9 (.makeSlice 32 (.tmp 8) (.tmp 8)) 32,lo 5 (.assign (.tmp 9)) 32]
abbrev ref07_marks_r3:List LO:=[lo 6 (.assign (.const (.int .i64 0))) 3]
abbrev ref07_marks_r4:List LO:=[lm 10 6 3,lm 11 0 22,lo 12 (.call ⟨.builtin .len,#[.tmp 11],#[22]⟩) 3,lo 13 (.binOp .lss 3 (.tmp 10) (.tmp 12) 3) 4]
abbrev ref07_marks_r5:List LO:=[lm 16 0 22,lm 17 6 3,lo 18 (.indexAddr 22 (.tmp 16) (.tmp 17)) 0,lo 19 (.fieldAddr 45 (.tmp 18) 0) 0,lo 20 (.load 3 (.tmp 19)) 3,lo 7 (.assign (.tmp 20)) 3]
abbrev ref07_marks_r6:List LO:=[lm 21 7 3,lm 22 0 22,lm 23 6 3,lo 24 (.indexAddr 22 (.tmp 22) (.tmp 23)) 0,lo 25 (.fieldAddr 45 (.tmp 24) 1) 0,lo 26 (.load 3 (.tmp 25)) 3,lo 27 (.binOp .lss 3 (.tmp 21) (.tmp 26) 3) 4]
abbrev ref07_marks_r7:List LO:=[lm 30 5 32,lm 31 7 3,lo 32 (.indexAddr 32 (.tmp 30) (.tmp 31)) 0,ln (.store 4 (.tmp 32) (.const (.bool true))) 0]
abbrev ref07_marks_r8:List LO:=[lm 28 7 3,lo 29 (.binOp .add 3 (.tmp 28) (.const (.int .i64 1)) 3) 3,lo 7 (.assign (.tmp 29)) 3]
abbrev ref07_marks_r9:List LO:=[lm 14 6 3,lo 15 (.binOp .add 3 (.tmp 14) (.const (.int .i64 1)) 3) 3,lo 6 (.assign (.tmp 15)) 3]
abbrev ref07_marks_r10:List LO:=[lm 33 5 32,lo 4 (.assign (.tmp 33)) 32]
abbrev ref07_marks_c:LC:=.seq (.reg false ref07_marks_r1) (.seq (.reg false ref07_marks_r2) (.seq (.seq (.reg false ref07_marks_r3) (.block 0 (.loop (.seq (.seq (.reg false ref07_marks_r4) (.cond (.tmp 13) .skip (.exit 0))) (.seq (.block 1 (.seq (.reg false ref07_marks_r5) (.block 2 (.loop (.seq (.seq (.reg false ref07_marks_r6) (.cond (.tmp 27) .skip (.exit 2))) (.seq (.block 3 (.reg false ref07_marks_r7)) (.reg false ref07_marks_r8))))))) (.reg false ref07_marks_r9)))))) (.seq (.reg false ref07_marks_r10) .ret)))
theorem ref07_marks_k:FnOk E 61 34 [.tmp 4] ref07_marks_c:=⟨⟨Go.Proofs.Tryd.f61,by kernel_rfl,by kernel_rfl,by kernel_rfl,by kernel_rfl,by kernel_rfl⟩,rfl,rfl⟩
noncomputable def ref07_marks_l1 (a0:List S_api_Span) (x40:Int):(List Bool × Int)→Option (Step (List Bool × Int) (List Bool)):=fun (x57,x58)=>Option.bind (ixl a0 x40) (fun x64=>(if (decide (x58 < x64.Hi))=true then Option.bind (ixl x57 x58) (fun x65=>some (Step.next ((List.set x57 (Int.toNat x58) true),(w64 (x58 + 1))))) else some (Step.done x57)))
noncomputable def ref07_marks_l2 (a0:List S_api_Span):(List Bool × Int)→Option (Step (List Bool × Int) (List Bool)):=fun (x39,x40)=>(if (decide (x40 < (List.length a0:Int)))=true then Option.bind (ixl a0 x40) (fun x54=>Option.bind (loopC (ref07_marks_l1 a0 x40) (x39,x54.Lo)) (fun x63=>some (Step.next (x63,(w64 (x40 + 1)))))) else some (Step.done x39))
abbrev ref07_marks_T (a0:List S_api_Span) (a1:Int) (r:List Bool):CS:=⟨[V 4 (.osl 0 0 (List.length r) 1)],[(0,.rows 1 (List.map cT r))],1⟩
noncomputable def ref07_marks (a0:List S_api_Span) (a1:Int):Option (List Bool):=Option.bind (mkl 1 (false:Bool) a1 a1) (fun x28=>Option.bind (loopC (ref07_marks_l2 a0) (x28,0)) (fun x53=>some x53))
theorem ref07_marks_ok (a0:List S_api_Span) (a1:Int):CtM E 61 [.fsl 2 (List.map c_S_api_Span a0),iv a1] [] 0 (ref07_marks a0 a1) (fun r:List Bool=>.osl 0 0 (List.length r) 1) (fun r:List Bool=>[(0,.rows 1 (List.map cT r))]) 1:=ctm_intro (N:=34) (L:=ref07_marks_c) ref07_marks_k rfl (Nat.le_of_ble_eq_true rfl) (fun F hF=>by
 unfold ref07_marks
 refine jS ⟨[V 0 (.fsl 2 (List.map c_S_api_Span a0)),V 1 (iv a1)],[],0⟩ ?_
 refine jR ?_
 refine jG 0 1 ⟨[V 0 (.fsl 2 (List.map c_S_api_Span a0)),V 8 (iv a1)],[],0⟩ ?_
 refine jr_part (i:=1) (mo:=mkl 1 (false:Bool) a1 a1) rfl rfl rfl rfl (fun _ hc=>aop_mks (e:=4) (sz:=1) (b:=1) (cc:=cT) (kk:=.i64) (kc:=.i64) (by kernel_rfl) (by kernel_rfl) (by kernel_rfl) (by kernel_rfl) (by kernel_rfl) hc) (fun _=>rfl) ?_
 intro x28 h28
 refine jG 2 1 ⟨[V 0 (.fsl 2 (List.map c_S_api_Span a0)),V 5 (.osl 0 0 (List.length x28) 1)],[(0,.rows 1 (List.map cT x28))],1⟩ ?_
 refine jN ?_
 refine jc_seq ?_
 refine jS ⟨[V 0 (.fsl 2 (List.map c_S_api_Span a0)),V 5 (.osl 0 0 (List.length x28) 1),V 6 (iv 0)],[(0,.rows 1 (List.map cT x28))],1⟩ ?_
 refine jc_block ?_
 refine jc_bind (fun x53=>⟨[V 5 (.osl 0 0 (List.length x53) 1)],[(0,.rows 1 (List.map cT x53))],1⟩) (fun x53=>(.exit 0)) (jc_loop (fun (x39,x40)=>⟨[V 0 (.fsl 2 (List.map c_S_api_Span a0)),V 5 (.osl 0 0 (List.length x39) 1),V 6 (iv x40)],[(0,.rows 1 (List.map cT x39))],1⟩) (wkR [(0,some 0)] (fix_of hF (k:=0) rfl) (pc (hL 0 (noid_map ni_T _)) allp_nil)) ?_) ?_
 ·rintro⟨x39,x40⟩
  unfold ref07_marks_l2
  refine jc_seq ?_
  refine jR ?_
  refine jG 0 4 ⟨[V 0 (.fsl 2 (List.map c_S_api_Span a0)),V 5 (.osl 0 0 (List.length x39) 1),V 6 (iv x40),V 13 (bv (decide (x40 < (List.length (List.map c_S_api_Span a0):Int))))],[(0,.rows 1 (List.map cT x39))],1⟩ ?_
  simp only[List.length_map]
  refine jN ?_
  refine jIf ?_ ?_
  ·refine jc_skip ?_
   refine jx_seqN ?_
   refine jc_seq ?_
   refine jc_block ?_
   refine jR ?_
   refine jG 0 2 ⟨[V 0 (.fsl 2 (List.map c_S_api_Span a0)),V 5 (.osl 0 0 (List.length x39) 1),V 6 (iv x40),V 16 (.fsl 2 (List.map c_S_api_Span a0)),V 17 (iv x40)],[(0,.rows 1 (List.map cT x39))],1⟩ ?_
   refine jr_part (i:=2) (mo:=ixl a0 x40) rfl rfl rfl rfl (fun _ hc=>aop_ixf (c:=c_S_api_Span) (sz:=2) (e:=45) (kk:=.i64) (by kernel_rfl) (by kernel_rfl) (by kernel_rfl) (by kernel_rfl) hc) (fun _=>rfl) ?_
   intro x54 h54
   refine jG 3 3 ⟨[V 0 (.fsl 2 (List.map c_S_api_Span a0)),V 5 (.osl 0 0 (List.length x39) 1),V 6 (iv x40),V 7 (iv x54.Lo)],[(0,.rows 1 (List.map cT x39))],1⟩ ?_
   refine jN ?_
   refine jc_block ?_
   refine jc_bind (fun x63=>⟨[V 0 (.fsl 2 (List.map c_S_api_Span a0)),V 5 (.osl 0 0 (List.length x63) 1),V 6 (iv x40)],[(0,.rows 1 (List.map cT x63))],1⟩) (fun x63=>(.exit 2)) (jc_loop (fun (x57,x58)=>⟨[V 0 (.fsl 2 (List.map c_S_api_Span a0)),V 5 (.osl 0 0 (List.length x57) 1),V 6 (iv x40),V 7 (iv x58)],[(0,.rows 1 (List.map cT x57))],1⟩) (wkR [(0,some 0)] (fix_of hF (k:=0) rfl) (pc (hL 0 (noid_map ni_T _)) allp_nil)) ?_) ?_
   ·rintro⟨x57,x58⟩
    unfold ref07_marks_l1
    refine jc_seq ?_
    refine jR ?_
    refine jG 0 3 ⟨[V 0 (.fsl 2 (List.map c_S_api_Span a0)),V 5 (.osl 0 0 (List.length x57) 1),V 6 (iv x40),V 7 (iv x58),V 21 (iv x58),V 22 (.fsl 2 (List.map c_S_api_Span a0)),V 23 (iv x40)],[(0,.rows 1 (List.map cT x57))],1⟩ ?_
    refine jr_part (i:=3) (mo:=ixl a0 x40) rfl rfl rfl rfl (fun _ hc=>aop_ixf (c:=c_S_api_Span) (sz:=2) (e:=45) (kk:=.i64) (by kernel_rfl) (by kernel_rfl) (by kernel_rfl) (by kernel_rfl) hc) (fun _=>rfl) ?_
    intro x64 h64
    refine jG 4 3 ⟨[V 0 (.fsl 2 (List.map c_S_api_Span a0)),V 5 (.osl 0 0 (List.length x57) 1),V 6 (iv x40),V 7 (iv x58),V 27 (bv (decide (x58 < x64.Hi)))],[(0,.rows 1 (List.map cT x57))],1⟩ ?_
    refine jN ?_
    refine jIf ?_ ?_
    ·refine jc_skip ?_
     refine jx_seqN ?_
     refine jc_seq ?_
     refine jc_block ?_
     refine jc_reg ?_
     refine jG 0 2 ⟨[V 0 (.fsl 2 (List.map c_S_api_Span a0)),V 5 (.osl 0 0 (List.length x57) 1),V 6 (iv x40),V 7 (iv x58),V 30 (.osl 0 0 (List.length x57) 1),V 31 (iv x58)],[(0,.rows 1 (List.map cT x57))],1⟩ ?_
     refine jr_part (i:=2) (mo:=ixl x57 x58) rfl rfl rfl rfl (fun _ hc=>aop_ixo0 (sz:=1) (e:=4) (kk:=.i64) (id:=0) (by kernel_rfl) (by kernel_rfl) (by kernel_rfl) (by kernel_rfl) hc) (fun _=>rfl) ?_
     intro x65 h65
     refine jr_sto (i:=3) [0,5,6,7] [0] (st1:=⟨[V 0 (.fsl 2 (List.map c_S_api_Span a0)),V 5 (.osl 0 0 (List.length (List.set x57 (Int.toNat x58) true)) 1),V 6 (iv x40),V 7 (iv x58)],[(0,.rows 1 (List.map cT (List.set x57 (Int.toNat x58) true)))],1⟩) rfl rfl rfl rfl (aop_sto (l:=x57) (c:=cT) (id:=0) (k:=(Int.toNat x58)) (sz:=1) (off:=0) (a:=x65) (a':=true) (w:=bv true) (cs:=[bv true]) (by kernel_rfl) (by kernel_rfl) (by kernel_rfl) (by kernel_rfl) (by kernel_rfl) (ixl_lt h65).2.2 (Nat.le_of_ble_eq_true rfl) (by kernel_rfl)) (by simp only[List.length_set]; kernel_rfl) ?_
     refine jr_nil rfl ?_
     refine jx_blkN ?_
     refine jx_seqN ?_
     refine jT ⟨[V 0 (.fsl 2 (List.map c_S_api_Span a0)),V 5 (.osl 0 0 (List.length (List.set x57 (Int.toNat x58) true)) 1),V 6 (iv x40),V 7 (iv (w64 (x58 + 1)))],[(0,.rows 1 (List.map cT (List.set x57 (Int.toNat x58) true)))],1⟩ ?_
     exact jx_next (wkR [(0,some 0)] (fix_of hF (k:=0) rfl) (pc (hL 0 (noid_map ni_T _)) allp_nil))
    refine jc_exit ?_
    refine jx_seqE ?_
    exact jx_done rfl nofun (wkR [(0,some 0)] (fix_of hF (k:=0) rfl) (pc (hL 0 (noid_map ni_T _)) allp_nil))
   intro x63
   refine jx_blkE ?_
   refine jx_blkN ?_
   refine jx_seqN ?_
   refine jT ⟨[V 0 (.fsl 2 (List.map c_S_api_Span a0)),V 5 (.osl 0 0 (List.length x63) 1),V 6 (iv (w64 (x40 + 1)))],[(0,.rows 1 (List.map cT x63))],1⟩ ?_
   exact jx_next (wkR [(0,some 0)] (fix_of hF (k:=0) rfl) (pc (hL 0 (noid_map ni_T _)) allp_nil))
  refine jc_exit ?_
  refine jx_seqE ?_
  exact jx_done rfl nofun (wkR [(0,some 0)] (fix_of hF (k:=0) rfl) (pc (hL 0 (noid_map ni_T _)) allp_nil))
 intro x53
 refine jx_blkE ?_
 refine jx_seqN ?_
 refine jS ⟨[V 4 (.osl 0 0 (List.length x53) 1)],[(0,.rows 1 (List.map cT x53))],1⟩ ?_
 refine jc_ret ?_
 exact jx_retM (ref07_marks_T a0 a1 x53) (.inr rfl) (wkR [(0,some 0)] (fix_of hF (k:=0) rfl) (pc (hL 0 (noid_map ni_T _)) allp_nil)))
abbrev ref07_both_r1:List LO:=[lo 10 (.assign (.const (.slice none 0 0))) 22]
abbrev ref07_both_r2:List LO:=[lm 15 0 22,lo 16 (.call ⟨.value (.func 60),#[.tmp 15],#[22]⟩) 3,lm 17 1 22,lo 18 (.call ⟨.value (.func 60),#[.tmp 17],#[22]⟩) 3,lo 19 (.call ⟨.builtin .max,#[.tmp 16,.tmp 18],#[3,3]⟩) 3,lo 11 (.assign (.tmp 19)) 3]
abbrev ref07_both_r3:List LO:=[lm 20 0 22,lm 21 11 3,lo 22 (.call ⟨.value (.func 61),#[.tmp 20,.tmp 21],#[22,3]⟩) 32,lo 12 (.assign (.tmp 22)) 32]
abbrev ref07_both_r4:List LO:=[lm 23 1 22,lm 24 11 3,lo 25 (.call ⟨.value (.func 61),#[.tmp 23,.tmp 24],#[22,3]⟩) 32,lo 13 (.assign (.tmp 25)) 32]
abbrev ref07_both_r5:List LO:=[lo 14 (.assign (.const (.int .i64 0))) 3]
abbrev ref07_both_r6:List LO:=[lm 26 14 3,lm 27 11 3,lo 28 (.binOp .lss 3 (.tmp 26) (.tmp 27) 3) 4]
abbrev ref07_both_r7:List LO:=[lm 31 12 32,lm 32 14 3,lm 33 12 32,lm 34 14 3,lo 35 (.indexAddr 32 (.tmp 33) (.tmp 34)) 0,lo 36 (.load 4 (.tmp 35)) 4,lm 37 36 4,lmg 38 13 32 37 true,lmg 39 14 3 37 true,lg 40 (.indexAddr 32 (.tmp 38) (.tmp 39)) 0 37 true,lg 41 (.load 4 (.tmp 40)) 4 37 true,lg 42 (.unOp .not 4 (.tmp 41)) 4 37 true,lo 43 (.pick (.tmp 37) (.tmp 42) (.const (.bool false))) 4,lm 44 43 4,lmg 45 2 4 44 true,lo 46 (.pick (.tmp 44) (.tmp 45) (.const (.bool false))) 4,lm 47 46 4,lmg 48 12 32 47 false,lmg 49 14 3 47 false,lg 50 (.indexAddr 32 (.tmp 48) (.tmp 49)) 0 47 false,lg 51 (.load 4 (.tmp 50)) 4 47 false,lmg 52 51 4 47 false,lmg 53 13 32 52 true,lmg 54 14 3 52 true,lg 55 (.indexAddr 32 (.tmp 53) (.tmp 54)) 0 52 true,lg 56 (.load 4 (.tmp 55)) 4 52 true,lg 57 (.pick (.tmp 52) (.tmp 56) (.const (.bool false))) 4 47 false,lmg 58 57 4 47 false,lmg 59 3 4 58 true,lg 60 (.pick (.tmp 58) (.tmp 59) (.const (.bool false))) 4 47 false,lo 61 (.pick (.tmp 47) (.const (.bool true)) (.tmp 60)) 4,lm 62 61 4,lmg 63 12 32 62 false,lmg 64 14 3 62 false,lg 65 (.indexAddr 32 (.tmp 63) (.tmp 64)) 0 62 false,lg 66 (.load 4 (.tmp 65)) 4 62 false,lg 67 (.unOp .not 4 (.tmp 66)) 4 62 false,lmg 68 67 4 62 false,lmg 69 13 32 68 true,lmg 70 14 3 68 true,lg 71 (.indexAddr 32 (.tmp 69) (.tmp 70)) 0 68 true,lg 72 (.load 4 (.tmp 71)) 4 68 true,lg 73 (.pick (.tmp 68) (.tmp 72) (.const (.bool false))) 4 62 false,lmg 74 73 4 62 false,lmg 75 4 4 74 true,lg 76 (.pick (.tmp 74) (.tmp 75) (.const (.bool false))) 4 62 false,lo 77 (.pick (.tmp 62) (.const (.bool true)) (.tmp 76)) 4,lo 78 (.indexAddr 32 (.tmp 31) (.tmp 32)) 0,ln (.store 4 (.tmp 78) (.tmp 77)) 0]
abbrev ref07_both_r8:List LO:=[lm 29 14 3,lo 30 (.binOp .add 3 (.tmp 29) (.const (.int .i64 1)) 3) 3,lo 14 (.assign (.tmp 30)) 3]
abbrev ref07_both_r9:List LO:=[lm 79 12 32,lo 80 (.call ⟨.value (.func 20),#[.tmp 79],#[32]⟩) 22,lo 10 (.assign (.tmp 80)) 22]
abbrev ref07_both_c:LC:=.seq (.reg false ref07_both_r1) (.seq (.reg false ref07_both_r2) (.seq (.reg false ref07_both_r3) (.seq (.reg false ref07_both_r4) (.seq (.seq (.reg false ref07_both_r5) (.block 0 (.loop (.seq (.seq (.reg false ref07_both_r6) (.cond (.tmp 28) .skip (.exit 0))) (.seq (.block 1 (.reg false ref07_both_r7)) (.reg false ref07_both_r8)))))) (.seq (.reg false ref07_both_r9) .ret)))))
theorem ref07_both_k:FnOk E 51 81 [.tmp 10] ref07_both_c:=⟨⟨Go.Proofs.Tryd.f51,by kernel_rfl,by kernel_rfl,by kernel_rfl,by kernel_rfl,by kernel_rfl⟩,rfl,rfl⟩
noncomputable def ref07_both_l1 (a2:Bool) (a3:Bool) (a4:Bool) (x1:Int) (x2:Int) (x4:List Bool):(List Bool × Int)→Option (Step (List Bool × Int) (List Bool)):=fun (x17,x18)=>(if (decide (x18 < (if x2 > x1 then x2 else x1)))=true then Option.bind (ixl x17 x18) (fun x34=>Option.bind (if x34=true then Option.bind (ixl x4 x18) (fun x37=>some (!x37)) else some false:Option (Bool)) (fun x36=>Option.bind (if (x36 && a2)=true then some true else Option.bind (ixl x17 x18) (fun x42=>Option.bind (if x42=true then Option.bind (ixl x4 x18) (fun x45=>some x45) else some false:Option (Bool)) (fun x44=>some (x44 && a3))):Option (Bool)) (fun x41=>Option.bind (if x41=true then some true else Option.bind (ixl x17 x18) (fun x50=>Option.bind (if (!x50)=true then Option.bind (ixl x4 x18) (fun x53=>some x53) else some false:Option (Bool)) (fun x52=>some (x52 && a4))):Option (Bool)) (fun x49=>Option.bind (ixl x17 x18) (fun x54=>some (Step.next ((List.set x17 (Int.toNat x18) x49),(w64 (x18 + 1))))))))) else some (Step.done x17))
noncomputable def ref07_both (a0:(List S_api_Span)) (a1:(List S_api_Span)) (a2:Bool) (a3:Bool) (a4:Bool):Option ((List S_api_Span)):=Option.bind (ref07_end a0) (fun x1=>Option.bind (ref07_end a1) (fun x2=>Option.bind (ref07_marks a0 (if x2 > x1 then x2 else x1)) (fun x3=>Option.bind (ref07_marks a1 (if x2 > x1 then x2 else x1)) (fun x4=>Option.bind (loopC (ref07_both_l1 a2 a3 a4 x1 x2 x4) (x3,0)) (fun x33=>Option.bind (ref07_Where x33) (fun x55=>some x55))))))
theorem ref07_both_ok (a0:(List S_api_Span)) (a1:(List S_api_Span)) (a2:Bool) (a3:Bool) (a4:Bool):Ct E 51 [.fsl 2 (List.map c_S_api_Span a0),.fsl 2 (List.map c_S_api_Span a1),bv a2,bv a3,bv a4] (ref07_both a0 a1 a2 a3 a4) (fun r:(List S_api_Span)=>.fsl 2 (List.map c_S_api_Span r)):=ct_intro (N:=81) (L:=ref07_both_c) ref07_both_k rfl (Nat.le_of_ble_eq_true rfl) (by kernel_rfl) (by
 unfold ref07_both
 refine jS ⟨[V 0 (.fsl 2 (List.map c_S_api_Span a0)),V 1 (.fsl 2 (List.map c_S_api_Span a1)),V 2 (bv a2),V 3 (bv a3),V 4 (bv a4)],[],0⟩ ?_
 refine jR ?_
 refine jG 0 1 ⟨[V 0 (.fsl 2 (List.map c_S_api_Span a0)),V 1 (.fsl 2 (List.map c_S_api_Span a1)),V 2 (bv a2),V 3 (bv a3),V 4 (bv a4),V 15 (.fsl 2 (List.map c_S_api_Span a0))],[],0⟩ ?_
 refine jK 1 (ref07_end_ok a0) ?_
 intro x1 h1
 refine jG 2 1 ⟨[V 0 (.fsl 2 (List.map c_S_api_Span a0)),V 1 (.fsl 2 (List.map c_S_api_Span a1)),V 2 (bv a2),V 3 (bv a3),V 4 (bv a4),V 16 (iv x1),V 17 (.fsl 2 (List.map c_S_api_Span a1))],[],0⟩ ?_
 refine jK 3 (ref07_end_ok a1) ?_
 intro x2 h2
 refine jG 4 2 ⟨[V 0 (.fsl 2 (List.map c_S_api_Span a0)),V 1 (.fsl 2 (List.map c_S_api_Span a1)),V 2 (bv a2),V 3 (bv a3),V 4 (bv a4),V 11 (iv (if x2 > x1 then x2 else x1))],[],0⟩ ?_
 refine jN ?_
 refine jR ?_
 refine jG 0 2 ⟨[V 1 (.fsl 2 (List.map c_S_api_Span a1)),V 2 (bv a2),V 3 (bv a3),V 4 (bv a4),V 11 (iv (if x2 > x1 then x2 else x1)),V 20 (.fsl 2 (List.map c_S_api_Span a0)),V 21 (iv (if x2 > x1 then x2 else x1))],[],0⟩ ?_
 refine jr_callM 2 [] [(0,some 0)] (fun r:List Bool=>[(0,.rows 1 (List.map cT r))]) (fun r:List Bool=>.osl 0 0 (List.length r) 1) 1 (ref07_marks_ok a0 (if x2 > x1 then x2 else x1)) allp_nil (fun r=>(pc (.inr (hL 0 (noid_map ni_T _))) allp_nil)) ?_
 rintro x3 hm3
 refine jG 3 1 ⟨[V 1 (.fsl 2 (List.map c_S_api_Span a1)),V 2 (bv a2),V 3 (bv a3),V 4 (bv a4),V 11 (iv (if x2 > x1 then x2 else x1)),V 12 (.osl 0 0 (List.length x3) 1)],[(0,.rows 1 (List.map cT x3))],1⟩ ?_
 refine jN ?_
 refine jR ?_
 refine jG 0 2 ⟨[V 2 (bv a2),V 3 (bv a3),V 4 (bv a4),V 11 (iv (if x2 > x1 then x2 else x1)),V 12 (.osl 0 0 (List.length x3) 1),V 23 (.fsl 2 (List.map c_S_api_Span a1)),V 24 (iv (if x2 > x1 then x2 else x1))],[(0,.rows 1 (List.map cT x3))],1⟩ ?_
 refine jr_callM 2 [] [(1,some 0)] (fun r:List Bool=>[(0,.rows 1 (List.map cT x3)),(1,.rows 1 (List.map cT r))]) (fun r:List Bool=>.osl 1 0 (List.length r) 1) 2 (ref07_marks_ok a1 (if x2 > x1 then x2 else x1)) allp_nil (fun r=>(pc (.inl ⟨rfl,rfl⟩) (pc (.inr (hL 0 (noid_map ni_T _))) allp_nil))) ?_
 rintro x4 hm2
 refine jG 3 1 ⟨[V 2 (bv a2),V 3 (bv a3),V 4 (bv a4),V 11 (iv (if x2 > x1 then x2 else x1)),V 12 (.osl 0 0 (List.length x3) 1),V 13 (.osl 1 0 (List.length x4) 1)],[(0,.rows 1 (List.map cT x3)),(1,.rows 1 (List.map cT x4))],2⟩ ?_
 refine jN ?_
 refine jc_seq ?_
 refine jS ⟨[V 2 (bv a2),V 3 (bv a3),V 4 (bv a4),V 11 (iv (if x2 > x1 then x2 else x1)),V 12 (.osl 0 0 (List.length x3) 1),V 13 (.osl 1 0 (List.length x4) 1),V 14 (iv 0)],[(0,.rows 1 (List.map cT x3)),(1,.rows 1 (List.map cT x4))],2⟩ ?_
 refine jc_block ?_
 refine jc_bind (fun x33=>⟨[V 12 (.osl 0 0 (List.length x33) 1)],[(0,.rows 1 (List.map cT x33))],1⟩) (fun x33=>(.exit 0)) (jc_loop (fun (x17,x18)=>⟨[V 2 (bv a2),V 3 (bv a3),V 4 (bv a4),V 11 (iv (if x2 > x1 then x2 else x1)),V 12 (.osl 0 0 (List.length x17) 1),V 13 (.osl 1 0 (List.length x4) 1),V 14 (iv x18)],[(0,.rows 1 (List.map cT x17)),(1,.rows 1 (List.map cT x4))],2⟩) (wkR [(0,some 0),(1,some 1)] (fix_nil _) (pc (hL 0 (noid_map ni_T _)) (pc (hL 1 (noid_map ni_T _)) allp_nil))) ?_) ?_
 ·rintro⟨x17,x18⟩
  unfold ref07_both_l1
  refine jc_seq ?_
  refine jS ⟨[V 2 (bv a2),V 3 (bv a3),V 4 (bv a4),V 11 (iv (if x2 > x1 then x2 else x1)),V 12 (.osl 0 0 (List.length x17) 1),V 13 (.osl 1 0 (List.length x4) 1),V 14 (iv x18),V 28 (bv (decide (x18 < (if x2 > x1 then x2 else x1))))],[(0,.rows 1 (List.map cT x17)),(1,.rows 1 (List.map cT x4))],2⟩ ?_
  refine jIf ?_ ?_
  ·refine jc_skip ?_
   refine jx_seqN ?_
   refine jc_seq ?_
   refine jc_block ?_
   refine jc_reg ?_
   refine jG 0 4 ⟨[V 2 (bv a2),V 3 (bv a3),V 4 (bv a4),V 11 (iv (if x2 > x1 then x2 else x1)),V 12 (.osl 0 0 (List.length x17) 1),V 13 (.osl 1 0 (List.length x4) 1),V 14 (iv x18),V 31 (.osl 0 0 (List.length x17) 1),V 32 (iv x18),V 33 (.osl 0 0 (List.length x17) 1),V 34 (iv x18)],[(0,.rows 1 (List.map cT x17)),(1,.rows 1 (List.map cT x4))],2⟩ ?_
   refine jr_part (i:=4) (mo:=ixl x17 x18) rfl rfl rfl rfl (fun _ hc=>aop_ixo0 (sz:=1) (e:=4) (kk:=.i64) (id:=0) (by kernel_rfl) (by kernel_rfl) (by kernel_rfl) (by kernel_rfl) hc) (fun _=>rfl) ?_
   intro x34 h34
   refine jr_one (i:=5) (v:=bv x34) rfl rfl rfl rfl (aop_ldo (l:=x17) (c:=cT) (id:=0) (k:=(Int.toNat x18)) (sz:=1) (off:=0) (a:=x34) (by kernel_rfl) (by kernel_rfl) (ixl_lt h34).2.2 (by kernel_rfl)) rfl ?_
   refine jG 6 1 ⟨[V 2 (bv a2),V 3 (bv a3),V 4 (bv a4),V 11 (iv (if x2 > x1 then x2 else x1)),V 12 (.osl 0 0 (List.length x17) 1),V 13 (.osl 1 0 (List.length x4) 1),V 14 (iv x18),V 31 (.osl 0 0 (List.length x17) 1),V 32 (iv x18),V 37 (bv x34)],[(0,.rows 1 (List.map cT x17)),(1,.rows 1 (List.map cT x4))],2⟩ ?_
   refine jr_bind 7 6 (fun x36=>⟨[V 2 (bv a2),V 3 (bv a3),V 4 (bv a4),V 11 (iv (if x2 > x1 then x2 else x1)),V 12 (.osl 0 0 (List.length x17) 1),V 13 (.osl 1 0 (List.length x4) 1),V 14 (iv x18),V 31 (.osl 0 0 (List.length x17) 1),V 32 (iv x18),V 43 (bv x36)],[(0,.rows 1 (List.map cT x17)),(1,.rows 1 (List.map cT x4))],2⟩) ?_ ?_
   ·refine jSp 37 ?_ ?_
    ·refine jG 0 2 ⟨[V 2 (bv a2),V 3 (bv a3),V 4 (bv a4),V 11 (iv (if x2 > x1 then x2 else x1)),V 12 (.osl 0 0 (List.length x17) 1),V 13 (.osl 1 0 (List.length x4) 1),V 14 (iv x18),V 31 (.osl 0 0 (List.length x17) 1),V 32 (iv x18),(37,.lit true),V 38 (.osl 1 0 (List.length x4) 1),V 39 (iv x18)],[(0,.rows 1 (List.map cT x17)),(1,.rows 1 (List.map cT x4))],2⟩ ?_
     refine jr_part (i:=2) (mo:=ixl x4 x18) rfl rfl rfl rfl (fun _ hc=>aop_ixo0 (sz:=1) (e:=4) (kk:=.i64) (id:=1) (by kernel_rfl) (by kernel_rfl) (by kernel_rfl) (by kernel_rfl) hc) (fun _=>rfl) ?_
     intro x37 h37
     refine jr_one (i:=3) (v:=bv x37) rfl rfl rfl rfl (aop_ldo (l:=x4) (c:=cT) (id:=1) (k:=(Int.toNat x18)) (sz:=1) (off:=0) (a:=x37) (by kernel_rfl) (by kernel_rfl) (ixl_lt h37).2.2 (by kernel_rfl)) rfl ?_
     refine jG 4 2 ⟨[V 2 (bv a2),V 3 (bv a3),V 4 (bv a4),V 11 (iv (if x2 > x1 then x2 else x1)),V 12 (.osl 0 0 (List.length x17) 1),V 13 (.osl 1 0 (List.length x4) 1),V 14 (iv x18),V 31 (.osl 0 0 (List.length x17) 1),V 32 (iv x18),V 43 (bv (!x37))],[(0,.rows 1 (List.map cT x17)),(1,.rows 1 (List.map cT x4))],2⟩ ?_
     refine jr_nil rfl ?_
     exact jx_mid rfl (wkR [(0,some 0),(1,some 1)] (fix_nil _) (pc (hL 0 (noid_map ni_T _)) (pc (hL 1 (noid_map ni_T _)) allp_nil)))
    refine jG 0 6 ⟨[V 2 (bv a2),V 3 (bv a3),V 4 (bv a4),V 11 (iv (if x2 > x1 then x2 else x1)),V 12 (.osl 0 0 (List.length x17) 1),V 13 (.osl 1 0 (List.length x4) 1),V 14 (iv x18),V 31 (.osl 0 0 (List.length x17) 1),V 32 (iv x18),V 43 (bv false)],[(0,.rows 1 (List.map cT x17)),(1,.rows 1 (List.map cT x4))],2⟩ ?_
    refine jr_nil rfl ?_
    exact jx_mid rfl (wkR [(0,some 0),(1,some 1)] (fix_nil _) (pc (hL 0 (noid_map ni_T _)) (pc (hL 1 (noid_map ni_T _)) allp_nil)))
   intro x36
   refine jG 13 4 ⟨[V 2 (bv a2),V 3 (bv a3),V 4 (bv a4),V 11 (iv (if x2 > x1 then x2 else x1)),V 12 (.osl 0 0 (List.length x17) 1),V 13 (.osl 1 0 (List.length x4) 1),V 14 (iv x18),V 31 (.osl 0 0 (List.length x17) 1),V 32 (iv x18),V 47 (bv (x36 && a2))],[(0,.rows 1 (List.map cT x17)),(1,.rows 1 (List.map cT x4))],2⟩ ?_
   refine jr_bind 17 14 (fun x41=>⟨[V 2 (bv a2),V 3 (bv a3),V 4 (bv a4),V 11 (iv (if x2 > x1 then x2 else x1)),V 12 (.osl 0 0 (List.length x17) 1),V 13 (.osl 1 0 (List.length x4) 1),V 14 (iv x18),V 31 (.osl 0 0 (List.length x17) 1),V 32 (iv x18),V 61 (bv x41)],[(0,.rows 1 (List.map cT x17)),(1,.rows 1 (List.map cT x4))],2⟩) ?_ ?_
   ·refine jSp 47 ?_ ?_
    ·refine jG 0 14 ⟨[V 2 (bv a2),V 3 (bv a3),V 4 (bv a4),V 11 (iv (if x2 > x1 then x2 else x1)),V 12 (.osl 0 0 (List.length x17) 1),V 13 (.osl 1 0 (List.length x4) 1),V 14 (iv x18),V 31 (.osl 0 0 (List.length x17) 1),V 32 (iv x18),V 61 (bv true)],[(0,.rows 1 (List.map cT x17)),(1,.rows 1 (List.map cT x4))],2⟩ ?_
     refine jr_nil rfl ?_
     exact jx_mid rfl (wkR [(0,some 0),(1,some 1)] (fix_nil _) (pc (hL 0 (noid_map ni_T _)) (pc (hL 1 (noid_map ni_T _)) allp_nil)))
    refine jG 0 2 ⟨[V 2 (bv a2),V 3 (bv a3),V 4 (bv a4),V 11 (iv (if x2 > x1 then x2 else x1)),V 12 (.osl 0 0 (List.length x17) 1),V 13 (.osl 1 0 (List.length x4) 1),V 14 (iv x18),V 31 (.osl 0 0 (List.length x17) 1),V 32 (iv x18),(47,.lit false),V 48 (.osl 0 0 (List.length x17) 1),V 49 (iv x18)],[(0,.rows 1 (List.map cT x17)),(1,.rows 1 (List.map cT x4))],2⟩ ?_
    refine jr_part (i:=2) (mo:=ixl x17 x18) rfl rfl rfl rfl (fun _ hc=>aop_ixo0 (sz:=1) (e:=4) (kk:=.i64) (id:=0) (by kernel_rfl) (by kernel_rfl) (by kernel_rfl) (by kernel_rfl) hc) (fun _=>rfl) ?_
    intro x42 h42
    refine jr_one (i:=3) (v:=bv x42) rfl rfl rfl rfl (aop_ldo (l:=x17) (c:=cT) (id:=0) (k:=(Int.toNat x18)) (sz:=1) (off:=0) (a:=x42) (by kernel_rfl) (by kernel_rfl) (ixl_lt h42).2.2 (by kernel_rfl)) rfl ?_
    refine jG 4 1 ⟨[V 2 (bv a2),V 3 (bv a3),V 4 (bv a4),V 11 (iv (if x2 > x1 then x2 else x1)),V 12 (.osl 0 0 (List.length x17) 1),V 13 (.osl 1 0 (List.length x4) 1),V 14 (iv x18),V 31 (.osl 0 0 (List.length x17) 1),V 32 (iv x18),(47,.lit false),V 52 (bv x42)],[(0,.rows 1 (List.map cT x17)),(1,.rows 1 (List.map cT x4))],2⟩ ?_
    refine jr_bind 5 5 (fun x44=>⟨[V 2 (bv a2),V 3 (bv a3),V 4 (bv a4),V 11 (iv (if x2 > x1 then x2 else x1)),V 12 (.osl 0 0 (List.length x17) 1),V 13 (.osl 1 0 (List.length x4) 1),V 14 (iv x18),V 31 (.osl 0 0 (List.length x17) 1),V 32 (iv x18),V 47 (bv false),V 57 (bv x44)],[(0,.rows 1 (List.map cT x17)),(1,.rows 1 (List.map cT x4))],2⟩) ?_ ?_
    ·refine jSp 52 ?_ ?_
     ·refine jG 0 2 ⟨[V 2 (bv a2),V 3 (bv a3),V 4 (bv a4),V 11 (iv (if x2 > x1 then x2 else x1)),V 12 (.osl 0 0 (List.length x17) 1),V 13 (.osl 1 0 (List.length x4) 1),V 14 (iv x18),V 31 (.osl 0 0 (List.length x17) 1),V 32 (iv x18),(47,.lit false),(52,.lit true),V 53 (.osl 1 0 (List.length x4) 1),V 54 (iv x18)],[(0,.rows 1 (List.map cT x17)),(1,.rows 1 (List.map cT x4))],2⟩ ?_
      refine jr_part (i:=2) (mo:=ixl x4 x18) rfl rfl rfl rfl (fun _ hc=>aop_ixo0 (sz:=1) (e:=4) (kk:=.i64) (id:=1) (by kernel_rfl) (by kernel_rfl) (by kernel_rfl) (by kernel_rfl) hc) (fun _=>rfl) ?_
      intro x45 h45
      refine jr_one (i:=3) (v:=bv x45) rfl rfl rfl rfl (aop_ldo (l:=x4) (c:=cT) (id:=1) (k:=(Int.toNat x18)) (sz:=1) (off:=0) (a:=x45) (by kernel_rfl) (by kernel_rfl) (ixl_lt h45).2.2 (by kernel_rfl)) rfl ?_
      refine jG 4 1 ⟨[V 2 (bv a2),V 3 (bv a3),V 4 (bv a4),V 11 (iv (if x2 > x1 then x2 else x1)),V 12 (.osl 0 0 (List.length x17) 1),V 13 (.osl 1 0 (List.length x4) 1),V 14 (iv x18),V 31 (.osl 0 0 (List.length x17) 1),V 32 (iv x18),(47,.lit false),V 57 (bv x45)],[(0,.rows 1 (List.map cT x17)),(1,.rows 1 (List.map cT x4))],2⟩ ?_
      refine jr_nil rfl ?_
      exact jx_mid rfl (wkR [(0,some 0),(1,some 1)] (fix_nil _) (pc (hL 0 (noid_map ni_T _)) (pc (hL 1 (noid_map ni_T _)) allp_nil)))
     refine jG 0 5 ⟨[V 2 (bv a2),V 3 (bv a3),V 4 (bv a4),V 11 (iv (if x2 > x1 then x2 else x1)),V 12 (.osl 0 0 (List.length x17) 1),V 13 (.osl 1 0 (List.length x4) 1),V 14 (iv x18),V 31 (.osl 0 0 (List.length x17) 1),V 32 (iv x18),(47,.lit false),V 57 (bv false)],[(0,.rows 1 (List.map cT x17)),(1,.rows 1 (List.map cT x4))],2⟩ ?_
     refine jr_nil rfl ?_
     exact jx_mid rfl (wkR [(0,some 0),(1,some 1)] (fix_nil _) (pc (hL 0 (noid_map ni_T _)) (pc (hL 1 (noid_map ni_T _)) allp_nil)))
    intro x44
    refine jr_lit (g:=47) (b:=false) (by kernel_rfl) ?_
    refine jG 10 4 ⟨[V 2 (bv a2),V 3 (bv a3),V 4 (bv a4),V 11 (iv (if x2 > x1 then x2 else x1)),V 12 (.osl 0 0 (List.length x17) 1),V 13 (.osl 1 0 (List.length x4) 1),V 14 (iv x18),V 31 (.osl 0 0 (List.length x17) 1),V 32 (iv x18),V 61 (bv (x44 && a3))],[(0,.rows 1 (List.map cT x17)),(1,.rows 1 (List.map cT x4))],2⟩ ?_
    refine jr_nil rfl ?_
    exact jx_mid rfl (wkR [(0,some 0),(1,some 1)] (fix_nil _) (pc (hL 0 (noid_map ni_T _)) (pc (hL 1 (noid_map ni_T _)) allp_nil)))
   intro x41
   refine jG 31 1 ⟨[V 2 (bv a2),V 3 (bv a3),V 4 (bv a4),V 11 (iv (if x2 > x1 then x2 else x1)),V 12 (.osl 0 0 (List.length x17) 1),V 13 (.osl 1 0 (List.length x4) 1),V 14 (iv x18),V 31 (.osl 0 0 (List.length x17) 1),V 32 (iv x18),V 62 (bv x41)],[(0,.rows 1 (List.map cT x17)),(1,.rows 1 (List.map cT x4))],2⟩ ?_
   refine jr_bind 32 15 (fun x49=>⟨[V 2 (bv a2),V 3 (bv a3),V 4 (bv a4),V 11 (iv (if x2 > x1 then x2 else x1)),V 12 (.osl 0 0 (List.length x17) 1),V 13 (.osl 1 0 (List.length x4) 1),V 14 (iv x18),V 31 (.osl 0 0 (List.length x17) 1),V 32 (iv x18),V 77 (bv x49)],[(0,.rows 1 (List.map cT x17)),(1,.rows 1 (List.map cT x4))],2⟩) ?_ ?_
   ·refine jSp 62 ?_ ?_
    ·refine jG 0 15 ⟨[V 2 (bv a2),V 3 (bv a3),V 4 (bv a4),V 11 (iv (if x2 > x1 then x2 else x1)),V 12 (.osl 0 0 (List.length x17) 1),V 13 (.osl 1 0 (List.length x4) 1),V 14 (iv x18),V 31 (.osl 0 0 (List.length x17) 1),V 32 (iv x18),V 77 (bv true)],[(0,.rows 1 (List.map cT x17)),(1,.rows 1 (List.map cT x4))],2⟩ ?_
     refine jr_nil rfl ?_
     exact jx_mid rfl (wkR [(0,some 0),(1,some 1)] (fix_nil _) (pc (hL 0 (noid_map ni_T _)) (pc (hL 1 (noid_map ni_T _)) allp_nil)))
    refine jG 0 2 ⟨[V 2 (bv a2),V 3 (bv a3),V 4 (bv a4),V 11 (iv (if x2 > x1 then x2 else x1)),V 12 (.osl 0 0 (List.length x17) 1),V 13 (.osl 1 0 (List.length x4) 1),V 14 (iv x18),V 31 (.osl 0 0 (List.length x17) 1),V 32 (iv x18),(62,.lit false),V 63 (.osl 0 0 (List.length x17) 1),V 64 (iv x18)],[(0,.rows 1 (List.map cT x17)),(1,.rows 1 (List.map cT x4))],2⟩ ?_
    refine jr_part (i:=2) (mo:=ixl x17 x18) rfl rfl rfl rfl (fun _ hc=>aop_ixo0 (sz:=1) (e:=4) (kk:=.i64) (id:=0) (by kernel_rfl) (by kernel_rfl) (by kernel_rfl) (by kernel_rfl) hc) (fun _=>rfl) ?_
    intro x50 h50
    refine jr_one (i:=3) (v:=bv x50) rfl rfl rfl rfl (aop_ldo (l:=x17) (c:=cT) (id:=0) (k:=(Int.toNat x18)) (sz:=1) (off:=0) (a:=x50) (by kernel_rfl) (by kernel_rfl) (ixl_lt h50).2.2 (by kernel_rfl)) rfl ?_
    refine jG 4 2 ⟨[V 2 (bv a2),V 3 (bv a3),V 4 (bv a4),V 11 (iv (if x2 > x1 then x2 else x1)),V 12 (.osl 0 0 (List.length x17) 1),V 13 (.osl 1 0 (List.length x4) 1),V 14 (iv x18),V 31 (.osl 0 0 (List.length x17) 1),V 32 (iv x18),(62,.lit false),V 68 (bv (!x50))],[(0,.rows 1 (List.map cT x17)),(1,.rows 1 (List.map cT x4))],2⟩ ?_
    refine jr_bind 6 5 (fun x52=>⟨[V 2 (bv a2),V 3 (bv a3),V 4 (bv a4),V 11 (iv (if x2 > x1 then x2 else x1)),V 12 (.osl 0 0 (List.length x17) 1),V 13 (.osl 1 0 (List.length x4) 1),V 14 (iv x18),V 31 (.osl 0 0 (List.length x17) 1),V 32 (iv x18),V 62 (bv false),V 73 (bv x52)],[(0,.rows 1 (List.map cT x17)),(1,.rows 1 (List.map cT x4))],2⟩) ?_ ?_
    ·refine jSp 68 ?_ ?_
     ·refine jG 0 2 ⟨[V 2 (bv a2),V 3 (bv a3),V 4 (bv a4),V 11 (iv (if x2 > x1 then x2 else x1)),V 12 (.osl 0 0 (List.length x17) 1),V 13 (.osl 1 0 (List.length x4) 1),V 14 (iv x18),V 31 (.osl 0 0 (List.length x17) 1),V 32 (iv x18),(62,.lit false),(68,.lit true),V 69 (.osl 1 0 (List.length x4) 1),V 70 (iv x18)],[(0,.rows 1 (List.map cT x17)),(1,.rows 1 (List.map cT x4))],2⟩ ?_
      refine jr_part (i:=2) (mo:=ixl x4 x18) rfl rfl rfl rfl (fun _ hc=>aop_ixo0 (sz:=1) (e:=4) (kk:=.i64) (id:=1) (by kernel_rfl) (by kernel_rfl) (by kernel_rfl) (by kernel_rfl) hc) (fun _=>rfl) ?_
      intro x53 h53
      refine jr_one (i:=3) (v:=bv x53) rfl rfl rfl rfl (aop_ldo (l:=x4) (c:=cT) (id:=1) (k:=(Int.toNat x18)) (sz:=1) (off:=0) (a:=x53) (by kernel_rfl) (by kernel_rfl) (ixl_lt h53).2.2 (by kernel_rfl)) rfl ?_
      refine jG 4 1 ⟨[V 2 (bv a2),V 3 (bv a3),V 4 (bv a4),V 11 (iv (if x2 > x1 then x2 else x1)),V 12 (.osl 0 0 (List.length x17) 1),V 13 (.osl 1 0 (List.length x4) 1),V 14 (iv x18),V 31 (.osl 0 0 (List.length x17) 1),V 32 (iv x18),(62,.lit false),V 73 (bv x53)],[(0,.rows 1 (List.map cT x17)),(1,.rows 1 (List.map cT x4))],2⟩ ?_
      refine jr_nil rfl ?_
      exact jx_mid rfl (wkR [(0,some 0),(1,some 1)] (fix_nil _) (pc (hL 0 (noid_map ni_T _)) (pc (hL 1 (noid_map ni_T _)) allp_nil)))
     refine jG 0 5 ⟨[V 2 (bv a2),V 3 (bv a3),V 4 (bv a4),V 11 (iv (if x2 > x1 then x2 else x1)),V 12 (.osl 0 0 (List.length x17) 1),V 13 (.osl 1 0 (List.length x4) 1),V 14 (iv x18),V 31 (.osl 0 0 (List.length x17) 1),V 32 (iv x18),(62,.lit false),V 73 (bv false)],[(0,.rows 1 (List.map cT x17)),(1,.rows 1 (List.map cT x4))],2⟩ ?_
     refine jr_nil rfl ?_
     exact jx_mid rfl (wkR [(0,some 0),(1,some 1)] (fix_nil _) (pc (hL 0 (noid_map ni_T _)) (pc (hL 1 (noid_map ni_T _)) allp_nil)))
    intro x52
    refine jr_lit (g:=62) (b:=false) (by kernel_rfl) ?_
    refine jG 11 4 ⟨[V 2 (bv a2),V 3 (bv a3),V 4 (bv a4),V 11 (iv (if x2 > x1 then x2 else x1)),V 12 (.osl 0 0 (List.length x17) 1),V 13 (.osl 1 0 (List.length x4) 1),V 14 (iv x18),V 31 (.osl 0 0 (List.length x17) 1),V 32 (iv x18),V 77 (bv (x52 && a4))],[(0,.rows 1 (List.map cT x17)),(1,.rows 1 (List.map cT x4))],2⟩ ?_
    refine jr_nil rfl ?_
    exact jx_mid rfl (wkR [(0,some 0),(1,some 1)] (fix_nil _) (pc (hL 0 (noid_map ni_T _)) (pc (hL 1 (noid_map ni_T _)) allp_nil)))
   intro x49
   refine jr_part (i:=47) (mo:=ixl x17 x18) rfl rfl rfl rfl (fun _ hc=>aop_ixo0 (sz:=1) (e:=4) (kk:=.i64) (id:=0) (by kernel_rfl) (by kernel_rfl) (by kernel_rfl) (by kernel_rfl) hc) (fun _=>rfl) ?_
   intro x54 h54
   refine jr_sto (i:=48) [2,3,4,11,12,13,14] [0,1] (st1:=⟨[V 2 (bv a2),V 3 (bv a3),V 4 (bv a4),V 11 (iv (if x2 > x1 then x2 else x1)),V 12 (.osl 0 0 (List.length (List.set x17 (Int.toNat x18) x49)) 1),V 13 (.osl 1 0 (List.length x4) 1),V 14 (iv x18)],[(0,.rows 1 (List.map cT (List.set x17 (Int.toNat x18) x49))),(1,.rows 1 (List.map cT x4))],2⟩) rfl rfl rfl rfl (aop_sto (l:=x17) (c:=cT) (id:=0) (k:=(Int.toNat x18)) (sz:=1) (off:=0) (a:=x54) (a':=x49) (w:=bv x49) (cs:=[bv x49]) (by kernel_rfl) (by kernel_rfl) (by kernel_rfl) (by kernel_rfl) (by kernel_rfl) (ixl_lt h54).2.2 (Nat.le_of_ble_eq_true rfl) (by kernel_rfl)) (by simp only[List.length_set]; kernel_rfl) ?_
   refine jr_nil rfl ?_
   refine jx_blkN ?_
   refine jx_seqN ?_
   refine jT ⟨[V 2 (bv a2),V 3 (bv a3),V 4 (bv a4),V 11 (iv (if x2 > x1 then x2 else x1)),V 12 (.osl 0 0 (List.length (List.set x17 (Int.toNat x18) x49)) 1),V 13 (.osl 1 0 (List.length x4) 1),V 14 (iv (w64 (x18 + 1)))],[(0,.rows 1 (List.map cT (List.set x17 (Int.toNat x18) x49))),(1,.rows 1 (List.map cT x4))],2⟩ ?_
   exact jx_next (wkR [(0,some 0),(1,some 1)] (fix_nil _) (pc (hL 0 (noid_map ni_T _)) (pc (hL 1 (noid_map ni_T _)) allp_nil)))
  refine jc_exit ?_
  refine jx_seqE ?_
  exact jx_done rfl nofun (wkR [(0,some 0)] (fix_nil _) (pc (hL 0 (noid_map ni_T _)) allp_nil))
 intro x33
 refine jx_blkE ?_
 refine jx_seqN ?_
 refine jR ?_
 refine jG 0 1 ⟨[V 79 (.osl 0 0 (List.length x33) 1)],[(0,.rows 1 (List.map cT x33))],1⟩ ?_
 refine jr_callM 1 [(0,some 0)] [(0,some 0),(1,some 1)] (fun r:List S_api_Span=>[(0,.rows 1 (List.map cT x33)),(1,.rows 2 (List.map c_S_api_Span r))]) (fun r:List S_api_Span=>.osl 1 0 (List.length r) 2) 2 (ref07_Where_ok x33) (pc (hL 0 (noid_map ni_T _)) allp_nil) (fun r=>(pc (.inr (hL 0 (noid_map ni_T _))) (pc (.inr (hL 1 (noid_map ni_S_api_Span _))) allp_nil))) ?_
 rintro x55 hm1
 refine jG 2 1 ⟨[V 10 (.osl 1 0 (List.length x55) 2)],[(1,.rows 2 (List.map c_S_api_Span x55))],2⟩ ?_
 refine jN ?_
 refine jc_ret ?_
 exact jx_retF (.inr rfl) (v:=.osl 1 0 (List.length x55) 2) (by kernel_rfl) (snapc_own fz_S_api_Span (by kernel_rfl)) (fle_refl _))
abbrev law07_copied_r1:List LO:=[lo 2 (.assign (.const (.slice none 0 0))) 22]
abbrev law07_copied_r2:List LO:=[lo 3 (.buildSlice 22 0 #[]) 22,lm 4 0 22,lo 5 (.call ⟨.builtin .append,#[.tmp 3,.tmp 4],#[22,22]⟩) 22,lo 2 (.assign (.tmp 5)) 22]
abbrev law07_copied_c:LC:=.seq (.reg false law07_copied_r1) (.seq (.reg false law07_copied_r2) .ret)
theorem law07_copied_k:FnOk E 23 6 [.tmp 2] law07_copied_c:=⟨⟨Go.Proofs.Tryd.f23,by kernel_rfl,by kernel_rfl,by kernel_rfl,by kernel_rfl,by kernel_rfl⟩,rfl,rfl⟩
noncomputable def law07_copied (a0:(List S_api_Span)):Option ((List S_api_Span)):=Option.bind (app 16 ([]:List S_api_Span) a0) (fun x1=>some x1)
theorem law07_copied_ok (a0:(List S_api_Span)):Ct E 23 [.fsl 2 (List.map c_S_api_Span a0)] (law07_copied a0) (fun r:(List S_api_Span)=>.fsl 2 (List.map c_S_api_Span r)):=ct_intro (N:=6) (L:=law07_copied_c) law07_copied_k rfl (Nat.le_of_ble_eq_true rfl) (by kernel_rfl) (by
 unfold law07_copied
 refine jS ⟨[V 0 (.fsl 2 (List.map c_S_api_Span a0))],[],0⟩ ?_
 refine jR ?_
 refine jG 0 2 ⟨[V 3 (.osl 0 0 (List.length ([]:List S_api_Span)) 2),V 4 (.fsl 2 (List.map c_S_api_Span a0))],[(0,.rows 2 (List.map c_S_api_Span ([]:List S_api_Span)))],1⟩ ?_
 refine jr_two (i:=2) (C:=a0=[]) (st1:=fun x1=>⟨[V 5 (.osl 1 0 (List.length x1) 2)],[(1,.rows 2 (List.map c_S_api_Span x1))],2⟩) rfl rfl rfl rfl (fun q _ hc=>aop_app (u:=.osl 0 0 (List.length ([]:List S_api_Span)) 2) (w:=.fsl 2 (List.map c_S_api_Span a0)) (e:=45) (td:=.slice 45) (by kernel_rfl) (by kernel_rfl) (by kernel_rfl) (by kernel_rfl) (.inl ⟨_,rfl⟩) (appendOf_own (c:=c_S_api_Span) (sz:=2) (b:=16) (id:=0) (by kernel_rfl) (by kernel_rfl) rows_fsl q hc)) (fun q _ hc=>aop_app (u:=.osl 0 0 (List.length ([]:List S_api_Span)) 2) (w:=.fsl 2 (List.map c_S_api_Span a0)) (e:=45) (td:=.slice 45) (by kernel_rfl) (by kernel_rfl) (by kernel_rfl) (by kernel_rfl) (.inl ⟨_,rfl⟩) (appendOf_same (c:=c_S_api_Span) (sz:=2) (b:=16) (m:=a0) (by kernel_rfl) (.inr (.inr ⟨_,_,_,_,rfl⟩)) rows_fsl q)) (fun _=>rfl) (fun _=>rfl) (fun _=>wkR [(1,some 1)] (fix_nil _) (pc (hL 1 (noid_map ni_S_api_Span _)) allp_nil)) (fun q _ hc=>by cases app_same q hc; exact wkR [(1,some 0)] (fix_nil _) (pc (hL 0 (noid_map ni_S_api_Span _)) allp_nil)) ?_
 intro x1 h1
 refine jG 3 1 ⟨[V 2 (.osl 1 0 (List.length x1) 2)],[(1,.rows 2 (List.map c_S_api_Span x1))],2⟩ ?_
 refine jN ?_
 refine jc_ret ?_
 exact jx_retF (.inr rfl) (v:=.osl 1 0 (List.length x1) 2) (by kernel_rfl) (snapc_own fz_S_api_Span (by kernel_rfl)) (fle_refl _))
abbrev ref07_Union_r1:List LO:=[lo 4 (.assign (.const (.slice none 0 0))) 22]
abbrev ref07_Union_r2:List LO:=[lm 5 0 22,lm 6 1 22,lo 7 (.call ⟨.value (.func 51),#[.tmp 5,.tmp 6,.const (.bool true),.const (.bool true),.const (.bool true)],#[22,22,4,4,4]⟩) 22,lo 4 (.assign (.tmp 7)) 22]
abbrev ref07_Union_c:LC:=.seq (.reg false ref07_Union_r1) (.seq (.reg false ref07_Union_r2) .ret)
theorem ref07_Union_k:FnOk E 24 8 [.tmp 4] ref07_Union_c:=⟨⟨Go.Proofs.Tryd.f24,by kernel_rfl,by kernel_rfl,by kernel_rfl,by kernel_rfl,by kernel_rfl⟩,rfl,rfl⟩
noncomputable def ref07_Union (a0:(List S_api_Span)) (a1:(List S_api_Span)):Option ((List S_api_Span)):=Option.bind (ref07_both a0 a1 true true true) (fun x1=>some x1)
theorem ref07_Union_ok (a0:(List S_api_Span)) (a1:(List S_api_Span)):Ct E 24 [.fsl 2 (List.map c_S_api_Span a0),.fsl 2 (List.map c_S_api_Span a1)] (ref07_Union a0 a1) (fun r:(List S_api_Span)=>.fsl 2 (List.map c_S_api_Span r)):=ct_intro (N:=8) (L:=ref07_Union_c) ref07_Union_k rfl (Nat.le_of_ble_eq_true rfl) (by kernel_rfl) (by
 unfold ref07_Union
 refine jS ⟨[V 0 (.fsl 2 (List.map c_S_api_Span a0)),V 1 (.fsl 2 (List.map c_S_api_Span a1))],[],0⟩ ?_
 refine jR ?_
 refine jG 0 2 ⟨[V 5 (.fsl 2 (List.map c_S_api_Span a0)),V 6 (.fsl 2 (List.map c_S_api_Span a1))],[],0⟩ ?_
 refine jK 2 (ref07_both_ok a0 a1 true true true) ?_
 intro x1 h1
 refine jG 3 1 ⟨[V 4 (.fsl 2 (List.map c_S_api_Span x1))],[],0⟩ ?_
 refine jN ?_
 refine jc_ret ?_
 exact jx_retF (.inr rfl) (v:=.fsl 2 (List.map c_S_api_Span x1)) (by kernel_rfl) rfl (fle_refl _))
end Go.Vm
